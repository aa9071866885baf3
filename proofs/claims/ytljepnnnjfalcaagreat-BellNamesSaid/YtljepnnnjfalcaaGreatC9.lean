/- A condition generator over the model's code, proved sound: what a function's body must come to is told as conditions on plain data. Conditions: none of ours. -/
import Derived.Test.YtljepnnnjfalcaaGreatC6
set_option autoImplicit false
set_option linter.all false
namespace Go.VM
open Go Go.Lib
structure RowSp where
 ins:List Ty
 et:TypeId
 e:Ty
 pre:Ds ins→Prop
 fn:Ds ins→List e.D
def RowSp.x (r:RowSp):XOp where
 fr:=fun L h f as=>match viewAll L h r.ins as with
  | some (x,ids)=>match hasAmb h ids with
    | true=>.o (r.pre x) (.new (.c (.own f (L.llen r.e (r.fn x)))) [.row r.et r.e (r.fn x)] ids)
    | false=>.bad
  | none=>.bad
def rowVC (L:Lv) (E:Ev) (call:CallG) (spc:Spc) (d:FnD) (r:RowSp) (x:Ds r.ins):VC:=bodyVC L E call spc d (outVs r.ins x) [(0,.amb)] 1 fun y hp _=>match lookA hp 0,y with
 | some .amb,.c (.own id n)=>match lookA hp id with
   | some (.row et' e' l')=>if q:e' = r.e then .ok (et' = r.et∧castL q l' = r.fn x∧n = L.llen e' l') else .bad
   | _=>.bad
 | some .amb,.c .nils=>.ok (r.fn x = [])
 | _,_=>.bad
theorem rowX_ok {P:Program} {E:Ev} (hm:P.follows .mixedOrders = true) (hE:∀ t i,E t = some i→TIok P t i) {fns:FuncId→FT} (n:Nat) (ht:TableOk P fns) {g:FuncId} {d:FnD} (hg:FnOk P g d)
  (r:RowSp) (h:∀ x,r.pre x→Holds (rowVC Lv.std E (callG Lv.std E fns n) (spcOf fns) d r x)):XOk P g r.x where
 has:=hg.has
 mono:=fun L h h' f as hl=>by
  unfold RowSp.x
  simp only
  cases hv:viewAll L h r.ins as with
  | none=>exact .inl rfl
  | some r' =>
    rw [YT L hl _ _ _ hv]
    simp only
    cases ha:hasAmb h r'.2 with
    | false=>exact .inl rfl
    | true=>right; rw [Y2 hl ha]
 num:=fun L h f f' as l hl hn=>by
  unfold RowSp.x at hl
  simp only at hl
  split at hl
  ·split at hl
   ·obtain ⟨_,hl⟩:=hl; cases hl; cases hn
   ·exact hl.elim
  ·exact hl.elim
 run:=fun φ hp f w as vs l' hh hv' hl=>by
  unfold RowSp.x at hl
  simp only at hl
  split at hl
  rotate_left
  ·exact hl.elim
  rename_i x ids hvw
  split at hl
  rotate_left
  ·exact hl.elim
  rename_i hA
  obtain ⟨hpre,hl⟩:=hl
  cases hl
  have hK:=YG hh r.ins as vs x ids hvw hv'
  have hG0:=Y1 hh hA
  generalize hok:okb φ (delAll hp ids) = ok at hK hG0
  let S:Nat→Prop:=fun b=>b < w.heap.size∧¬ ok b
  let φ0:Phi:=fun id=>if id = 0 then some (.set S w) else none
  have hh0:HRel φ0 [(0,.amb)] 1 w:=by
   refine ⟨fun id o ho=>?_,fun id hid=>?_,fun i j o o' p q b h1 h2 hne=>?_⟩
   ·simp only [lookA,ifb] at ho
    split at ho
    ·rename_i e; subst e; cases ho
     exact ⟨S,w,rfl,⟨hG0.1,fun b hb=>⟨XD hG0.1 hb,hG0.2 b hb⟩⟩,fun b hb=>⟨hb.1,rfl⟩⟩
    ·cases ho
   ·show (if id = 0 then _ else none) = none
    rw [if_neg (by omega)]
   ·simp only [lookA,ifb] at h1 h2
    split at h1
    ·split at h2
     ·rename_i e1 e2; exact absurd (e1.symm.trans e2) hne
     ·cases h2
    ·cases h1
  have hokb:∀ b,ok b→okb φ0 [(0,.amb)] b:=fun b hb id o p h1 h2 h3=>by
   simp only [lookA,ifb] at h1
   split at h1
   ·rename_i e; subst e
    have h2':some (Place.set S w) = some p:=h2
    cases h2'
    exact h3.2 hb
   ·cases h1
  have hv:L2 (Vrel φ0 (okb φ0 [(0,.amb)]) w) (outVs r.ins x) vs:=Xw _ _ _ (YX (fun b hb _=>⟨rfl,hokb b hb⟩) _ _ _ hK)
  refine (YS hm hE (YN hm hE ht n) (Y4 ht) (Xi ht) hg (h x hpre).h hh0 hv).mono fun e w' he=>?_
  obtain ⟨u,rfl,φ',hp',nx',y,k1,k2,k3,k4⟩:=he
  refine ⟨u,rfl,?_⟩
  have hφ0:φ' 0 = some (.set S w):=k3.ph 0 _ rfl
  have hd:=hh.delAll ids
  have below:lookA hp' 0 = some .amb→Go.RowKit.Below w.heap.size w w':=fun hamb=>by
   obtain ⟨S',w0,g1,_,g2⟩:=k2.ob 0 _ hamb
   rw [hφ0] at g1; cases g1
   refine ⟨k3.os,k3.tape,k3.output,k3.size,fun b hb=>?_⟩
   by_cases hob:ok b
   ·exact k3.bl b hb (hokb b hob)
   ·exact (g2 b ⟨hb,hob⟩).2
  have fin:∀ (p:Place),lookA hp' 0 = some .amb→(∀ b,p.S b→w.heap.size≤b)→Orel (phiSet φ f p) (okb (phiSet φ f p) ((f,.row r.et r.e (r.fn x)) :: delAll hp ids)) w' f (.row r.et r.e (r.fn x)) →
    Crel (phiSet φ f p) (okb (phiSet φ f p) ((f,.row r.et r.e (r.fn x)) :: delAll hp ids)) w' (.own f (Lv.std.llen r.e (r.fn x))) u →
    LeafOk φ hp w f (Leaf.nx (⟨.c (.own f (Lv.std.llen r.e (r.fn x))),some (.row r.et r.e (r.fn x)),ids,none⟩:Leaf) f) ⟨.c (.own f (Lv.std.llen r.e (r.fn x))),some (.row r.et r.e (r.fn x)),ids,none⟩ u w':=fun p hamb hbig hO hC=>by
   have hB:=below hamb
   have hn:=hd.new (Nat.le_refl f) (.row r.et r.e (r.fn x)) p hB hbig hO
   have hev:=(Yw φ w ids hp).trans (Xq hd (Nat.le_refl f) (.row r.et r.e (r.fn x)) p hB hbig)
   refine ⟨_,_,fun i=>rfl,hn,hev,hC,fun i hi=>?_⟩
   by_cases hif:i = f
   ·exact .inr ⟨rfl,hif⟩
   ·refine .inl ?_
    simp only [phiSet,if_neg hif] at hi
    exact hi
  split at k1
  ·rename_i id len hamb
   split at k1
   rotate_left
   ·exact k1.elim
   rename_i et' e' l' hrow
   split at k1
   rotate_left
   ·exact k1.elim
   rename_i q
   subst q
   obtain ⟨q1,q2,q3⟩:=k1
   subst q1
   have q2':l' = r.fn x:=q2
   subst q2'
   have hid:id ≠ 0:=fun e=>by subst e; rw [hamb] at hrow; cases hrow
   have k4':Crel φ' (okb φ' hp') w' (.own id len) u:=k4
   rw [q3] at k4'
   rcases k2.ob id _ hrow with ⟨o1,o2⟩ | ⟨b,cap,arr,o1,o2,o3,o4,o5⟩
   ·refine fin .nil hamb (fun b hb=>hb.elim) (.inl ⟨Zw _ _ _,o2⟩) ?_
    rcases k4' with ⟨c1,c2,c3⟩ | ⟨b,sz,cap,n,c1,_⟩
    ·exact .inl ⟨Zw _ _ _,c2,c3⟩
    ·rw [o1] at c1; cases c1
   ·have hbig:w.heap.size≤b:=by
     rcases k3.ow id _ _ b hrow o1 rfl with h | h
     ·exact h
     ·refine Classical.byContradiction fun hc=>?_
      exact k2.dj 0 id _ _ _ _ b hamb hrow (fun e=>hid e.symm) hφ0 o1 ⟨by omega,fun hob=>h (hokb b hob)⟩ rfl
    refine fin (.at b r.e.n cap (List.length (α:=r.e.D) (r.fn x))) hamb (fun c hc=>by cases hc; exact hbig) (.inr ⟨b,cap,arr,Zw _ _ _,o2,o3,o4,fun j y hy=>?_⟩) ?_
    ·obtain ⟨vs',kk,kc⟩:=o5 j y hy
     refine ⟨vs',YI (fun c hc _=>⟨rfl,fun i o p h1 h2 h3=>?_⟩) _ _ _ kk,kc⟩
     simp only [lookA,ifb] at h1
     split at h1
     ·rename_i e
      subst e
      rw [Zw] at h2
      cases h2
      have hcb:c = b:=h3
      exact hc id _ _ hrow o1 hcb
     ·rename_i e
      have h2':φ i = some p:=by
       simp only [phiSet] at h2
       rw [if_neg (fun h=>e h.symm)] at h2; exact h2
      obtain ⟨q,hq,hlt⟩:=(hd.ob i _ h1).has
      rw [h2'] at hq; cases hq
      refine hc 0 .amb _ hamb hφ0 ⟨hlt c h3,fun hoc=>?_⟩
      rw [← hok] at hoc
      exact hoc i _ _ h1 h2' h3
    ·rcases k4' with ⟨c1,_⟩ | ⟨b',sz,cap',n',c1,c2,c3⟩
     ·rw [o1] at c1; cases c1
     ·rw [o1] at c1; cases c1
      exact .inr ⟨b,_,_,_,Zw _ _ _,c2,c3⟩
  ·rename_i hamb
   have hnil:r.fn x = []:=k1
   have hu:u = .slice none 0 0:=k4
   exact fin .nil hamb (fun b hb=>hb.elim) (.inl ⟨Zw _ _ _,hnil⟩) (.inl ⟨Zw _ _ _,by rw [hnil]; rfl,none,hu⟩)
  ·exact k1.elim
def tabC:C→Bool
 | .int _ _=>true
 | .fn _ []=>true
 | _=>false
theorem tabC_rel {φ φ':Phi} {ok ok':Nat→Prop} {w w':World} {c:C} {v:Value} (h:tabC c = true) (hr:Crel φ ok w c v):Crel φ' ok' w' c v:=by
 cases c with
 | int k n=>exact hr
 | fn f caps =>
   cases caps with
   | nil =>
     obtain ⟨vs,h1,h2⟩:=hr
     cases vs with
     | nil=>exact ⟨[],h1,trivial⟩
     | cons _ _=>exact h2.elim
   | cons _ _=>cases h
 | _=>cases h
theorem tab_rel {φ φ':Phi} {ok ok':Nat→Prop} {w w':World}:∀ {l:List (C × C)} {es:List MapEntry},l.all (fun x=>tabC x.1 && tabC x.2) = true →
  L2 (fun (x:C × C) (e:MapEntry)=>Crel φ ok w x.1 e.key∧Crel φ ok w x.2 e.val) l es→L2 (fun (x:C × C) (e:MapEntry)=>Crel φ' ok' w' x.1 e.key∧Crel φ' ok' w' x.2 e.val) l es
 | [],[],_,_=>trivial
 | x :: l,e :: es,h,h1=>by
   simp only [List.all_cons,Bool.and_eq_true] at h
   exact ⟨⟨tabC_rel h.1.1 h1.1.1,tabC_rel h.1.2 h1.1.2⟩,tab_rel h.2 h1.2⟩
 | [],_ :: _,_,h=>h.elim
 | _ :: _,[],_,h=>h.elim
def mapcX (l:List (C × C)):XOp where
 fr:=fun L h f as=>match as with
  | []=>match hasAmb h [] with
    | true=>.new (.c (.map f)) [.mapc l] []
    | false=>.bad
  | _=>.bad
def mapcVC (L:Lv) (E:Ev) (call:CallG) (spc:Spc) (d:FnD) (l:List (C × C)):VC:=bodyVC L E call spc d [] [(0,.amb)] 1 fun y hp _=>match lookA hp 0,y with
 | some .amb,.c (.map id)=>match lookA hp id with
   | some (.mapc l')=>.ok (l' = l)
   | _=>.bad
 | _,_=>.bad
theorem mapcX_ok {P:Program} {E:Ev} (hm:P.follows .mixedOrders = true) (hE:∀ t i,E t = some i→TIok P t i) {fns:FuncId→FT} (n:Nat) (ht:TableOk P fns) {g:FuncId} {d:FnD} (hg:FnOk P g d)
  (l:List (C × C)) (hl0:l.all (fun x=>tabC x.1 && tabC x.2) = true) (h:Holds (mapcVC Lv.std E (callG Lv.std E fns n) (spcOf fns) d l)):XOk P g (mapcX l) where
 has:=hg.has
 mono:=fun L h h' f as hl=>by
  unfold mapcX
  simp only
  split
  ·cases ha:hasAmb h [] with
   | false=>exact .inl rfl
   | true=>right; rw [Y2 hl ha]
  ·exact .inl rfl
 num:=fun L h f f' as l hl hn=>by
  unfold mapcX at hl
  simp only at hl
  split at hl
  ·split at hl
   ·cases hl; cases hn
   ·exact hl.elim
  ·exact hl.elim
 run:=fun φ hp f w as vs l' hh hv' hl=>by
  unfold mapcX at hl
  simp only at hl
  split at hl
  ·split at hl
   rotate_left
   ·exact hl.elim
   rename_i hA
   cases hl
   match vs,hv' with
   | [],_=>?_
   let S:Nat→Prop:=fun b=>b < w.heap.size
   let φ0:Phi:=fun id=>if id = 0 then some (.set S w) else none
   have hG:=(Y1 hh hA).1
   have hh0:HRel φ0 [(0,.amb)] 1 w:=by
    refine ⟨fun id o ho=>?_,fun id hid=>?_,fun i j o o' p q b h1 h2 hne=>?_⟩
    ·simp only [lookA,ifb] at ho
     split at ho
     ·rename_i e; subst e; cases ho
      exact ⟨S,w,rfl,⟨hG,fun b hb=>XD hG hb⟩,fun b hb=>⟨hb,rfl⟩⟩
     ·cases ho
    ·show (if id = 0 then _ else none) = none
     rw [if_neg (by omega)]
    ·simp only [lookA,ifb] at h1 h2
     split at h1
     ·split at h2
      ·rename_i e1 e2; exact absurd (e1.symm.trans e2) hne
      ·cases h2
     ·cases h1
   refine (YS hm hE (YN hm hE ht n) (Y4 ht) (Xi ht) hg (as:=[]) (vs:=[]) h.h hh0 trivial).mono fun e w' he=>?_
   obtain ⟨u,rfl,φ',hp',nx',y,k1,k2,k3,k4⟩:=he
   refine ⟨u,rfl,?_⟩
   split at k1
   ·rename_i id hamb
    split at k1
    ·rename_i m hm'
     ··have hml:m = l:=k1
       subst hml
       have hφ0:φ' 0 = some (.set S w):=k3.ph 0 _ rfl
       obtain ⟨S',w0,g1,_,g2⟩:=k2.ob 0 _ hamb
       rw [hφ0] at g1; cases g1
       obtain ⟨b,es,clock,o1,o2,o3⟩:=k2.ob id _ hm'
       have hid:id ≠ 0:=fun e=>by subst e; rw [hamb] at hm'; cases hm'
       have hbig:w.heap.size≤b:=by
        refine Classical.byContradiction fun hc=>?_
        exact k2.dj 0 id _ _ _ _ b hamb hm' (fun e=>hid e.symm) hφ0 o1 (show b < w.heap.size by omega) rfl
       have hB:Go.RowKit.Below w.heap.size w w':=⟨k3.os,k3.tape,k3.output,k3.size,fun b hb=>(g2 b hb).2⟩
       obtain ⟨b',_,_,_,p1,p2⟩:=k4
       rw [o1] at p1; cases p1
       have hO:Orel (phiSet φ f (.at b 1 0 0)) (okb (phiSet φ f (.at b 1 0 0)) ((f,.mapc m) :: hp)) w' f (.mapc m):=by
        refine ⟨b,es,clock,by simp [phiSet],o2,tab_rel hl0 o3⟩
       have hn:=hh.new (Nat.le_refl f) (.mapc m) (.at b 1 0 0) hB (fun c hc=>by cases hc; exact hbig) hO
       have hev:=Xq hh (Nat.le_refl f) (.mapc m) (.at b 1 0 0) hB (fun c hc=>by cases hc; exact hbig)
       refine ⟨_,_,fun i=>rfl,hn,hev,⟨b,1,0,0,by simp [phiSet],p2⟩,fun i hi=>?_⟩
       by_cases hif:i = f
       ·exact .inr ⟨rfl,hif⟩
       ·refine .inl ?_
        simp only [phiSet,if_neg hif] at hi
        exact hi
    ·exact k1.elim
   ·exact k1.elim
  ·exact hl.elim
end Go.VM
namespace Go.VM
open Go Go.Lib
def fnV (fns:List FuncId):List V:=fns.map fun g=>.c (.fn g [])
def isFns:List FuncId→List V→Bool
 | [],[]=>true
 | g :: r,.c (.fn g' []) :: q=>match Nat.beq g g' with
   | true=>isFns r q
   | false=>false
 | _,_=>false
def cutF (fns:List FuncId) (as:List V):Option (List V):=match isFns fns (as.drop (as.length - fns.length)) with
 | true=>some (as.take (as.length - fns.length))
 | false=>none
theorem isFns_rel {φ φ':Phi} {ok ok':Nat→Prop} {w w':World}:∀ (fns:List FuncId) (as:List V) (vs:List Value),isFns fns as = true→L2 (Vrel φ ok w) as vs→L2 (Vrel φ' ok' w') (fnV fns) vs
 | [],[],[],_,_=>trivial
 | g :: r,.c (.fn g' []) :: q,v :: vs,h,hl=>by
   unfold isFns at h
   split at h
   ·rename_i hg
    have:=Yt hg
    subst this
    refine ⟨?_,isFns_rel r q vs h hl.2⟩
    obtain ⟨us,h1,h2⟩:=hl.1
    cases us with
    | nil=>exact ⟨[],h1,trivial⟩
    | cons _ _=>exact h2.elim
   ·cases h
 | [],[],_ :: _,_,hl=>hl.elim
 | _ :: _,.c (.fn _ []) :: _,[],_,hl=>hl.elim
theorem cutF_ok {φ φ':Phi} {ok ok':Nat→Prop} {w w':World} {fns:List FuncId} {as as':List V} {vs:List Value} (h:cutF fns as = some as') (hl:L2 (Vrel φ ok w) as vs) :
  ∃ us fs,vs = us ++ fs∧L2 (Vrel φ ok w) as' us∧L2 (Vrel φ' ok' w') (fnV fns) fs:=by
 unfold cutF at h
 split at h
 ·rename_i hi
  cases h
  exact ⟨vs.take (as.length - fns.length),vs.drop (as.length - fns.length),(List.take_append_drop _ _).symm,Xr _ hl,isFns_rel fns _ _ hi (Xs _ hl)⟩
 ·cases h
theorem fnV_any {φ φ':Phi} {ok ok':Nat→Prop} {w w':World}:∀ {fns:List FuncId} {fs:List Value},L2 (Vrel φ ok w) (fnV fns) fs→L2 (Vrel φ' ok' w') (fnV fns) fs
 | [],[],_=>trivial
 | g :: r,v :: fs,h=>by
   refine ⟨?_,fnV_any (fns:=r) h.2⟩
   obtain ⟨us,h1,h2⟩:=h.1
   cases us with
   | nil=>exact ⟨[],h1,trivial⟩
   | cons _ _=>exact h2.elim
 | [],_ :: _,h | _ :: _,[],h=>h.elim
structure FSp where
 sp:Spec
 fns:List FuncId
def FSp.x (r:FSp):XOp where
 fr:=fun L h f as=>match cutF r.fns as with
  | some as'=>r.sp.x.fr L h f as'
  | none=>.bad
def fspVC (L:Lv) (E:Ev) (call:CallG) (spc:Spc) (d:FnD) (r:FSp) (x:Ds r.sp.ins):VC:=bodyVC L E call spc d (outVs r.sp.ins x ++ fnV r.fns) [(0,.amb)] 1 fun v hp _=>match lookA hp 0 with
 | some .amb=>match viewR L (lookA hp) r.sp.outs v with
   | some (y,ids)=>if ids.contains 0 then .bad else .ok (y = r.sp.fn x)
   | none=>.bad
 | _=>.bad
structure TurnSp where
 et:TypeId
 e:Ty
 ins:List Ty
 pre:List e.D→Ds ins→Prop
 fn:List e.D→Ds ins→List e.D
 fns:List FuncId:=[]
def ambIds (h:H) (id:Nat) (ids:List Nat):Bool:=match hasAmb h ids with
 | true=>!(memN id ids) && !(Nat.beq id 0)
 | false=>false
def TurnSp.own (r:TurnSp) (L:Lv) (h:H) (k:Nat→List r.e.D→Ds r.ins→List Nat→FR):List V→FR
 | .c (.own id n) :: as=>match h id with
   | some (.row et e l)=>if q:e = r.e then match cutF r.fns as with
     | some as'=>match viewAll L h r.ins as' with
       | some (x,ids)=>match ambIds h id ids with
         | true=>.o (et = r.et∧n = L.llen r.e (castL q l)∧r.pre (castL q l) x) (k id (castL q l) x ids)
         | false=>.bad
       | none=>.bad
     | none=>.bad
     else .bad
   | _=>.bad
 | _=>.bad
def TurnSp.x (r:TurnSp):XOp where
 fr:=fun L h f as=>match as with
  | .c .nils :: rest=>match cutF r.fns rest with
    | some as'=>match viewAll L h r.ins as' with
      | some (x,ids)=>match hasAmb h ids with
        | true=>.o (r.pre [] x) (.new (.c (.own f (L.llen r.e (r.fn [] x)))) [.row r.et r.e (r.fn [] x)] ids)
        | false=>.bad
      | none=>.bad
    | none=>.bad
  | as=>r.own L h (fun id l x ids=>.new (.c (.own f (L.llen r.e (r.fn l x)))) [.row r.et r.e (r.fn l x)] (id :: ids)) as
def TurnSp.u (r:TurnSp):XOp where
 fr:=fun L h _ as=>r.own L h (fun id l x ids=>.upd id (.row r.et r.e (r.fn l x)) ids) as
def turnEnd (L:Lv) (r:TurnSp) (res:List r.e.D) (y:V) (hp:Hp):VC:=match lookA hp 0,y with
 | some .amb,.c (.own id n)=>match lookA hp id with
   | some (.row et' e' l')=>if q:e' = r.e then .ok (et' = r.et∧L.take r.e (castL q l') n = res) else .bad
   | _=>.bad
 | some .amb,.c .nils=>.ok (res = [])
 | _,_=>.bad
def updEnd (r:TurnSp) (res:List r.e.D) (hp:Hp):VC:=match lookA hp 0,lookA hp 1 with
 | some .amb,some (.row et' e' l')=>if q:e' = r.e then .ok (et' = r.et∧castL q l' = res) else .bad
 | _,_=>.bad
def turnVC (L:Lv) (E:Ev) (call:CallG) (spc:Spc) (d:FnD) (r:TurnSp) (l:List r.e.D) (x:Ds r.ins):VC :=
 bodyVC L E call spc d (.c (.own 1 (L.llen r.e l)) :: (outVs r.ins x ++ fnV r.fns)) [(0,.amb),(1,.row r.et r.e l)] 2 fun y hp _=>turnEnd L r (r.fn l x) y hp
def turnNVC (L:Lv) (E:Ev) (call:CallG) (spc:Spc) (d:FnD) (r:TurnSp) (x:Ds r.ins):VC :=
 bodyVC L E call spc d (.c .nils :: (outVs r.ins x ++ fnV r.fns)) [(0,.amb)] 1 fun y hp _=>turnEnd L r (r.fn [] x) y hp
def updVC (L:Lv) (E:Ev) (call:CallG) (spc:Spc) (d:FnD) (r:TurnSp) (l:List r.e.D) (x:Ds r.ins):VC :=
 bodyVC L E call spc d (.c (.own 1 (L.llen r.e l)) :: (outVs r.ins x ++ fnV r.fns)) [(0,.amb),(1,.row r.et r.e l)] 2 fun _ hp _=>updEnd r (r.fn l x) hp
theorem ambIds_mono {h h':H} (hl:HLe h h') {id:Nat} {ids:List Nat} (ha:ambIds h id ids = true):ambIds h' id ids = true:=by
 unfold ambIds at ha ⊢
 split at ha
 ·rename_i q; rw [Y2 hl q]; exact ha
 ·cases ha
theorem TurnSp.own_mono (r:TurnSp) (L:Lv) {h h':H} (hl:HLe h h') (k:Nat→List r.e.D→Ds r.ins→List Nat→FR) (as:List V):r.own L h k as = .bad∨r.own L h' k as = r.own L h k as:=by
 unfold TurnSp.own
 split
 ·rename_i id n as
  cases ho:h id with
  | none=>exact .inl rfl
  | some o =>
    simp only [hl id o ho]
    cases o with
    | row et e l =>
      simp only
      split
      ·cases cutF r.fns as with
       | none=>exact .inl rfl
       | some as' =>
         simp only
         cases hv:viewAll L h r.ins as' with
         | none=>exact .inl rfl
         | some q =>
           rw [YT L hl _ _ _ hv]
           simp only
           cases ha:ambIds h id q.2 with
           | false=>exact .inl rfl
           | true=>right; rw [ambIds_mono hl ha]
      ·exact .inl rfl
    | _=>exact .inl rfl
 ·exact .inl rfl
theorem TurnSp.own_leaf {r:TurnSp} {L:Lv} {h:H} {k:Nat→List r.e.D→Ds r.ins→List Nat→FR} {as:List V} {l':Leaf} (hl:FRl (r.own L h k as) l') :
  ∃ id l as' as2 x ids,as = .c (.own id (L.llen r.e l)) :: as'∧h id = some (.row r.et r.e l)∧cutF r.fns as' = some as2∧viewAll L h r.ins as2 = some (x,ids)∧hasAmb h ids = true∧id ∉ ids∧id ≠ 0∧r.pre l x∧FRl (k id l x ids) l':=by
 unfold TurnSp.own at hl
 split at hl
 rotate_left
 ·exact hl.elim
 rename_i id n as
 split at hl
 rotate_left
 ·exact hl.elim
 rename_i et e l hrow
 split at hl
 rotate_left
 ·exact hl.elim
 rename_i q
 subst q
 split at hl
 rotate_left
 ·exact hl.elim
 rename_i as2 hcut
 split at hl
 rotate_left
 ·exact hl.elim
 rename_i x ids hv
 split at hl
 rotate_left
 ·exact hl.elim
 rename_i ha
 obtain ⟨⟨h1,h2,h3⟩,h4⟩:=hl
 subst h1; subst h2
 unfold ambIds at ha
 split at ha
 rotate_left
 ·cases ha
 rename_i hA
 simp only [Bool.and_eq_true,Bool.not_eq_true'] at ha
 refine ⟨id,l,as,as2,x,ids,rfl,hrow,hcut,hv,hA,fun hm=>?_,fun e=>?_,h3,h4⟩
 ·rw [(Ys id ids).2 hm] at ha; cases ha.1
 ·subst e; cases ha.2
theorem turn_start {φ:Phi} {hp:Hp} {f:Nat} {w:World} (hh:HRel φ hp f w) {id:Nat} {et:TypeId} {e:Ty} {l:List e.D} {ids:List Nat} (hrow:lookA hp id = some (.row et e l)) (hA:hasAmb (lookA hp) ids = true) (hid:id ∉ ids) (h0:id ≠ 0) :
  ∃ (p:Place) (S:Nat→Prop) (φ0:Phi),φ id = some p∧φ0 0 = some (.set S w)∧φ0 1 = some p∧(∀ j,j ≠ 0→j ≠ 1→φ0 j = none)∧(∀ b,S b↔(b < w.heap.size∧¬ okb φ (delAll hp ids) b∧¬ p.S b)) ∧
    HRel φ0 [(0,.amb),(1,.row et e l)] 2 w∧(∀ b,okb φ (delAll hp ids) b→okb φ0 [(0,.amb),(1,.row et e l)] b) ∧
    ∀ n v,Crel φ (okb φ hp) w (.own id n) v→Crel φ0 (okb φ0 [(0,.amb),(1,.row et e l)]) w (.own 1 n) v:=by
 obtain ⟨p,hp1,hlt⟩:=(hh.ob id _ hrow).has
 let S:Nat→Prop:=fun b=>b < w.heap.size∧¬ okb φ (delAll hp ids) b∧¬ p.S b
 let φ0:Phi:=fun j=>if j = 0 then some (.set S w) else if j = 1 then some p else none
 have hin:lookA (delAll hp ids) id = some (.row et e l):=by rw [Z0,if_neg hid]; exact hrow
 have hok0:∀ b,okb φ (delAll hp ids) b→¬ p.S b:=fun b hb=>hb id _ _ hin hp1
 have lk:∀ j o,lookA [(0,Ob.amb),(1,Ob.row et e l)] j = some o→(j = 0∧o = .amb)∨(j = 1∧o = .row et e l):=fun j o h=>by
  simp only [lookA,ifb] at h
  split at h
  ·rename_i e; cases h; exact .inl ⟨e.symm,rfl⟩
  ·split at h
   ·rename_i e; cases h; exact .inr ⟨e.symm,rfl⟩
   ·cases h
 have hokb:∀ b,okb φ (delAll hp ids) b→okb φ0 [(0,.amb),(1,.row et e l)] b:=fun b hb j o q h1 h2 h3=>by
  rcases lk j o h1 with ⟨rfl,rfl⟩ | ⟨rfl,rfl⟩
  ·have h2':some (Place.set S w) = some q:=h2
   cases h2'
   exact h3.2.1 hb
  ·have h2':some p = some q:=h2
   cases h2'
   exact hok0 b hb h3
 have hokb':∀ b,okb φ hp b→okb φ0 [(0,.amb),(1,.row et e l)] b:=fun b hb=>hokb b fun j o q h1=>hb j o q (by rw [Z0] at h1; split at h1; cases h1; exact h1)
 have hG:Gl w S:=by
  unfold hasAmb at hA
  split at hA
  rotate_left
  ·cases hA
  rename_i ho
  obtain ⟨S0,w0,z1,⟨z2,z3⟩,z4⟩:∃ S w0,φ 0 = some (.set S w0)∧Gl w0 S∧∀ b,S b→b < w.heap.size∧w.heap[b]? = w0.heap[b]?:=hh.ob 0 _ ho
  have hn:0 ∉ ids:=fun hm=>by rw [(Ys 0 ids).2 hm] at hA; cases hA
  refine ⟨Xb (fun b hb=>(z4 b (z3 b hb)).2) (glN_le fun b hb=>(z4 b (z3 b hb)).1) z2,fun b hb=>⟨(z4 b (z3 b hb)).1,fun hk=>?_,fun hp'=>?_⟩⟩
  ·exact hk 0 .amb _ (by rw [Z0,if_neg hn]; exact ho) z1 (z3 b hb)
  ·exact hh.dj id 0 _ _ _ _ b hrow ho h0 hp1 z1 hp' (z3 b hb)
 refine ⟨p,S,φ0,hp1,rfl,rfl,fun j h1 h2=>?_,fun b=>Iff.rfl,⟨fun j o ho=>?_,fun j hj=>?_,fun i j o o' q q' b h1 h2 hne h3 h4 h5 h6=>?_⟩,hokb,fun n v hv=>?_⟩
 ·show (if j = 0 then _ else if j = 1 then _ else _) = none
  rw [if_neg h1,if_neg h2]
 ·rcases lk j o ho with ⟨rfl,rfl⟩ | ⟨rfl,rfl⟩
  ·exact ⟨S,w,rfl,hG,fun b hb=>⟨hb.1,rfl⟩⟩
  ·rcases hh.ob id _ hrow with ⟨o1,o2⟩ | ⟨b,cap,arr,o1,o2,o3,o4,o5⟩
   ·rw [hp1] at o1; cases o1
    exact .inl ⟨rfl,o2⟩
   ·rw [hp1] at o1; cases o1
    refine .inr ⟨b,cap,arr,rfl,o2,o3,o4,fun j x hx=>?_⟩
    obtain ⟨vs,hk,hv⟩:=o5 j x hx
    exact ⟨vs,K_ok hokb' _ _ _ hk,hv⟩
 ·show (if j = 0 then _ else if j = 1 then _ else _) = none
  rw [if_neg (by omega),if_neg (by omega)]
 ·rcases lk i o h1 with ⟨rfl,rfl⟩ | ⟨rfl,rfl⟩ <;> rcases lk j o' h2 with ⟨rfl,rfl⟩ | ⟨rfl,rfl⟩
  ·exact hne rfl
  ·have h3':some (Place.set S w) = some q:=h3
   have h4':some p = some q':=h4
   cases h3'; cases h4'
   exact h5.2.2 h6
  ·have h4':some (Place.set S w) = some q':=h4
   have h3':some p = some q:=h3
   cases h3'; cases h4'
   exact h6.2.2 h5
  ·exact hne rfl
 ·rcases hv with ⟨c1,c2,c3⟩ | ⟨b,sz,cap,n',c1,c2⟩
  ·exact .inl ⟨by rw [← c1,hp1]; rfl,c2,c3⟩
  ·exact .inr ⟨b,sz,cap,n',by rw [← c1,hp1]; rfl,c2⟩
section
variable {P:Program} {E:Ev}
theorem turn_evo {φ:Phi} {hp:Hp} {f:Nat} {w w':World} (hh:HRel φ hp f w) {id:Nat} {o:Ob} {p:Place} {ids:List Nat} (hrow:lookA hp id = some o) (hp1:φ id = some p) (hid:id ∉ ids)
  (hos:w'.os = w.os) (htape:w'.tape = w.tape) (hout:w'.output = w.output) (hsz:w.heap.size≤w'.heap.size) (hbl:∀ b,b < w.heap.size→¬ p.S b→w'.heap[b]? = w.heap[b]?)
  (o':Ob) {p':Place} (hpl:∀ b,p'.S b→w.heap.size≤b∨p.S b) (ho:Orel (phiSet φ f p') (okb (phiSet φ f p') ((f,o') :: delAll hp (id :: ids))) w' f o') :
  HRel (phiSet φ f p') ((f,o') :: delAll hp (id :: ids)) (f + 1) w'∧Evo φ hp w (phiSet φ f p') ((f,o') :: delAll hp (id :: ids)) w':=by
 have lk:∀ i o1,lookA ((f,o') :: delAll hp (id :: ids)) i = some o1→(i = f∧o1 = o')∨(i ≠ f∧i ≠ id∧i ∉ ids∧lookA hp i = some o1):=fun i o1 h=>by
  simp only [lookA,ifb] at h
  split at h
  ·rename_i e; cases h; exact .inl ⟨e.symm,rfl⟩
  ·rename_i e
   rw [Z0] at h
   split at h
   ·cases h
   ·rename_i hm
    simp only [List.mem_cons,not_or] at hm
    exact .inr ⟨fun h=>e h.symm,hm.1,hm.2,h⟩
 have hev:Evo φ hp w (phiSet φ f p') ((f,o') :: delAll hp (id :: ids)) w':=⟨hos,htape,hout,hsz,fun i q hq=>by
   unfold phiSet
   split
   ·rename_i e; subst e; rw [hh.fr i (Nat.le_refl _)] at hq; cases hq
   ·exact hq,
  fun i o1 q b h1 h2 h3=>by
   rcases lk i o1 h1 with ⟨rfl,rfl⟩ | ⟨k1,k2,k3,k4⟩
   ·rw [Zw] at h2; cases h2
    rcases hpl b h3 with h | h
    ·exact .inl h
    ·exact .inr fun hk=>hk id o p hrow hp1 h
   ·unfold phiSet at h2; rw [if_neg k1] at h2
    exact .inr fun hk=>hk i o1 q k4 h2 h3,
  fun b hb hk=>hbl b hb (hk id o p hrow hp1)⟩
 refine ⟨⟨fun i o1 h1=>?_,fun i hi=>?_,fun i j o1 o2 q q' b h1 h2 hne h3 h4 h5 h6=>?_⟩,hev⟩
 ·rcases lk i o1 h1 with ⟨rfl,rfl⟩ | ⟨k1,k2,k3,k4⟩
  ·exact ho
  ·refine (hh.ob i o1 k4).evo hev fun q b hq hb=>?_
   obtain ⟨q',hq',hl⟩:=(hh.ob i o1 k4).has
   rw [hq] at hq'; cases hq'
   exact hbl b (hl b hb) fun hpb=>hh.dj i id o1 o q p b k4 hrow k2 hq hp1 hb hpb
 ·unfold phiSet; rw [if_neg (by omega)]; exact hh.fr i (by omega)
 ·rcases lk i o1 h1 with ⟨rfl,rfl⟩ | ⟨k1,k2,k3,k4⟩ <;> rcases lk j o2 h2 with ⟨rfl,rfl⟩ | ⟨m1,m2,m3,m4⟩
  ·exact hne rfl
  ·rw [Zw] at h3; cases h3
   unfold phiSet at h4; rw [if_neg m1] at h4
   obtain ⟨q2,hq2,hl⟩:=(hh.ob j o2 m4).has
   rw [h4] at hq2; cases hq2
   rcases hpl b h5 with h | h
   ·have:=hl b h6; omega
   ·exact hh.dj j id o2 o q' p b m4 hrow m2 h4 hp1 h6 h
  ·rw [Zw] at h4; cases h4
   unfold phiSet at h3; rw [if_neg k1] at h3
   obtain ⟨q2,hq2,hl⟩:=(hh.ob i o1 k4).has
   rw [h3] at hq2; cases hq2
   rcases hpl b h6 with h | h
   ·have:=hl b h5; omega
   ·exact hh.dj i id o1 o q p b k4 hrow k2 h3 hp1 h5 h
  ·unfold phiSet at h3 h4; rw [if_neg k1] at h3; rw [if_neg m1] at h4
   exact hh.dj i j o1 o2 q q' b k4 m4 hne h3 h4 h5 h6
theorem turnX_ok (hm:P.follows .mixedOrders = true) (hE:∀ t i,E t = some i→TIok P t i) {fns:FuncId→FT} (n:Nat) (ht:TableOk P fns) {g:FuncId} {d d':FnD} (hg:FnOk P g d) (hg':FnOk P g d')
  (r:TurnSp) (h:∀ l x,r.pre l x→Holds (turnVC Lv.std E (callG Lv.std E fns n) (spcOf fns) d r l x)) (hN:∀ x,r.pre [] x→Holds (turnNVC Lv.std E (callG Lv.std E fns n) (spcOf fns) d' r x)):XOk P g r.x where
 has:=hg.has
 mono:=fun L h h' f as hl=>by
  unfold TurnSp.x
  simp only
  split
  ·rename_i rest
   cases cutF r.fns rest with
   | none=>exact .inl rfl
   | some as' =>
     simp only
     cases hv:viewAll L h r.ins as' with
     | none=>exact .inl rfl
     | some r' =>
       rw [YT L hl _ _ _ hv]
       simp only
       cases ha:hasAmb h r'.2 with
       | false=>exact .inl rfl
       | true=>right; rw [Y2 hl ha]
  ·exact r.own_mono L hl _ _
 num:=fun L h f f' as l hl hn=>by
  unfold TurnSp.x at hl
  simp only at hl
  split at hl
  ·split at hl
   ·split at hl
    ·split at hl
     ·obtain ⟨_,hl⟩:=hl; cases hl; cases hn
     ·exact hl.elim
    ·exact hl.elim
   ·exact hl.elim
  ·obtain ⟨id,l,as',as2,x,ids,_,_,_,_,_,_,_,_,hl⟩:=TurnSp.own_leaf hl
   cases hl; cases hn
 run:=fun φ hp f w as vs l' hh hv' hl=>by
  unfold TurnSp.x at hl
  simp only at hl
  split at hl
  ·rename_i rest
   split at hl
   rotate_left
   ·exact hl.elim
   rename_i as2 hcut
   split at hl
   rotate_left
   ·exact hl.elim
   rename_i x ids hvw
   split at hl
   rotate_left
   ·exact hl.elim
   rename_i hA
   obtain ⟨hpre,hl⟩:=hl
   cases hl
   obtain ⟨v0,vs,rfl,hv0,hvr⟩:∃ v0 vs',vs = v0 :: vs'∧v0 = .slice none 0 0∧L2 (Vrel φ (okb φ hp) w) rest vs':=by
    cases vs with
    | nil=>exact hv'.elim
    | cons v0 vs'=>exact ⟨v0,vs',rfl,hv'.1,hv'.2⟩
   obtain ⟨us,fs,rfl,hvr,hfs⟩:=cutF_ok (φ':=φ) (ok':=fun _=>True) (w':=w) hcut hvr
   have hK:=YG hh r.ins as2 us x ids hvw hvr
   have hG0:=Y1 hh hA
   generalize hok:okb φ (delAll hp ids) = ok at hK hG0
   let S:Nat→Prop:=fun b=>b < w.heap.size∧¬ ok b
   let φ0:Phi:=fun id=>if id = 0 then some (.set S w) else none
   have hh0:HRel φ0 [(0,.amb)] 1 w:=by
    refine ⟨fun id o ho=>?_,fun id hid=>?_,fun i j o o' p q b h1 h2 hne=>?_⟩
    ·simp only [lookA,ifb] at ho
     split at ho
     ·rename_i e; subst e; cases ho
      exact ⟨S,w,rfl,⟨hG0.1,fun b hb=>⟨XD hG0.1 hb,hG0.2 b hb⟩⟩,fun b hb=>⟨hb.1,rfl⟩⟩
     ·cases ho
    ·show (if id = 0 then _ else none) = none
     rw [if_neg (by omega)]
    ·simp only [lookA,ifb] at h1 h2
     split at h1
     ·split at h2
      ·rename_i e1 e2; exact absurd (e1.symm.trans e2) hne
      ·cases h2
     ·cases h1
   have hokb:∀ b,ok b→okb φ0 [(0,.amb)] b:=fun b hb id o p h1 h2 h3=>by
    simp only [lookA,ifb] at h1
    split at h1
    ·rename_i e; subst e
     have h2':some (Place.set S w) = some p:=h2
     cases h2'
     exact h3.2 hb
    ·cases h1
   have hv:L2 (Vrel φ0 (okb φ0 [(0,.amb)]) w) (.c .nils :: (outVs r.ins x ++ fnV r.fns)) (v0 :: (us ++ fs)):=⟨hv0,YA (Xw _ _ _ (YX (fun b hb _=>⟨rfl,hokb b hb⟩) _ _ _ hK)) (fnV_any hfs)⟩
   refine (YS hm hE (YN hm hE ht n) (Y4 ht) (Xi ht) hg' (hN x hpre).h hh0 hv).mono fun e w' he=>?_
   obtain ⟨u,rfl,φ',hp',nx',y,k1,k2,k3,k4⟩:=he
   refine ⟨u,rfl,?_⟩
   have hφ0:φ' 0 = some (.set S w):=k3.ph 0 _ rfl
   have hd:=hh.delAll ids
   have below:lookA hp' 0 = some .amb→Go.RowKit.Below w.heap.size w w':=fun hamb=>by
    obtain ⟨S',w0,g1,_,g2⟩:=k2.ob 0 _ hamb
    rw [hφ0] at g1; cases g1
    refine ⟨k3.os,k3.tape,k3.output,k3.size,fun b hb=>?_⟩
    by_cases hob:ok b
    ·exact k3.bl b hb (hokb b hob)
    ·exact (g2 b ⟨hb,hob⟩).2
   have fin:∀ (p:Place),lookA hp' 0 = some .amb→(∀ b,p.S b→w.heap.size≤b)→Orel (phiSet φ f p) (okb (phiSet φ f p) ((f,.row r.et r.e (r.fn [] x)) :: delAll hp ids)) w' f (.row r.et r.e (r.fn [] x)) →
     Crel (phiSet φ f p) (okb (phiSet φ f p) ((f,.row r.et r.e (r.fn [] x)) :: delAll hp ids)) w' (.own f (Lv.std.llen r.e (r.fn [] x))) u →
     LeafOk φ hp w f (Leaf.nx (⟨.c (.own f (Lv.std.llen r.e (r.fn [] x))),some (.row r.et r.e (r.fn [] x)),ids,none⟩:Leaf) f) ⟨.c (.own f (Lv.std.llen r.e (r.fn [] x))),some (.row r.et r.e (r.fn [] x)),ids,none⟩ u w':=fun p hamb hbig hO hC=>by
    have hB:=below hamb
    have hn:=hd.new (Nat.le_refl f) (.row r.et r.e (r.fn [] x)) p hB hbig hO
    have hev:=(Yw φ w ids hp).trans (Xq hd (Nat.le_refl f) (.row r.et r.e (r.fn [] x)) p hB hbig)
    refine ⟨_,_,fun i=>rfl,hn,hev,hC,fun i hi=>?_⟩
    by_cases hif:i = f
    ·exact .inr ⟨rfl,hif⟩
    ·refine .inl ?_
     simp only [phiSet,if_neg hif] at hi
     exact hi
   unfold turnEnd at k1
   split at k1
   ·rename_i id len hamb
    split at k1
    rotate_left
    ·exact k1.elim
    rename_i et' e' l' hrow
    split at k1
    rotate_left
    ·exact k1.elim
    rename_i q
    subst q
    obtain ⟨q1,q2⟩:=k1
    subst q1
    have q2':List.take len l' = r.fn [] x:=q2
    have hid:id ≠ 0:=fun e=>by subst e; rw [hamb] at hrow; cases hrow
    have k4':Crel φ' (okb φ' hp') w' (.own id len) u:=k4
    have hnil:l' = []→r.fn [] x = []:=fun h=>by rw [← q2',h,List.take_nil]
    rcases k2.ob id _ hrow with ⟨o1,o2⟩ | ⟨b,cap,arr,o1,o2,o3,o4,o5⟩
    ·refine fin .nil hamb (fun b hb=>hb.elim) (.inl ⟨Zw _ _ _,hnil o2⟩) ?_
     rcases k4' with ⟨c1,c2,c3⟩ | ⟨b,sz,cap,n,c1,_⟩
     ·exact .inl ⟨Zw _ _ _,by rw [hnil o2]; rfl,c3⟩
     ·rw [o1] at c1; cases c1
    ·have hbig:w.heap.size≤b:=by
      rcases k3.ow id _ _ b hrow o1 rfl with h | h
      ·exact h
      ·refine Classical.byContradiction fun hc=>?_
       exact k2.dj 0 id _ _ _ _ b hamb hrow (fun e=>hid e.symm) hφ0 o1 ⟨by omega,fun hob=>h (hokb b hob)⟩ rfl
     have hlen:len≤List.length (α:=r.e.D) l'∧u = .slice (some ⟨b,0,none⟩) len cap:=by
      rcases k4' with ⟨c1,_⟩ | ⟨b',sz,cap',n',c1,c2,c3⟩
      ·rw [o1] at c1; cases c1
      ·rw [o1] at c1; cases c1
       exact ⟨c2,c3⟩
     obtain ⟨hll,hu⟩:=hlen
     have hres:List.length (α:=r.e.D) (r.fn [] x) = len:=by rw [← q2',List.length_take]; exact Nat.min_eq_left hll
     refine fin (.at b r.e.n cap (List.length (α:=r.e.D) (r.fn [] x))) hamb (fun c hc=>by cases hc; exact hbig) (.inr ⟨b,_,arr,Zw _ _ _,o2,o3,by rw [hres]; exact Nat.le_trans hll o4,fun j y hy=>?_⟩) ?_
     ·obtain ⟨vs',kk,kc⟩:=o5 j y (by rw [← q2',List.getElem?_take] at hy; split at hy; exact hy; cases hy)
      refine ⟨vs',YI (fun c hc _=>⟨rfl,fun i o p h1 h2 h3=>?_⟩) _ _ _ kk,kc⟩
      simp only [lookA,ifb] at h1
      split at h1
      ·rename_i e
       subst e
       rw [Zw] at h2
       cases h2
       have hcb:c = b:=h3
       exact hc id _ _ hrow o1 hcb
      ·rename_i e
       have h2':φ i = some p:=by
        simp only [phiSet] at h2
        rw [if_neg (fun h=>e h.symm)] at h2; exact h2
       obtain ⟨q,hq,hlt⟩:=(hd.ob i _ h1).has
       rw [h2'] at hq; cases hq
       refine hc 0 .amb _ hamb hφ0 ⟨hlt c h3,fun hoc=>?_⟩
       rw [← hok] at hoc
       exact hoc i _ _ h1 h2' h3
     ·refine .inr ⟨b,r.e.n,cap,_,Zw _ _ _,Nat.le_refl _,?_⟩
      rw [hu,← hres]; rfl
   ·rename_i hamb
    have hnil:r.fn [] x = []:=k1
    have hu:u = .slice none 0 0:=k4
    exact fin .nil hamb (fun b hb=>hb.elim) (.inl ⟨Zw _ _ _,hnil⟩) (.inl ⟨Zw _ _ _,by rw [hnil]; rfl,none,hu⟩)
   ·exact k1.elim
  ·obtain ⟨id,l,as',as2,x,ids,rfl,hrow,hcut,hvw,hA,hid,h0,hpre,hl⟩:=TurnSp.own_leaf hl
   cases hl
   obtain ⟨v0,vs,rfl,hv0,hvr⟩:∃ v0 vs',vs = v0 :: vs'∧Crel φ (okb φ hp) w (.own id (Lv.std.llen r.e l)) v0∧L2 (Vrel φ (okb φ hp) w) as' vs':=by
    cases vs with
    | nil=>exact hv'.elim
    | cons v0 vs'=>exact ⟨v0,vs',rfl,hv'.1,hv'.2⟩
   obtain ⟨us,fs,rfl,hvr,hfs⟩:=cutF_ok (φ':=φ) (ok':=fun _=>True) (w':=w) hcut hvr
   have hK:=YG hh r.ins as2 us x ids hvw hvr
   obtain ⟨p,S,φ0,z1,z2,z3,z4,z5,hh0,hokb,zc⟩:=turn_start hh hrow hA hid h0
   have hv:L2 (Vrel φ0 (okb φ0 [(0,.amb),(1,.row r.et r.e l)]) w) (.c (.own 1 (Lv.std.llen r.e l)) :: (outVs r.ins x ++ fnV r.fns)) (v0 :: (us ++ fs)):=⟨zc _ _ hv0,YA (Xw _ _ _ (YX (fun b hb _=>⟨rfl,hokb b hb⟩) _ _ _ hK)) (fnV_any hfs)⟩
   refine (YS hm hE (YN hm hE ht n) (Y4 ht) (Xi ht) hg (h l x hpre).h hh0 hv).mono fun e w' he=>?_
   obtain ⟨u,rfl,φ',hp',nx',y,k1,k2,k3,k4⟩:=he
   refine ⟨u,rfl,?_⟩
   have hφ0:φ' 0 = some (.set S w):=k3.ph 0 _ z2
   have hbl:lookA hp' 0 = some .amb→∀ b,b < w.heap.size→¬ p.S b→w'.heap[b]? = w.heap[b]?:=fun hamb b hb hpb=>by
    obtain ⟨S',w0,g1,_,g2⟩:=k2.ob 0 _ hamb
    rw [hφ0] at g1; cases g1
    by_cases hob:okb φ (delAll hp ids) b
    ·exact k3.bl b hb (hokb b hob)
    ·exact (g2 b ((z5 b).2 ⟨hb,hob,hpb⟩)).2
   have fin:∀ (p':Place),lookA hp' 0 = some .amb→(∀ b,p'.S b→w.heap.size≤b∨p.S b)→Orel (phiSet φ f p') (okb (phiSet φ f p') ((f,.row r.et r.e (r.fn l x)) :: delAll hp (id :: ids))) w' f (.row r.et r.e (r.fn l x)) →
     Crel (phiSet φ f p') (okb (phiSet φ f p') ((f,.row r.et r.e (r.fn l x)) :: delAll hp (id :: ids))) w' (.own f (Lv.std.llen r.e (r.fn l x))) u →
     LeafOk φ hp w f (Leaf.nx (⟨.c (.own f (Lv.std.llen r.e (r.fn l x))),some (.row r.et r.e (r.fn l x)),id :: ids,none⟩:Leaf) f) ⟨.c (.own f (Lv.std.llen r.e (r.fn l x))),some (.row r.et r.e (r.fn l x)),id :: ids,none⟩ u w':=fun p' hamb hbig hO hC=>by
    obtain ⟨q1,q2⟩:=turn_evo hh hrow z1 hid k3.os k3.tape k3.output k3.size (hbl hamb) (.row r.et r.e (r.fn l x)) hbig hO
    refine ⟨_,_,fun i=>rfl,q1,q2,hC,fun i hi=>?_⟩
    by_cases hif:i = f
    ·exact .inr ⟨rfl,hif⟩
    ·refine .inl ?_
     simp only [phiSet,if_neg hif] at hi
     exact hi
   unfold turnEnd at k1
   split at k1
   ·rename_i id' len hamb
    split at k1
    rotate_left
    ·exact k1.elim
    rename_i et' e' l' hrow'
    split at k1
    rotate_left
    ·exact k1.elim
    rename_i q
    subst q
    obtain ⟨q1,q2⟩:=k1
    subst q1
    have q2':List.take len l' = r.fn l x:=q2
    have hid':id' ≠ 0:=fun e=>by subst e; rw [hamb] at hrow'; cases hrow'
    have k4':Crel φ' (okb φ' hp') w' (.own id' len) u:=k4
    have hnil:l' = []→r.fn l x = []:=fun h=>by rw [← q2',h,List.take_nil]
    rcases k2.ob id' _ hrow' with ⟨o1,o2⟩ | ⟨b,cap,arr,o1,o2,o3,o4,o5⟩
    ·refine fin .nil hamb (fun b hb=>hb.elim) (.inl ⟨Zw _ _ _,hnil o2⟩) ?_
     rcases k4' with ⟨c1,c2,c3⟩ | ⟨b,sz,cap,n,c1,_⟩
     ·exact .inl ⟨Zw _ _ _,by rw [hnil o2]; rfl,c3⟩
     ·rw [o1] at c1; cases c1
    ·have hbig:w.heap.size≤b∨p.S b:=by
      rcases k3.ow id' _ _ b hrow' o1 rfl with h | h
      ·exact .inl h
      ·refine Classical.byContradiction fun hc=>?_
       simp only [not_or] at hc
       exact k2.dj 0 id' _ _ _ _ b hamb hrow' (fun e=>hid' e.symm) hφ0 o1 ((z5 b).2 ⟨by omega,fun hob=>h (hokb b hob),hc.2⟩) rfl
     have hlen:len≤List.length (α:=r.e.D) l'∧u = .slice (some ⟨b,0,none⟩) len cap:=by
      rcases k4' with ⟨c1,_⟩ | ⟨b',sz,cap',n',c1,c2,c3⟩
      ·rw [o1] at c1; cases c1
      ·rw [o1] at c1; cases c1
       exact ⟨c2,c3⟩
     obtain ⟨hll,hu⟩:=hlen
     have hres:List.length (α:=r.e.D) (r.fn l x) = len:=by rw [← q2',List.length_take]; exact Nat.min_eq_left hll
     refine fin (.at b r.e.n cap (List.length (α:=r.e.D) (r.fn l x))) hamb (fun c hc=>by cases hc; exact hbig) (.inr ⟨b,_,arr,Zw _ _ _,o2,o3,by rw [hres]; exact Nat.le_trans hll o4,fun j y hy=>?_⟩) ?_
     ·obtain ⟨vs',kk,kc⟩:=o5 j y (by rw [← q2',List.getElem?_take] at hy; split at hy; exact hy; cases hy)
      refine ⟨vs',YI (fun c hc _=>⟨rfl,fun i o q h1 h2 h3=>?_⟩) _ _ _ kk,kc⟩
      simp only [lookA,ifb] at h1
      split at h1
      ·rename_i e
       subst e
       rw [Zw] at h2
       cases h2
       have hcb:c = b:=h3
       exact hc id' _ _ hrow' o1 hcb
      ·rename_i e
       have h2':φ i = some q:=by
        simp only [phiSet] at h2
        rw [if_neg (fun h=>e h.symm)] at h2; exact h2
       rw [Z0] at h1
       split at h1
       ·cases h1
       ·rename_i hm'
        simp only [List.mem_cons,not_or] at hm'
        obtain ⟨q',hq,hlt⟩:=(hh.ob i _ h1).has
        rw [h2'] at hq; cases hq
        refine hc 0 .amb _ hamb hφ0 ((z5 c).2 ⟨hlt c h3,fun hoc=>?_,fun hpc=>?_⟩)
        ·exact hoc i _ _ (by rw [Z0,if_neg hm'.2]; exact h1) h2' h3
        ·exact hh.dj i id _ _ _ _ c h1 hrow hm'.1 h2' z1 h3 hpc
     ·refine .inr ⟨b,r.e.n,cap,_,Zw _ _ _,Nat.le_refl _,?_⟩
      rw [hu,← hres]; rfl
   ·rename_i hamb
    have hnil:r.fn l x = []:=k1
    have hu:u = .slice none 0 0:=k4
    exact fin .nil hamb (fun b hb=>hb.elim) (.inl ⟨Zw _ _ _,hnil⟩) (.inl ⟨Zw _ _ _,by rw [hnil]; rfl,none,hu⟩)
   ·exact k1.elim
theorem updX_ok (hm:P.follows .mixedOrders = true) (hE:∀ t i,E t = some i→TIok P t i) {fns:FuncId→FT} (n:Nat) (ht:TableOk P fns) {g:FuncId} {d:FnD} (hg:FnOk P g d)
  (r:TurnSp) (h:∀ l x,r.pre l x→Holds (updVC Lv.std E (callG Lv.std E fns n) (spcOf fns) d r l x)):XOk P g r.u where
 has:=hg.has
 mono:=fun L h h' f as hl=>by
  unfold TurnSp.u
  simp only
  exact r.own_mono L hl _ _
 num:=fun L h f f' as l hl hn=>hl
 run:=fun φ hp f w as vs l' hh hv' hl=>by
  unfold TurnSp.u at hl
  simp only at hl
  obtain ⟨id,l,as',as2,x,ids,rfl,hrow,hcut,hvw,hA,hid,h0,hpre,hl⟩:=TurnSp.own_leaf hl
  cases hl
  obtain ⟨v0,vs,rfl,hv0,hvr⟩:∃ v0 vs',vs = v0 :: vs'∧Crel φ (okb φ hp) w (.own id (Lv.std.llen r.e l)) v0∧L2 (Vrel φ (okb φ hp) w) as' vs':=by
   cases vs with
   | nil=>exact hv'.elim
   | cons v0 vs'=>exact ⟨v0,vs',rfl,hv'.1,hv'.2⟩
  obtain ⟨us,fs,rfl,hvr,hfs⟩:=cutF_ok (φ':=φ) (ok':=fun _=>True) (w':=w) hcut hvr
  have hK:=YG hh r.ins as2 us x ids hvw hvr
  obtain ⟨p,S,φ0,z1,z2,z3,z4,z5,hh0,hokb,zc⟩:=turn_start hh hrow hA hid h0
  have hv:L2 (Vrel φ0 (okb φ0 [(0,.amb),(1,.row r.et r.e l)]) w) (.c (.own 1 (Lv.std.llen r.e l)) :: (outVs r.ins x ++ fnV r.fns)) (v0 :: (us ++ fs)):=⟨zc _ _ hv0,YA (Xw _ _ _ (YX (fun b hb _=>⟨rfl,hokb b hb⟩) _ _ _ hK)) (fnV_any hfs)⟩
  refine (YS hm hE (YN hm hE ht n) (Y4 ht) (Xi ht) hg (h l x hpre).h hh0 hv).mono fun e w' he=>?_
  obtain ⟨u,rfl,φ',hp',nx',y,k1,k2,k3,k4⟩:=he
  refine ⟨u,rfl,?_⟩
  have hφ0:φ' 0 = some (.set S w):=k3.ph 0 _ z2
  have hφ1:φ' 1 = some p:=k3.ph 1 _ z3
  unfold updEnd at k1
  split at k1
  rotate_left
  ·exact k1.elim
  rename_i et' e' l' hamb hrow'
  split at k1
  rotate_left
  ·exact k1.elim
  rename_i q
  subst q
  obtain ⟨q1,q2⟩:=k1
  subst q1
  have q2':l' = r.fn l x:=q2
  subst q2'
  have hbl:∀ b,b < w.heap.size→¬ p.S b→w'.heap[b]? = w.heap[b]?:=fun b hb hpb=>by
   obtain ⟨S',w0,g1,_,g2⟩:=k2.ob 0 _ hamb
   rw [hφ0] at g1; cases g1
   by_cases hob:okb φ (delAll hp ids) b
   ·exact k3.bl b hb (hokb b hob)
   ·exact (g2 b ((z5 b).2 ⟨hb,hob,hpb⟩)).2
  have lk:∀ i o1,lookA (setA (delAll hp ids) id (.row r.et r.e (r.fn l x))) i = some o1→(i = id∧o1 = .row r.et r.e (r.fn l x))∨(i ≠ id∧i ∉ ids∧lookA hp i = some o1):=fun i o1 h1=>Xh hrow h1
  have hev:Evo φ hp w φ (setA (delAll hp ids) id (.row r.et r.e (r.fn l x))) w':=⟨k3.os,k3.tape,k3.output,k3.size,fun _ _ h=>h,fun i o1 q b h1 h2 h3=>by
    rcases lk i o1 h1 with ⟨rfl,rfl⟩ | ⟨_,_,h4⟩
    ·exact .inr fun hk=>hk i _ q hrow h2 h3
    ·exact .inr fun hk=>hk i _ q h4 h2 h3,
   fun b hb hk=>hbl b hb (hk id _ p hrow z1)⟩
  have hok':∀ c,okb φ' hp' c→okb φ (setA (delAll hp ids) id (.row r.et r.e (r.fn l x))) c:=fun c hc i o q h1 h2 h3=>by
   rcases lk i o h1 with ⟨rfl,rfl⟩ | ⟨m1,m2,m3⟩
   ·rw [z1] at h2; cases h2
    exact hc 1 _ _ hrow' hφ1 h3
   ·obtain ⟨q',hq,hlt⟩:=(hh.ob i _ m3).has
    rw [h2] at hq; cases hq
    refine hc 0 .amb _ hamb hφ0 ((z5 c).2 ⟨hlt c h3,fun hoc=>?_,fun hpc=>?_⟩)
    ·exact hoc i _ _ (by rw [Z0,if_neg m2]; exact m3) h2 h3
    ·exact hh.dj i id _ _ _ _ c m3 hrow m1 h2 z1 h3 hpc
  refine ⟨φ,_,fun i=>rfl,⟨fun i o1 h1=>?_,hh.fr,fun i j o1 o2 q q' b h1 h2 hne h3 h4 h5=>?_⟩,hev,trivial,fun i hi=>.inl hi⟩
  ·rcases lk i o1 h1 with ⟨rfl,rfl⟩ | ⟨m1,m2,m3⟩
   ·rcases k2.ob 1 _ hrow' with ⟨o1,o2⟩ | ⟨b,cap,arr,o1,o2,o3,o4,o5⟩
    ·rw [hφ1] at o1; cases o1
     exact .inl ⟨z1,o2⟩
    ·rw [hφ1] at o1; cases o1
     refine .inr ⟨b,cap,arr,z1,o2,o3,o4,fun j y hy=>?_⟩
     obtain ⟨vs',kk,kc⟩:=o5 j y hy
     exact ⟨vs',K_ok hok' _ _ _ kk,kc⟩
   ·refine (hh.ob i o1 m3).evo hev fun q b hq hb=>?_
    obtain ⟨q',hq',hl⟩:=(hh.ob i o1 m3).has
    rw [hq] at hq'; cases hq'
    exact hbl b (hl b hb) fun hpb=>hh.dj i id o1 _ q p b m3 hrow m1 hq z1 hb hpb
  ·rcases lk i o1 h1 with ⟨rfl,rfl⟩ | ⟨_,_,e1⟩ <;> rcases lk j o2 h2 with ⟨rfl,rfl⟩ | ⟨_,_,e2⟩
   ·exact absurd rfl hne
   ·exact hh.dj i j _ o2 q q' b hrow e2 hne h3 h4 h5
   ·exact hh.dj i j o1 _ q q' b e1 hrow hne h3 h4 h5
   ·exact hh.dj i j o1 o2 q q' b e1 e2 hne h3 h4 h5
end
theorem fsp_at {P:Program} {E:Ev} {call:CallG} {spc:Spc} (hm:P.follows .mixedOrders = true) (hE:∀ t i,E t = some i→TIok P t i) (hcall:CallOk P call) (hspc:∀ g x,spc g = some x→XOk P g x) (hits:∀ g it,spc.it g = some it→ItOk P g it) {g:FuncId} {d:FnD} (hg:FnOk P g d) (r:FSp)
  (x:Ds r.sp.ins) (hvc:(fspVC Lv.std E call spc d r x).holds) (ok:Nat→Prop) (w:World) (us fs:List Value) (hG:GlOk ok w) (hx:KVs ok w r.sp.ins x us) {φ0:Phi} {ok0:Nat→Prop} {w0:World} (hfs:L2 (Vrel φ0 ok0 w0) (fnV r.fns) fs) :
  Calls P g (us ++ fs).toArray w fun e w'=>∃ v,e = .returned v∧Go.RowKit.Below w.heap.size w w'∧KR (fun b=>ok b∨w.heap.size≤b) w' r.sp.outs (r.sp.fn x) v:=by
 let S:Nat→Prop:=fun b=>b < w.heap.size∧¬ ok b
 let φ:Phi:=fun id=>if id = 0 then some (.set S w) else none
 have hh:HRel φ [(0,.amb)] 1 w:=by
  refine ⟨fun id o ho=>?_,fun id hid=>?_,fun i j o o' p q b h1 h2 hne=>?_⟩
  ·simp only [lookA,ifb] at ho
   split at ho
   ·rename_i e; subst e; cases ho
    exact ⟨S,w,rfl,⟨hG.1,fun b hb=>⟨XD hG.1 hb,hG.2 b hb⟩⟩,fun b hb=>⟨hb.1,rfl⟩⟩
   ·cases ho
  ·show (if id = 0 then _ else none) = none
   rw [if_neg (by omega)]
  ·simp only [lookA,ifb] at h1 h2
   split at h1
   ·split at h2
    ·rename_i e1 e2; exact absurd (e1.symm.trans e2) hne
    ·cases h2
   ·cases h1
 have hokb:∀ b,ok b→okb φ [(0,.amb)] b:=fun b hb id o p h1 h2 h3=>by
  simp only [lookA,ifb] at h1
  split at h1
  ·rename_i e; subst e
   have h2':some (Place.set S w) = some p:=h2
   cases h2'
   exact h3.2 hb
  ·cases h1
 have hv:L2 (Vrel φ (okb φ [(0,.amb)]) w) (outVs r.sp.ins x ++ fnV r.fns) (us ++ fs):=YA (Xw _ _ _ (YX (fun b hb _=>⟨rfl,hokb b hb⟩) _ _ _ hx)) (fnV_any hfs)
 refine (YS hm hE hcall hspc hits hg hvc hh hv).mono fun e w' he=>?_
 obtain ⟨v,rfl,φ',hp',nx',y,k1,k2,k3,k4⟩:=he
 refine ⟨v,rfl,?_⟩
 split at k1
 ·rename_i hamb
  split at k1
  ·rename_i y' ids hvw
   split at k1
   ·exact k1.elim
   ·rename_i hnc
    have hy:y' = r.sp.fn x:=k1
    have hn0:0 ∉ ids:=by simpa using hnc
    have hφ0:φ' 0 = some (.set S w):=k3.ph 0 _ rfl
    have hR:=viewR_ok k2 r.sp.outs y v y' ids hvw k4
    rw [hy] at hR
    obtain ⟨S',w0,g1,_,g2⟩:=k2.ob 0 _ hamb
    rw [hφ0] at g1; cases g1
    refine ⟨⟨k3.os,k3.tape,k3.output,k3.size,fun b hb=>?_⟩,KR_mono (fun b hb _=>⟨rfl,?_⟩) _ _ _ hR⟩
    ·by_cases hob:ok b
     ·exact k3.bl b hb (hokb b hob)
     ·exact (g2 b ⟨hb,hob⟩).2
    ·by_cases hlt:b < w.heap.size
     ·refine .inl (Classical.byContradiction fun hob=>?_)
      refine hb 0 .amb _ ?_ hφ0 ⟨hlt,hob⟩
      rw [Z0,if_neg hn0]; exact hamb
     ·exact .inr (by omega)
  ·exact k1.elim
 ·exact k1.elim
theorem fspX_ok {P:Program} {E:Ev} (hm:P.follows .mixedOrders = true) (hE:∀ t i,E t = some i→TIok P t i) {fns:FuncId→FT} (n:Nat) (ht:TableOk P fns) {g:FuncId} {d:FnD} (hg:FnOk P g d)
  (r:FSp) (h:∀ x,r.sp.pre x→Holds (fspVC Lv.std E (callG Lv.std E fns n) (spcOf fns) d r x)):XOk P g r.x where
 has:=hg.has
 mono:=fun L h h' f as hl=>by
  unfold FSp.x
  simp only
  cases cutF r.fns as with
  | none=>exact .inl rfl
  | some as' =>
    unfold Spec.x
    simp only
    cases hv:viewAll L h r.sp.ins as' with
    | none=>exact .inl rfl
    | some q =>
      rw [YT L hl _ _ _ hv]
      simp only
      cases ha:hasAmb h q.2 with
      | false=>exact .inl rfl
      | true=>right; rw [Y2 hl ha]
 num:=fun L h f f' as l hl _=>hl
 run:=fun φ hp f w as vs l hh hv hl=>by
  unfold FSp.x at hl
  simp only at hl
  split at hl
  rotate_left
  ·exact hl.elim
  rename_i as' hcut
  obtain ⟨us,fs,rfl,hvr,hfs⟩:=cutF_ok (φ':=φ) (ok':=fun _=>True) (w':=w) hcut hv
  unfold Spec.x at hl
  simp only at hl
  split at hl
  ·rename_i x ids hvw
   split at hl
   rotate_left
   ·exact hl.elim
   rename_i hA
   obtain ⟨hpre,hl⟩:=hl
   have hK:=YG hh r.sp.ins as' us x ids hvw hvr
   refine (fsp_at hm hE (YN hm hE ht n) (Y4 ht) (Xi ht) hg r x (h x hpre).h _ w us fs (Y1 hh hA) hK hfs).mono fun en w' he=>?_
   obtain ⟨v,rfl,hb,hR⟩:=he
   refine ⟨v,rfl,?_⟩
   split at hl
   ·rename_i hf
    obtain ⟨x',hx,rfl⟩:=hl
    obtain ⟨q1,q2⟩:=Xf hh hb
    exact ⟨φ,hp,fun id=>rfl,q1,q2,hx.rel (XM _ _ _ (flat_KR _ _ _ hf hR)),fun id hid=>.inl hid⟩
   ·rename_i hf
    cases hl
    obtain ⟨q1,q2⟩:=Xf (hh.delAll ids) hb
    refine ⟨φ,_,fun id=>rfl,q1,(Yw φ w ids hp).trans q2,XM _ _ _ (KR_mono (fun b hb' hl=>⟨rfl,?_⟩) _ _ _ hR),fun id hid=>.inl hid⟩
    rcases hb' with hb' | hb'
    ·exact hb'
    ·intro id o p k1 k2 k3
     obtain ⟨q,hq,hl'⟩:=((hh.delAll ids).ob id o k1).has
     rw [k2] at hq; cases hq
     have:=hl' b k3
     omega
  ·exact hl.elim
end Go.VM
namespace Go.VM
open Go Go.Lib
inductive Sx
 | h (v:Hv)
 | fn (j:Nat)
def Sx.ty:Sx→Ty
 | .h v=>v.ty
 | .fn _=>.int .i64
def extys:List Sx→List Ty
 | []=>[]
 | x :: l=>x.ty :: extys l
def Sx.get (L:Lv) (s:St):(x:Sx)→x.ty.D
 | .h v=>v.get L s
 | .fn j=>match s.look j with
   | .c (.fn f _)=>(f:Int)
   | _=>(0:Int)
def exGet (L:Lv):(l:List Sx)→St→Ds (extys l)
 | [],_=>()
 | x :: l,s=>(x.get L s,exGet L l s)
def anE (L:Lv) (js:List Nat) (ad:List (Nat × Option Nat × TypeId × Ty)) (ex:List Sx) (hv:List Hv) (I:Ds (extys ex)→Ds (tysOf hv)→Prop) (mu:Ds (extys ex)→Ds (tysOf hv)→Nat):LAnn :=
 .an { js:=js,ren:=fun s=>hvIds s hv,ad:=ad,X:=Ds (tysOf hv),c:=hvPut L hv,ext:=hvGet L hv,I:=fun s x=>I (exGet L ex s) x,mu:=fun s x=>mu (exGet L ex s) x }
end Go.VM
