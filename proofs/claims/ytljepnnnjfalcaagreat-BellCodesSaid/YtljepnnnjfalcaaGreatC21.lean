/- A condition generator over the model's code, proved sound: what a function's body must come to is told as conditions on plain data. Conditions: none of ours. -/
import Derived.Test.YtljepnnnjfalcaaGreatC9
import Derived.Test.YtljepnnnjfalcaaGreatC20
import Derived.Shelf.SlSortCmp.InsertionK
set_option autoImplicit false
set_option linter.all false
namespace Go.VM
open Go Go.Lib Go.Sort Go.Proofs
structure El (ok:Nat→Prop) (w:World) (e:Ty) (pe:e.D→Prop) where
 x:e.D
 vs:List Value
 hk:K ok w e x vs
 hp:pe x
def SortC (P:Program) (g:FuncId) (k:Nat):Prop:=∀ (α:Type) (_:Inhabited α) (enc:α→List Value) (hk:∀ x,(enc x).length = k) (h1:∀ x,∀ v ∈ enc x,v.oneCell' = true) (cf:α→α→Int) (hO:SWO (ltOf cf)) (c:Nat) (cb:Array Value) (blk off cap:Nat) (d:Array α) (w:World)
    (eg:∀ args w,(callFunc c args).run P w = .ok (.enter c args) w) (hcmp:CmpLays P c cb enc k cf blk off d.size w) (hH:HoldsK enc k w blk off d) (hblk:blk < w.heap.size) (hsz:d.size < 4611686018427387904),
    Calls P g #[.slice (some ⟨blk,off,none⟩) d.size cap,.func (.func c) #[] cb] w fun e w' =>
     e = .returned (.tuple #[])∧∃ d' n os,PermIn 0 d.size d d'∧SortedIn (ltOf cf) 0 d.size d'∧w' = sortWorldK enc k w blk off n d' os
def SortN (P:Program) (g:FuncId):Prop:=∀ (p:Option Addr) (cap:Nat) (fv:Value) (w:World),
    Calls P g #[.slice p 0 cap,fv] w fun e w'=>e = .returned (.tuple #[])∧w' = w
theorem world_grow {W w':World} (hb:Go.RowKit.Below W.heap.size W w') (hd:W.drawn≤w'.drawn):∃ q os',w' = grow (W.drewN q) os':=by
 refine ⟨w'.drawn - W.drawn,w'.heap.extract W.heap.size w'.heap.size,?_⟩
 have hh:w'.heap = W.heap ++ w'.heap.extract W.heap.size w'.heap.size:=by
  apply Array.ext_getElem?
  intro i
  rw [Array.getElem?_append]
  split
  ·rename_i h; exact hb.block i h
  ·rename_i h
   rw [Array.getElem?_extract]
   have:=hb.size
   split
   ·congr 1; omega
   ·exact Array.getElem?_eq_none (by omega)
 obtain ⟨h,t,d,o,u⟩:=w'
 have h1:t = W.tape:=hb.tape
 have h2:o = W.os:=hb.os
 have h3:u = W.output:=hb.output
 have h4:W.drawn≤d:=hd
 have h5:W.drawn + (d - W.drawn) = d:=by omega
 unfold grow World.drewN
 simp only at hh ⊢
 rw [← hh,h5,h1,h2,h3]
theorem sortW_heap {α:Type} [Inhabited α] (enc:α→List Value) (k:Nat) (w:World) (blk n:Nat) (d:Array α) (os:Array Obj) (hblk:blk < w.heap.size) (b:Nat) (hb:b < w.heap.size) :
  (sortWorldK enc k w blk 0 n d os).heap[b]? = if b = blk then (w.heap[b]?).map (onCells (putCells id 0 (Go.Sort.flatK enc k d))) else w.heap[b]?:=by
 unfold sortWorldK
 rw [heap_grow_old _ _ (by show b < (putRow id _ blk 0 _).heap.size; rw [size_putRow]; exact hb)]
 show (w.heap.modify blk _)[b]? = _
 rw [Array.getElem?_modify]
 by_cases h:blk = b
 ·subst h; simp
 ·rw [if_neg h,if_neg (fun h'=>h h'.symm)]
theorem sortW_size {α:Type} [Inhabited α] (enc:α→List Value) (k:Nat) (w:World) (blk n:Nat) (d:Array α) (os:Array Obj):w.heap.size≤(sortWorldK enc k w blk 0 n d os).heap.size:=size_sortWorldK_c enc k w blk 0 n d os
theorem sortU_ok {P:Program} (et:TypeId) (e:Ty) (cf:e.D→e.D→Int) (pe:e.D→Prop) (N:Nat) (g c:FuncId) (hg:Has P g) (hagg:e.agg = true) (hn:0 < e.n) (hN0:N < 4611686018427387904)
  (sp:SpecOk P c ⟨[e,e],[.int .i64],fun x=>pe x.1,fun x=>(cf x.1 x.2.1,())⟩) (eg:∀ args w,(callFunc c args).run P w = .ok (.enter c args) w)
  (hO:SWO (ltOf cf)) (hT:∀ x y,ltOf cf x y = false→ltOf cf y x = false→x = y) (hS:SortC P g e.n) (hN:SortN P g) :
  XOk P g (TurnSp.u ⟨et,e,[],fun l _=>List.length (α:=e.D) l≤N∧∀ x ∈ l,pe x,fun l _=>List.mergeSort (α:=e.D) l fun x y=>!(ltOf cf) y x,[c]⟩) where
 has:=hg
 mono:=fun L h h' f as1 hl=>by
  unfold TurnSp.u
  simp only
  exact TurnSp.own_mono _ L hl _ _
 num:=fun L h f f' as1 l hl hn=>hl
 run:=fun φ hp f w as1 vs l' hh hv' hl=>by
  unfold TurnSp.u at hl
  simp only at hl
  obtain ⟨id,l,as',as2,x,ids,rfl,hrow,hcut,hvw,hA,hid,h0,hpre,hl⟩:=TurnSp.own_leaf hl
  cases hl
  obtain ⟨v0,vs,rfl,hv0,hvr⟩:∃ v0 vs',vs = v0 :: vs'∧Crel φ (okb φ hp) w (.own id (Lv.std.llen e l)) v0∧L2 (Vrel φ (okb φ hp) w) as' vs':=by
   cases vs with
   | nil=>exact hv'.elim
   | cons v0 vs'=>exact ⟨v0,vs',rfl,hv'.1,hv'.2⟩
  obtain ⟨us,fs,rfl,hvr,hfs⟩:=cutF_ok (φ':=φ) (ok':=fun _=>True) (w':=w) hcut hvr
  have hin:as2 = []∧ids = []:=by
   cases as2 with
   | nil=>simp only [viewAll,Option.some.injEq] at hvw; exact ⟨rfl,(congrArg Prod.snd hvw).symm⟩
   | cons a r=>simp [viewAll] at hvw
  obtain ⟨rfl,rfl⟩:=hin
  have hus:us = []:=by cases us with
   | nil=>rfl
   | cons _ _=>exact hvr.elim
  subst hus
  have hfs':fs = [.func (.func c) #[] #[]]:=by
   obtain ⟨v,rfl,hv1⟩:∃ v,fs = [v]∧Crel φ (fun _=>True) w (.fn c []) v:=by
    cases fs with
    | nil=>exact hfs.elim
    | cons v r=>cases r with
      | nil=>exact ⟨v,rfl,hfs.1⟩
      | cons _ _=>exact hfs.2.elim
   obtain ⟨us,h1,h2⟩:=hv1
   cases us with
   | nil=>rw [h1]
   | cons _ _=>exact h2.elim
  subst hfs'
  obtain ⟨hlen,hpe⟩:=hpre
  have hG:=Y1 hh hA
  have hG:GlOk (okb φ hp) w:=hG
  obtain ⟨p,z1,hlt⟩:=(hh.ob id _ hrow).has
  have fin:∀ w':World,w'.os = w.os→w'.tape = w.tape→w'.output = w.output→w.heap.size≤w'.heap.size→(∀ b,b < w.heap.size→¬ p.S b→w'.heap[b]? = w.heap[b]?) →
    Orel φ (okb φ (setA (delAll hp []) id (.row et e (List.mergeSort (α:=e.D) l fun x y=>!(ltOf cf) y x)))) w' id (.row et e (List.mergeSort (α:=e.D) l fun x y=>!(ltOf cf) y x)) →
    LeafOk φ hp w f (Leaf.nx (⟨.c .un,none,[],some (id,.row et e (List.mergeSort (α:=e.D) l fun x y=>!(ltOf cf) y x))⟩:Leaf) f) ⟨.c .un,none,[],some (id,.row et e (List.mergeSort (α:=e.D) l fun x y=>!(ltOf cf) y x))⟩ (.tuple #[]) w':=fun w' hos htape hout hsz hbl hO'=>by
   have lk:∀ i o1,lookA (setA (delAll hp []) id (.row et e (List.mergeSort (α:=e.D) l fun x y=>!(ltOf cf) y x))) i = some o1→(i = id∧o1 = .row et e (List.mergeSort (α:=e.D) l fun x y=>!(ltOf cf) y x))∨(i ≠ id∧i ∉ []∧lookA hp i = some o1):=fun i o1 h1=>Xh hrow h1
   have hev:Evo φ hp w φ (setA (delAll hp []) id (.row et e (List.mergeSort (α:=e.D) l fun x y=>!(ltOf cf) y x))) w':=⟨hos,htape,hout,hsz,fun _ _ h=>h,fun i o1 q b h1 h2 h3=>by
     rcases lk i o1 h1 with ⟨rfl,rfl⟩ | ⟨_,_,h4⟩
     ·exact .inr fun hk=>hk i _ q hrow h2 h3
     ·exact .inr fun hk=>hk i _ q h4 h2 h3,
    fun b hb hk=>hbl b hb (hk id _ p hrow z1)⟩
   refine ⟨φ,_,fun i=>rfl,⟨fun i o1 h1=>?_,hh.fr,fun i j o1 o2 q q' b h1 h2 hne h3 h4 h5=>?_⟩,hev,trivial,fun i hi=>.inl hi⟩
   ·rcases lk i o1 h1 with ⟨rfl,rfl⟩ | ⟨m1,m2,m3⟩
    ·exact hO'
    ·refine (hh.ob i o1 m3).evo hev fun q b hq hb=>?_
     obtain ⟨q',hq',hl⟩:=(hh.ob i o1 m3).has
     rw [hq] at hq'; cases hq'
     exact hbl b (hl b hb) fun hpb=>hh.dj i id o1 _ q p b m3 hrow m1 hq z1 hb hpb
   ·rcases lk i o1 h1 with ⟨rfl,rfl⟩ | ⟨_,_,e1⟩ <;> rcases lk j o2 h2 with ⟨rfl,rfl⟩ | ⟨_,_,e2⟩
    ·exact absurd rfl hne
    ·exact hh.dj i j _ o2 q q' b hrow e2 hne h3 h4 h5
    ·exact hh.dj i j o1 _ q q' b e1 hrow hne h3 h4 h5
    ·exact hh.dj i j o1 o2 q q' b e1 e2 hne h3 h4 h5
  have okS:∀ {o':Ob} (c:Nat),okb φ hp c→okb φ (setA (delAll hp []) id o') c:=fun c hc i o q h1 h2 h3=>by
   rcases Xh hrow h1 with ⟨rfl,rfl⟩ | ⟨_,_,h4⟩
   ·exact hc i _ q hrow h2 h3
   ·exact hc i _ q h4 h2 h3
  by_cases hl0:(l:List e.D) = []
  ·subst hl0
   obtain ⟨A,cap,rfl⟩:∃ A cap,v0 = .slice A 0 cap:=by
    rcases hv0 with ⟨_,_,A,h⟩ | ⟨b,sz,cap,n,_,_,h⟩
    ·exact ⟨A,0,h⟩
    ·exact ⟨_,cap,h⟩
   refine (hN A cap _ w).mono fun e' w' he=>?_
   obtain ⟨rfl,rfl⟩:=he
   refine ⟨_,rfl,fin w' rfl rfl rfl (Nat.le_refl _) (fun _ _ _=>rfl) ?_⟩
   rw [show (List.mergeSort (α:=e.D) [] fun x y=>!(ltOf cf) y x) = [] by simp]
   rcases hh.ob id _ hrow with ⟨o1,o2⟩ | ⟨b,cap,arr,o1,o2,o3,o4,o5⟩
   ·exact .inl ⟨o1,rfl⟩
   ·exact .inr ⟨b,cap,arr,o1,o2,o3,o4,fun j x hx=>by cases hx⟩
  obtain ⟨b,cap,arr,o1,o2,o3,o4,o5⟩:∃ b cap arr,φ id = some (.at b e.n cap (List.length (α:=e.D) l))∧w.heap[b]? = some (.cells arr et (0,0))∧arr.size = cap * e.n∧List.length (α:=e.D) l≤cap ∧
   ∀ j (x:e.D),l[j]? = some x→∃ vs,K (okb φ hp) w e x vs∧∀ i u,vs[i]? = some u→arr[j * e.n + i]? = some u:=by
   rcases hh.ob id _ hrow with ⟨_,h⟩ | h
   ·exact absurd h hl0
   ·exact h
  have hpos:0 < List.length (α:=e.D) l:=List.length_pos_iff.2 hl0
  obtain rfl:p = .at b e.n cap (List.length (α:=e.D) l):=by rw [o1] at z1; cases z1; rfl
  have hv:v0 = .slice (some ⟨b,0,none⟩) (List.length (α:=e.D) l) cap:=by
   rcases hv0 with ⟨h,_⟩ | ⟨b',sz,cap',n,h1,h2,h3⟩
   ·rw [o1] at h; cases h
   ·rw [o1] at h1; cases h1; exact h3
  subst hv
  have hb:b < w.heap.size:=hlt b rfl
  have hnb:∀ b',okb φ hp b'→b' ≠ b:=fun b' hk he=>hk id _ _ hrow o1 he
  have hgb:∀ b',glB b'→b' ≠ b:=fun b' hg he=>by
   unfold hasAmb at hA
   split at hA
   rotate_left
   ·cases hA
   rename_i ho
   obtain ⟨S0,w0,y1,⟨y2,y3⟩,y4⟩:∃ S w0,φ 0 = some (.set S w0)∧Gl w0 S∧∀ b,S b→b < w.heap.size∧w.heap[b]? = w0.heap[b]?:=hh.ob 0 _ ho
   exact hh.dj id 0 _ _ _ _ b' hrow ho h0 o1 y1 he (y3 b' hg)
  have hex:∀ j:Fin (List.length (α:=e.D) l),∃ el:El (okb φ hp) w e pe,el.x = List.get (α:=e.D) l j∧∀ i u,el.vs[i]? = some u→arr[j.1 * e.n + i]? = some u:=fun j=>by
   obtain ⟨vs,h1,h2⟩:=o5 j.1 (List.get (α:=e.D) l j) (List.getElem?_eq_getElem j.2)
   exact ⟨⟨_,vs,h1,hpe _ (List.get_mem l j)⟩,rfl,h2⟩
  let pk:Fin (List.length (α:=e.D) l)→El (okb φ hp) w e pe:=fun j=>Classical.choose (hex j)
  have pks:∀ j,(pk j).x = List.get (α:=e.D) l j∧∀ i u,(pk j).vs[i]? = some u→arr[j.1 * e.n + i]? = some u:=fun j=>Classical.choose_spec (hex j)
  let d:Array (El (okb φ hp) w e pe):=Array.ofFn pk
  letI:Inhabited (El (okb φ hp) w e pe):=⟨pk ⟨0,hpos⟩⟩
  letI:Inhabited e.D:=⟨List.get (α:=e.D) l ⟨0,hpos⟩⟩
  have hds:d.size = List.length (α:=e.D) l:=Array.size_ofFn
  have hdg:∀ j (h:j < List.length (α:=e.D) l),d[j]! = pk ⟨j,h⟩:=fun j h=>by
   rw [getElem!_pos d j (by rw [hds]; exact h)]
   exact Array.getElem_ofFn _
  have ek:∀ x:El (okb φ hp) w e pe,x.vs.length = e.n:=fun x=>Xz _ _ _ x.hk
  have hcell:∀ t,t < d.size * e.n→arr[t]? = some ((Go.Sort.flatK (α:=El (okb φ hp) w e pe) El.vs e.n d)[t]!):=fun t ht=>by
   have hj:t / e.n < List.length (α:=e.D) l:=Nat.div_lt_of_lt_mul (by rw [Nat.mul_comm]; rwa [hds] at ht)
   have hi:t % e.n < e.n:=Nat.mod_lt _ hn
   rw [get_flatK _ _ _ _ ht,hdg _ hj]
   have h2:=(pks ⟨t / e.n,hj⟩).2 (t % e.n) ((pk ⟨t / e.n,hj⟩).vs[t % e.n]!) (by
    rw [List.getElem?_eq_getElem (by rw [ek]; exact hi),getElem!_pos _ _ (by rw [ek]; exact hi)])
   rw [show t / e.n * e.n + t % e.n = t from Nat.div_add_mod' t e.n] at h2
   exact h2
  have hH:HoldsK (α:=El (okb φ hp) w e pe) El.vs e.n w b 0 d:=fun t ht=>by
   rw [size_flatK] at ht
   refine ⟨?_,?_⟩
   ·unfold World.cell?
    simp only [o2,Nat.zero_add]
    exact hcell t ht
   ·unfold World.frozen?
    simp only [o2]
    simp
  have hwb:∀ (m:Nat) (dk:Array (El (okb φ hp) w e pe)) (os:Array Obj) (b':Nat),b' ≠ b→b' < w.heap.size→(sortWorldK El.vs e.n w b 0 m dk os).heap[b']? = w.heap[b']?:=fun m dk os b' h1 h2=>by
   rw [sortW_heap _ _ _ _ _ _ _ hb _ h2,if_neg h1]
  have hcmp:CmpLays (α:=El (okb φ hp) w e pe) P c #[] El.vs e.n (fun x y=>cf x.x y.x) b 0 d.size w:=fun m os dk hs x y=>by
   have hsz:=sortW_size El.vs e.n w b m dk os
   have hGW:GlOk (okb φ hp) (sortWorldK El.vs e.n w b 0 m dk os):=⟨Xb (fun b' hg=>hwb m dk os b' (hgb b' hg) (XD hG.1 hg)) (Nat.le_trans hG.1.sz hsz) hG.1,hG.2⟩
   have hKm:∀ z:El (okb φ hp) w e pe,KV (okb φ hp) (sortWorldK El.vs e.n w b 0 m dk os) e z.x (.agg z.vs.toArray):=fun z=>by
    unfold KV
    rw [if_pos hagg]
    exact ⟨_,rfl,YI (fun b' h1 h2=>⟨hwb m dk os b' (hnb b' h1) h2,h1⟩) _ _ _ z.hk⟩
   have hK:KVs (okb φ hp) (sortWorldK El.vs e.n w b 0 m dk os) [e,e] (x.x,y.x,()) [.agg x.vs.toArray,.agg y.vs.toArray]:=⟨hKm x,hKm y,rfl⟩
   have h:=calls_dr (sp.2 (okb φ hp) _ _ (x.x,y.x,()) hGW hK x.hp)
   have ea:(#[.agg x.vs.toArray,.agg y.vs.toArray] ++ #[]:Array Value) = [.agg x.vs.toArray,.agg y.vs.toArray].toArray:=by simp
   rw [ea]
   refine h.mono fun e' w' he=>?_
   obtain ⟨v,rfl,⟨hB,hR⟩,hd⟩:=he
   refine ⟨?_,world_grow hB hd⟩
   have hR':[v] = [Value.int .i64 (cf x.x y.x)]:=hR
   injection hR' with hR' _
   rw [hR']
  have hO':SWO (ltOf fun x y:El (okb φ hp) w e pe=>cf x.x y.x):=⟨fun x=>hO.irrefl x.x,fun x y z=>hO.trans x.x y.x z.x,fun x y z=>hO.ntrans x.x y.x z.x⟩
  have hrun:=hS (El (okb φ hp) w e pe) inferInstance El.vs ek (fun x=>K_one _ _ _ x.hk) (fun x y=>cf x.x y.x) hO' c #[] b 0 cap d w eg hcmp hH hb (by rw [hds]; exact Nat.lt_of_le_of_lt hlen hN0)
  rw [hds] at hrun
  refine hrun.mono fun e' w' he=>?_
  obtain ⟨rfl,d',n,os,hperm,hsort,rfl⟩:=he
  rw [← hds] at hperm hsort
  have hd's:d'.size = List.length (α:=e.D) l:=by rw [hperm.1,hds]
  have hdl:(d.map El.x).toList = l:=by
   rw [Array.toList_map]
   apply List.ext_getElem
   ·rw [List.length_map,Array.length_toList,hds]
   ·intro j h1 h2
    rw [List.getElem_map,Array.getElem_toList,show d[j]'(by rw [hds]; exact h2) = pk ⟨j,h2⟩ from Array.getElem_ofFn _]
    exact (pks ⟨j,h2⟩).1
  have mg:∀ (a:Array (El (okb φ hp) w e pe)) (i:Nat),i < a.size→(a.map El.x)[i]! = (a[i]!).x:=fun a i hi=>by
   rw [getElem!_pos a i hi,getElem!_pos (a.map El.x) i (by rw [Array.size_map]; exact hi),Array.getElem_map]
  have hsorted:(d'.map El.x).toList = (List.mergeSort (α:=e.D) l fun x y=>!(ltOf cf) y x):=by
   have h:=sorted_unique_holds hO hT (d.map El.x) (d'.map El.x) ⟨by rw [Array.size_map,Array.size_map,hperm.1],fun i hi=>by
    rcases hi with hi | hi
    ·omega
    ·rw [Array.size_map] at hi
     rw [getElem!_neg (d'.map El.x) i (by rw [Array.size_map,hperm.1]; omega),getElem!_neg (d.map El.x) i (by rw [Array.size_map]; omega)],by
    have h3:=hperm.2.2
    rw [show d'.extract 0 d.size = d' by rw [← hperm.1]; exact Array.extract_size,Array.extract_size] at h3
    rw [show (d'.map El.x).extract 0 (d.map El.x).size = d'.map El.x by rw [Array.size_map,← hperm.1,← Array.size_map (f:=El.x)]; exact Array.extract_size,Array.extract_size,Array.toList_map,Array.toList_map]
    exact h3.map El.x⟩ (fun i j h1 h2 h3=>by
    rw [Array.size_map] at h3
    rw [mg _ _ (by omega),mg _ _ (by omega)]
    exact hsort i j h1 h2 h3)
   rw [hdl] at h
   exact h
  refine ⟨_,rfl,fin _ rfl rfl rfl (sortW_size _ _ _ _ _ _ _) (fun b' h1 h2=>hwb n d' os b' h2 h1) ?_⟩
  rw [← hsorted]
  have hL:List.length (α:=e.D) (d'.map El.x).toList = List.length (α:=e.D) l:=by rw [Array.toList_map,List.length_map]; exact hd's
  refine .inr ⟨b,cap,putCells (fun x:Value=>x) 0 (Go.Sort.flatK El.vs e.n d') arr,?_,?_,?_,?_,fun j x hx=>?_⟩
  ·rw [o1,hL]
  ·rw [sortW_heap _ _ _ _ _ _ _ hb _ hb,if_pos rfl,o2]; rfl
  ·unfold putCells; rw [Array.size_mapIdx,o3]
  ·rw [hL]; exact o4
  ·have hj:j < d'.size:=by
    have:=(List.getElem?_eq_some_iff.1 hx).1
    rwa [Array.length_toList,Array.size_map] at this
   have hxe:x = (d'[j]).x:=by
    obtain ⟨h1,h2⟩:=List.getElem?_eq_some_iff.1 hx
    rw [← h2,Array.getElem_toList,Array.getElem_map]
   refine ⟨(d'[j]).vs,?_,fun i u hu=>?_⟩
   ·rw [hxe]
    exact YI (fun b' h1 h2=>⟨hwb n d' os b' (hnb b' h1) h2,okS b' h1⟩) _ _ _ (d'[j]).hk
   ·have hi:i < e.n:=by
     have:=(List.getElem?_eq_some_iff.1 hu).1
     rwa [ek] at this
    have hlt2:j * e.n + i < d'.size * e.n:=by
     have:=Nat.mul_le_mul_right e.n (show j + 1≤d'.size from hj)
     rw [Nat.add_mul,Nat.one_mul] at this; omega
    have hlt3:j * e.n + i < arr.size:=by
     have:=Nat.mul_le_mul_right e.n o4
     rw [o3]; rw [hd's] at hlt2; omega
    unfold putCells
    rw [Array.getElem?_mapIdx,Array.getElem?_eq_getElem hlt3,Option.map_some,if_pos ⟨Nat.zero_le _,by rw [size_flatK]; omega⟩,Nat.sub_zero,get_flatK _ _ _ _ hlt2]
    have q1:(j * e.n + i) / e.n = j:=by rw [Nat.mul_comm,Nat.mul_add_div hn,Nat.div_eq_of_lt hi,Nat.add_zero]
    have q2:(j * e.n + i) % e.n = i:=by rw [Nat.mul_comm,Nat.mul_add_mod,Nat.mod_eq_of_lt hi]
    rw [q1,q2,getElem!_pos d' j hj]
    obtain ⟨h1,h2⟩:=List.getElem?_eq_some_iff.1 hu
    rw [getElem!_pos (d'[j]).vs i h1,h2]
end Go.VM
