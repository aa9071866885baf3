/- A condition generator over the model's code, proved sound: what a function's body must come to is told as conditions on plain data. Conditions: none of ours. -/
import Derived.Test.YtljepnnnjfalcaaGreatC4
set_option autoImplicit false
set_option linter.all false
namespace Go.VM
open Go Go.Lib
variable {B:Nat × Bool}
def adopt (s:St) (j:Nat) (i:Option Nat) (et:TypeId) (e:Ty):Option St:=match i with
 | none=>match s.look j with
   | .c .nils=>match Nat.beq et 1000000 with
     | true=>some { s with sl:=setA s.sl j (.c (.sl e [])) }
     | false=>some { s with sl:=setA s.sl j (.c (.own s.nx 0)),hp:=(s.nx,.row et e []) :: s.hp,nx:=s.nx + 1 }
   | _=>none
 | some i=>match s.look j with
   | .c (.ptr id 0)=>match lookA s.hp id with
     | some (.box t cs)=>match cs[i]? with
       | some .nils=>some { s with hp:=setA ((s.nx,.row et e []) :: s.hp) id (.box t (cs.set i (.own s.nx 0))),nx:=s.nx + 1 }
       | _=>none
     | _=>none
   | _=>none
def adopts:List (Nat × Option Nat × TypeId × Ty)→St→Option St
 | [],s=>some s
 | (j,i,et,e) :: l,s=>match adopt s j i et e with
   | some s=>adopts l s
   | none=>none
structure Ann:Type 1 where
 js:List Nat
 ren:St→List Nat
 ad:List (Nat × Option Nat × TypeId × Ty)
 X:Type
 c:St→X→St
 ext:St→X
 I:St→X→Prop
 mu:St→X→Nat
def loopVC (an:Ann) (body:St→Kont→VC) (s:St) (k:Kont):VC:=match adopts an.ad s with
 | none=>.bad
 | some s1=>match norm s1.nx an.js (an.ren s1) s1 with
   | none=>.bad
   | some n0=>.obl (n0 = an.c n0 (an.ext n0)) (.obl (an.I n0 (an.ext n0)) (.all an.X fun x=>.imp (an.I n0 x) (body (an.c n0 x) fun e s2=>match e with
     | .normal=>match norm s1.nx an.js (an.ren s2) s2 with
       | some n2=>.ok (n2 = an.c n0 (an.ext n2)∧an.I n0 (an.ext n2)∧an.mu n0 (an.ext n2) < an.mu n0 x)
       | none=>.bad
     | .exit id=>k (.exit id) s2
     | .ret=>k .ret s2)))
def unroll (body:St→Kont→VC):Nat→St→Kont→VC
 | 0,_,_=>.bad
 | n + 1,s,k=>body s fun e s2=>match e with
   | .normal=>unroll body n s2 k
   | .exit id=>k (.exit id) s2
   | .ret=>k .ret s2
structure RAnn:Type 1 where
 js:List Nat
 ren:St→List Nat
 ad:List (Nat × Option Nat × TypeId × Ty)
 X:Type
 c:St→X→St
 ext:St→X
 I:St→Nat→X→Prop
def backS (s s2:St):St:={ s with hp:=s2.hp,nx:=s2.nx }
def rangeVC (L:Lv) (spc:Spc) (an:RAnn) (f:Operand) (ps:Array Tmp) (gA gB:St→Kont→VC) (s:St) (k:Kont):VC:=match adopts an.ad s with
 | none=>.bad
 | some s0=>match s0.ev f with
   | .c (.fn g caps)=>match spc.it g with
     | none=>.bad
     | some it=>match viewCaps L (lookA s0.hp) it.ins caps with
       | none=>.bad
       | some (v,ids)=>match hasAmb (lookA s0.hp) ids with
         | false=>.bad
         | true=>match norm s0.nx an.js (an.ren { s0 with hp:=delAll s0.hp ids }) { s0 with hp:=delAll s0.hp ids } with
           | none=>.bad
           | some n0=>.obl (it.pre v) (.obl (n0 = an.c n0 (an.ext n0)) (.obl (an.I n0 0 (an.ext n0)) (.all Bool fun b=>.br b
             (.all an.X fun x=>.all Nat fun i=>.all (Ds it.el) fun y=>.imp (L.nth (Ds it.el) (it.fn v) i y∧an.I n0 i x) (match putPs ps.toList it.el y (an.c n0 x) with
              | none=>.bad
              | some s2=>match hasAmb (lookA s2.hp) [] with
               | false=>.bad
               | true=>gA s2 fun e s3=>match e with
               | .normal=>gB s3 fun e s4=>match hasAmb (lookA s4.hp) [] with
                | false=>.bad
                | true=>match e with
                | .normal=>match norm s0.nx an.js (an.ren (backS (an.c n0 x) s4)) (backS (an.c n0 x) s4) with
                  | some n2=>.ok (n2 = an.c n0 (an.ext n2)∧an.I n0 (i + 1) (an.ext n2))
                  | none=>.bad
                | .exit id=>k (.exit id) (backS (an.c n0 x) s4)
                | .ret=>k .ret (backS (an.c n0 x) s4)
               | _=>.bad))
             (.all an.X fun x=>.imp (an.I n0 (L.cnt (Ds it.el) (it.fn v)) x) (k .normal (an.c n0 x))))))
   | _=>.bad
inductive LAnn:Type 1
 | no
 | un (n:Nat)
 | an (a:Ann)
 | rf (a:RAnn)
abbrev Plan:=List (Nat × List Nat)
def headR:Code→Option Nat
 | .region id _ _=>some id
 | .seq x _=>headR x
 | .block _ c=>headR c
 | _=>none
def joinAn (ann:Nat→LAnn) (x:Code):Option Ann:=match headR x with
 | some id=>match ann (1000000 + id) with
   | .an a=>some a
   | _=>none
 | none=>none
def condVC (c:Operand) (gx gy:St→Kont→VC) (s:St) (k:Kont):VC:=match s.ev c with
 | .c (.bool true)=>gx s k
 | .c (.bool false)=>gy s k
 | .c (.sym q)=>.br q (gx s k) (gy s k)
 | _=>.bad
def joinVC (an:Ann) (gen:St→Kont→VC) (s:St) (k:Kont):VC:=match norm s.nx an.js (an.ren s) s with
 | none=>.bad
 | some n0=>.all Bool fun b=>.br b
   (gen s fun e s2=>match e with
    | .normal=>match norm s.nx an.js (an.ren s2) s2 with
      | some n2=>.ok (n2 = an.c n0 (an.ext n2)∧an.I n0 (an.ext n2))
      | none=>.bad
    | .exit id=>k (.exit id) s2
    | .ret=>k .ret s2)
   (.all an.X fun x=>.imp (an.I n0 x) (k .normal (an.c n0 x)))
def pub1 (L:Lv) (s:St) (j:Nat):St:=match s.look j with
 | .c (.own id n)=>match lookA s.hp id with
   | some (.row _ e _)=>match viewV L (lookA s.hp) (.sl e) (.c (.own id n)) with
     | some (x,ids)=>{ s with hp:=delAll s.hp ids }.put (some j) (outV (.sl e) x)
     | none=>s
   | _=>s
 | _=>s
def pubAll (L:Lv):List (Nat × List Nat)→St→St
 | [],s=>s
 | p :: l,s=>pubAll L l (pub1 L s p.1)
def vcgC (L:Lv) (E:Ev) (call:CallG) (spc:Spc) (pl:Nat→Plan) (ann:Nat→LAnn):Nat→Code→St→Kont→VC
 | _,.skip,s,k=>k .normal s
 | _,.region id ops draw,s,k=>match draw with
   | true=>drawVC L E call spc ops (pl id) s (k .normal)
   | false=>vcgOps L E call ops ops.toList (pubAll L (pl id) s) (k .normal)
 | b,.seq x y,s,k=>vcgC L E call spc pl ann b x s fun e s1=>match e with
   | .normal=>vcgC L E call spc pl ann b y s1 k
   | .exit id=>k (.exit id) s1
   | .ret=>k .ret s1
 | b,.cond c x y,s,k=>match joinAn ann x with
   | some a=>joinVC a (condVC c (vcgC L E call spc pl ann b x) (vcgC L E call spc pl ann b y)) s k
   | none=>condVC c (vcgC L E call spc pl ann b x) (vcgC L E call spc pl ann b y) s k
 | _,.block id c,s,k=>vcgC L E call spc pl ann id c s fun e s1=>match e with
   | .normal=>k .normal s1
   | .exit id'=>if Nat.beq id' id then k .normal s1 else k (.exit id') s1
   | .ret=>k .ret s1
 | b,.loop c,s,k=>match ann b with
   | .no=>.bad
   | .un n=>unroll (vcgC L E call spc pl ann b c) n s k
   | .an a=>loopVC a (vcgC L E call spc pl ann b c) s k
   | .rf _=>.bad
 | b,.rangeFunc f ps x y,s,k=>match ann b with
   | .rf a=>rangeVC L spc a f ps (vcgC L E call spc pl ann b x) (vcgC L E call spc pl ann b y) s k
   | _=>.bad
 | _,.exit id,s,k=>k (.exit id) s
 | _,.label _,s,k=>k .normal s
 | _,.ret,s,k=>k .ret s
 | _,_,_,_=>.bad
def EndsC (B:Nat × Bool) (φ:Phi) (hp:Hp) (w:World) (n:Nat) (k:Kont) (e:Exit) (a':Act) (w':World):Prop:=∃ x:Ex,x.to = e∧Ends B φ hp w n (k x) a' w'
def CodeOk (F:Fence) (B:Nat × Bool) (P:Program) (c:Code) (gen:St→Kont→VC):Prop:=∀ (m:Nat) (φ:Phi) (s:St) (a:Act) (w:World) (k:Kont) (Q:Exit→Act→World→Prop),
 (gen s k).holds→Rel B φ s a w→(∀ e a' w',EndsC B φ s.hp w s.n k e a' w'→Q e a' w')→c.wpIn F m P Q a w
section
variable {P:Program} {E:Ev}
theorem Ends.from {φ φ':Phi} {hp hp':Hp} {w w':World} {n:Nat} {k:St→VC} {a2:Act} {w2:World} (ev:Evo φ hp w φ' hp' w') (h:Ends B φ' hp' w' n k a2 w2):Ends B φ hp w n k a2 w2:=by
 obtain ⟨φ2,s2,t1,t2,t3,t4⟩:=h
 exact ⟨φ2,s2,t1,ev.trans t2,t3,t4⟩
theorem least (p:Nat→Prop) (h:∃ n,p n):∃ n,p n∧∀ m,p m→n≤m:=by
 obtain ⟨n,hn⟩:=h
 induction n using Nat.strongRecOn with
 | _ n ih =>
   by_cases hx:∃ m,m < n∧p m
   ·obtain ⟨m,h1,h2⟩:=hx; exact ih m h1 h2
   ·exact ⟨n,hn,fun m hm=>by
     rcases Nat.lt_or_ge m n with h | h
     ·exact absurd ⟨m,h,hm⟩ hx
     ·exact h⟩
theorem wp_loop_g {F:Fence} {m:Nat} {c:Code} {Q:Exit→Act→World→Prop} {G:Type} (I:G→Act→World→Prop) (μ:G→Nat) {a:Act} {w:World} (h0:∃ g,I g a w)
  (round:∀ g a w,I g a w→c.wpIn F m P (Exit.then (fun a' w'=>∃ g',I g' a' w'∧μ g' < μ g) Q) a w):(Code.loop c).wpIn F m P Q a w:=by
 have hm:∀ (a:Act) (w:World),∃ n,(∃ g,I g a w)→(∃ g,I g a w∧μ g = n)∧∀ g,I g a w→n≤μ g:=by
  intro a w
  by_cases h:∃ g,I g a w
  ·obtain ⟨g,hg⟩:=h
   obtain ⟨n,h1,h2⟩:=least (fun n=>∃ g,I g a w∧μ g = n) ⟨μ g,g,hg,rfl⟩
   exact ⟨n,fun _=>⟨h1,fun g hg=>h2 _ ⟨g,hg,rfl⟩⟩⟩
  ·exact ⟨0,fun hh=>absurd hh h⟩
 refine wpIn_loop (fun a w=>∃ g,I g a w) (fun a w=>Classical.choose (hm a w)) h0 fun a w hI=>?_
 obtain ⟨⟨g,hg,hgn⟩,_⟩:=Classical.choose_spec (hm a w) hI
 refine wpIn_mono (round g a w hg) fun e a' w' he=>?_
 cases e with
 | normal =>
   obtain ⟨g',h1,h2⟩:=he
   refine ⟨⟨g',h1⟩,?_⟩
   have:=(Classical.choose_spec (hm a' w') ⟨g',h1⟩).2 g' h1
   omega
 | _=>exact he
theorem nil_sl {φ:Phi} (ok:Nat→Prop) (w:World) (e:Ty):Crel φ ok w (.sl e []) (.slice none 0 0):=by
 show K ok w (.sl e) ([]:List e.D) [.slice none 0 0]
 exact ⟨none,0,rfl,Nat.le_refl _,fun h=>absurd h (by simp)⟩
theorem adopt_ok {φ:Phi} {s s':St} {a:Act} {w:World} {j:Nat} {i:Option Nat} {et:TypeId} {e:Ty} (h:adopt s j i et e = some s') (hr:Rel B φ s a w) :
  ∃ φ',Rel B φ' s' a w∧Evo φ s.hp w φ' s'.hp w∧s'.n = s.n:=by
 have hb:=Go.RowKit.Below.refl w.heap.size w
 have hpl:∀ b,Place.nil.S b→w.heap.size≤b:=fun b hb=>hb.elim
 have hn:=hr.h.new (Nat.le_refl s.nx) (.row et e []) .nil hb hpl (.inl ⟨Zw _ _ _,rfl⟩)
 have ev:=Xq hr.h (Nat.le_refl s.nx) (.row et e []) .nil hb hpl
 unfold adopt at h
 cases i with
 | none =>
   simp only at h
   split at h
   ·rename_i hl
    split at h
    ·cases h
     refine ⟨φ,⟨hr.sz,hr.bs,hr.df,fun q v hv=>?_,hr.ob,hr.fr,hr.dj⟩,Evo.refl _ _ _,rfl⟩
     change lookA (setA s.sl j _) q = some v at hv
     rw [Xa] at hv
     split at hv
     ·rename_i hq
      cases hv
      subst hq
      have hv:=Xm hr (.tmp q)
      have hv':Vrel φ (okb φ s.hp) w (s.look q) (a.tmps.getD q undef):=hv
      rw [hl] at hv'
      have hv2:a.tmps.getD q undef = .slice none 0 0:=hv'
      show Crel φ (okb φ s.hp) w (.sl e []) (a.tmps.getD q undef)
      rw [hv2]
      exact nil_sl _ _ e
     ·exact hr.sl q v hv
    cases h
    refine ⟨_,⟨hr.sz,hr.bs,ev.D hr.df,fun q v hv=>?_,hn.ob,hn.fr,hn.dj⟩,ev,rfl⟩
    change lookA (setA s.sl j _) q = some v at hv
    rw [Xa] at hv
    split at hv
    ·rename_i hq
     cases hv
     subst hq
     have hv:=Xm hr (.tmp q)
     have hv':Vrel φ (okb φ s.hp) w (s.look q) (a.tmps.getD q undef):=hv
     rw [hl] at hv'
     exact .inl ⟨Zw _ _ _,rfl,none,hv'⟩
    ·exact ev.V (hr.sl q v hv)
   ·cases h
 | some i =>
   simp only at h
   split at h
   ·rename_i id hl
    split at h
    ·rename_i t cs ho
     split at h
     ·rename_i hc
      cases h
      have hne:id ≠ s.nx:=fun e=>by have:=hr.h.lt ho; omega
      have ho':lookA ((s.nx,Ob.row et e []) :: s.hp) id = some (.box t cs):=by
       simp only [lookA,ifb]
       rw [if_neg (fun e=>hne e.symm)]; exact ho
      obtain ⟨b,vs,h1,h2,h3⟩:=hn.ob id _ ho'
      have ht:Turned w w b:=⟨rfl,rfl,rfl,rfl,fun _ _=>rfl⟩
      have ev2:=Y6 (φ:=phiSet φ s.nx .nil) ho' h1 (show (Place.at b 1 0 0).S b from rfl) ht [] (.box t (cs.set i (.own s.nx 0)))
      have hu:=hn.upd ho' h1 (show (Place.at b 1 0 0).S b from rfl) ht [] (.box t (cs.set i (.own s.nx 0))) (by
       refine ⟨b,vs,h1,h2,?_⟩
       have h3':=Yo (fun _ _ hh=>ev2.C hh) h3
       obtain ⟨v,hv1,hv2⟩:=L2_get h3' hc
       have:vs = vs.set i v:=by
        refine List.ext_getElem? fun q=>?_
        by_cases hq:i = q
        ·subst hq
         rw [List.getElem?_set_self (List.getElem?_eq_some_iff.1 hv1).1]; exact hv1
        ·rw [List.getElem?_set_ne hq]
       rw [this]
       exact L2_set (.inl ⟨Zw _ _ _,rfl,none,hv2⟩) i h3')
      refine ⟨_,⟨hr.sz,hr.bs,(ev.trans ev2).D hr.df,fun q v hv=>(ev.trans ev2).V (hr.sl q v hv),hu.ob,hu.fr,hu.dj⟩,ev.trans ev2,rfl⟩
     ·cases h
    ·cases h
   ·cases h
theorem adopts_ok:∀ (l:List (Nat × Option Nat × TypeId × Ty)) {φ:Phi} {s s':St} {a:Act} {w:World},adopts l s = some s'→Rel B φ s a w→∃ φ',Rel B φ' s' a w∧Evo φ s.hp w φ' s'.hp w∧s'.n = s.n
 | [],φ,s,s',a,w,h,hr=>by cases h; exact ⟨φ,hr,Evo.refl _ _ _,rfl⟩
 | (j,i,et,e) :: l,φ,s,s',a,w,h,hr=>by
   unfold adopts at h
   split at h
   ·rename_i s1 h1
    obtain ⟨φ1,r1,e1,n1⟩:=adopt_ok h1 hr
    obtain ⟨φ2,r2,e2,n2⟩:=adopts_ok l h r1
    exact ⟨φ2,r2,e1.trans e2,n2.trans n1⟩
   ·cases h
theorem loop_sound {F:Fence} {c:Code} {gen:St→Kont→VC} (an:Ann) (hb:CodeOk F B P c gen):CodeOk F B P (.loop c) (loopVC an gen):=by
 intro m φ s a w k Q h hr hQ
 unfold loopVC at h
 split at h
 ·exact h.elim
 ·rename_i s1 hs1
  obtain ⟨φ1,r1,e1,m1⟩:=adopts_ok an.ad hs1 hr
  have hfr:∀ id,s1.nx≤id→φ id = none:=fun id hid=>by
   cases hp:φ id with
   | none=>rfl
   | some p=>have:=e1.ph id p hp; rw [r1.fr id hid] at this; cases this
  split at h
  ·exact h.elim
  ·rename_i n0 hn0
   obtain ⟨h1,h2,h3⟩:=h
   obtain ⟨r0,m0,e0,_⟩:=XO hn0 r1
   refine wp_loop_g (fun (x:an.X) a' w'=>an.I n0 x∧∃ φ',Rel B φ' (an.c n0 x) a' w'∧Evo φ s.hp w φ' (an.c n0 x).hp w'∧(an.c n0 x).n = s.n) (an.mu n0) ⟨an.ext n0,h2,phiRen φ1 s1.nx (an.ren s1),?_⟩ ?_
   ·rw [← h1]; exact ⟨r0,e0 _ _ _ hfr e1,m0.trans m1⟩
   ·rintro x a1 w1 ⟨hI,φ',r2,e2,m2⟩
    refine hb m φ' (an.c n0 x) a1 w1 _ _ (h3 x hI) r2 ?_
    rintro e a2 w2 ⟨y,rfl,he⟩
    have he':=he.from e2
    rw [m2] at he'
    cases y with
    | normal =>
      obtain ⟨φ3,s3,t1,t2,t3,t4⟩:=he'
      simp only at t4
      split at t4
      ·rename_i n2 hn2
       obtain ⟨q1,q2,q3⟩:=t4
       obtain ⟨r4,m4,e4,_⟩:=XO hn2 t1
       refine ⟨an.ext n2,⟨q2,phiRen φ3 s1.nx (an.ren s3),?_⟩,q3⟩
       rw [← q1]; exact ⟨r4,e4 _ _ _ hfr t2,m4.trans t3⟩
      ·exact t4.elim
    | exit id=>exact hQ _ _ _ ⟨.exit id,rfl,he'⟩
    | ret=>exact hQ _ _ _ ⟨.ret,rfl,he'⟩
theorem join_sound {F:Fence} {c:Code} {gen:St→Kont→VC} (an:Ann) (hb:CodeOk F B P c gen):CodeOk F B P c (joinVC an gen):=by
 intro m φ s a w k Q h hr hQ
 unfold joinVC at h
 split at h
 ·exact h.elim
 rename_i n0 hn0
 have h1:=(h true).1 rfl
 have h2:=(h false).2 rfl
 refine hb m φ s a w _ _ h1 hr ?_
 rintro e a2 w2 ⟨y,rfl,he⟩
 cases y with
 | normal =>
   obtain ⟨φ3,s3,t1,t2,t3,t4⟩:=he
   simp only at t4
   split at t4
   ·rename_i n2 hn2
    obtain ⟨q1,q2⟩:=t4
    obtain ⟨r4,m4,e4,_⟩:=XO hn2 t1
    refine hQ _ _ _ ⟨.normal,rfl,phiRen φ3 s.nx (an.ren s3),an.c n0 (an.ext n2),?_,?_,?_,h2 _ q2⟩
    ·rw [← q1]; exact r4
    ·rw [← q1]; exact e4 _ _ _ (fun id hid=>hr.fr id hid) t2
    ·rw [← q1]; exact m4.trans t3
   ·exact t4.elim
 | exit id=>exact hQ _ _ _ ⟨.exit id,rfl,he⟩
 | ret=>exact hQ _ _ _ ⟨.ret,rfl,he⟩
theorem cond_sound {F:Fence} {c:Operand} {x y:Code} {gx gy:St→Kont→VC} (hx:CodeOk F B P x gx) (hy:CodeOk F B P y gy):CodeOk F B P (.cond c x y) (condVC c gx gy):=by
 intro m φ s a w k Q h hr hQ
 unfold condVC at h
 have hv:=Xm hr c
 split at h
 ·rename_i e; rw [e] at hv
  exact wpIn_cond_true hv (hx m φ s a w k Q h hr hQ)
 ·rename_i e; rw [e] at hv
  exact wpIn_cond_false hv (hy m φ s a w k Q h hr hQ)
 ·rename_i q e; rw [e] at hv
  exact wpIn_cond_split hv (fun e=>hx m φ s a w k Q (h.1 e) hr hQ) (fun e=>hy m φ s a w k Q (h.2 e) hr hQ)
 ·exact h.elim
theorem unroll_sound {F:Fence} {c:Code} {gen:St→Kont→VC} (hb:CodeOk F B P c gen) (n:Nat):CodeOk F B P (.loop c) (unroll gen n):=by
 intro m φ s a w k Q h hr hQ
 refine wp_loop_g (fun (x:Nat) a' w'=>∃ φ' s',(unroll gen x s' k).holds∧Rel B φ' s' a' w'∧Evo φ s.hp w φ' s'.hp w'∧s'.n = s.n) (fun x=>x) ⟨n,φ,s,h,hr,Evo.refl _ _ _,rfl⟩ ?_
 rintro x a1 w1 ⟨φ',s',h',r',e',m'⟩
 cases x with
 | zero=>exact h'.elim
 | succ x =>
   refine hb m φ' s' a1 w1 _ _ h' r' ?_
   rintro e a2 w2 ⟨y,rfl,he⟩
   have he':=he.from e'
   rw [m'] at he'
   cases y with
   | normal =>
     obtain ⟨φ3,s3,t1,t2,t3,t4⟩:=he'
     exact ⟨x,⟨φ3,s3,t4,t1,t2,t3⟩,Nat.lt_succ_self _⟩
   | exit id=>exact hQ _ _ _ ⟨.exit id,rfl,he'⟩
   | ret=>exact hQ _ _ _ ⟨.ret,rfl,he'⟩
def noRf:Code→Bool
 | .seq x y=>noRf x && noRf y
 | .cond _ x y=>noRf x && noRf y
 | .block _ c=>noRf c
 | .loop c=>noRf c
 | .rangeFunc _ _ _ _=>false
 | _=>true
def plansOk (pl:Nat→Plan):Code→Bool
 | .region id ops draw=>!draw || drawOk ops (pl id)
 | .seq x y=>plansOk pl x && plansOk pl y
 | .cond _ x y=>plansOk pl x && plansOk pl y
 | .block _ c=>plansOk pl c
 | .loop c=>plansOk pl c
 | .rangeFunc _ _ x y=>plansOk pl x && plansOk pl y && noRf x && noRf y
 | _=>true
theorem put_self (a:Act) (j:Nat):a.put (some j) (a.tmps.getD j undef) = a:=by
 show { a with tmps:=a.tmps.setIfInBounds j (a.tmps.getD j undef) } = a
 have:a.tmps.setIfInBounds j (a.tmps.getD j undef) = a.tmps:=by
  apply Array.ext
  ·simp
  ·intro i h1 h2
   rw [Array.getElem_setIfInBounds h2]
   split
   ·rename_i e; subst e; simp [Array.getD_eq_getD_getElem?,h2]
   ·rfl
 rw [this]
theorem pub1_ok {φ:Phi} {s:St} {a:Act} {w:World} (hr:Rel B φ s a w) (j:Nat):Rel B φ (pub1 Lv.std s j) a w∧Evo φ s.hp w φ (pub1 Lv.std s j).hp w∧(pub1 Lv.std s j).n = s.n:=by
 unfold pub1
 split
 rotate_left
 ·exact ⟨hr,Evo.refl _ _ _,rfl⟩
 rename_i id n hl
 split
 rotate_left
 ·exact ⟨hr,Evo.refl _ _ _,rfl⟩
 rename_i t e l ho
 split
 rotate_left
 ·exact ⟨hr,Evo.refl _ _ _,rfl⟩
 rename_i x ids hv
 have hh:HRel φ s.hp s.nx w:=⟨hr.ob,hr.fr,hr.dj⟩
 have hs:lookA s.sl j = some (.c (.own id n)):=by
  unfold St.look at hl
  cases h:lookA s.sl j with
  | none=>rw [h] at hl; cases hl
  | some y=>rw [h] at hl; exact congrArg some hl
 have hK:=viewV_ok hh hv (hr.sl j _ hs)
 obtain ⟨q1,q2,q3⟩:=hr.put (delAll s.hp ids) s.nx (hh.delAll ids) (Yw φ w ids s.hp) (some j) (outV (.sl e) x) (a.tmps.getD j undef) (outV_ok hK)
 rw [put_self] at q1
 have q2':({ s with hp:=delAll s.hp ids }.put (some j) (outV (.sl e) x)).hp = delAll s.hp ids:=q2
 exact ⟨q1,by rw [q2']; exact Yw φ w ids s.hp,q3⟩
theorem pubAll_ok {φ:Phi} {a:Act} {w:World}:∀ (l:List (Nat × List Nat)) (s:St),Rel B φ s a w→Rel B φ (pubAll Lv.std l s) a w∧Evo φ s.hp w φ (pubAll Lv.std l s).hp w∧(pubAll Lv.std l s).n = s.n
 | [],s,h=>⟨h,Evo.refl _ _ _,rfl⟩
 | p :: l,s,h=>by
   obtain ⟨h1,h2,h3⟩:=pub1_ok h p.1
   obtain ⟨k1,k2,k3⟩:=pubAll_ok l _ h1
   exact ⟨k1,h2.trans k2,k3.trans h3⟩
theorem range_sound (hB2:B.2 = true) {spc:Spc} (hits:∀ g it,spc.it g = some it→ItOk P g it) (an:RAnn) (f:Operand) (ps:Array Tmp) {cA cB:Code} {gA gB:St→Kont→VC} (hA:∀ l,CodeOk (Fence.wide.inRound l) B P cA gA) (hB:∀ l,CodeOk (Fence.wide.inRound l) B P cB gB) :
  CodeOk Fence.wide B P (.rangeFunc f ps cA cB) (rangeVC Lv.std spc an f ps gA gB):=by
 intro m φ s a w k Q h hr hQ
 unfold rangeVC at h
 split at h
 ·exact h.elim
 rename_i s0 hs0
 obtain ⟨φ0,r0,e0,m0⟩:=adopts_ok an.ad hs0 hr
 split at h
 rotate_left
 ·exact h.elim
 rename_i g caps hf
 split at h
 ·exact h.elim
 rename_i it hit
 split at h
 ·exact h.elim
 rename_i v ids hv
 split at h
 ·exact h.elim
 rename_i ha
 split at h
 ·exact h.elim
 rename_i n0 hn0
 obtain ⟨hpre,h1,h2,h3⟩:=h
 have hround:=(h3 true).1 rfl
 have hafter:=(h3 false).2 rfl
 clear h3
 have hfv:Vrel φ0 (okb φ0 s0.hp) w (.c (.fn g caps)) (a.eval f):=by rw [← hf]; exact Xm r0 f
 obtain ⟨vs,hv1,hv2⟩:=hfv
 have hGl:=Y1 r0.h ha
 have hCaps:=viewCaps_ok r0.h it.ins caps vs v ids hv hv2
 have ed:=Yw φ0 w ids s0.hp
 have r1:Rel B φ0 { s0 with hp:=delAll s0.hp ids } a w:=⟨r0.sz,r0.bs,ed.D r0.df,fun j v hj=>ed.V (r0.sl j v hj),(r0.h.delAll ids).ob,r0.fr,(r0.h.delAll ids).dj⟩
 obtain ⟨rn,mn,en,okn⟩:=XO hn0 r1
 have e1:Evo φ s.hp w φ0 (delAll s0.hp ids) w:=e0.trans ed
 obtain ⟨⟨fn,q1,q2,q3⟩,hflat,hitk⟩:=hits g it hit
 have hitk:=hitk (okb φ0 (delAll s0.hp ids)) w vs v hGl hCaps hpre
 refine wpIn_rangeFunc fun fn' _=>?_
 obtain ⟨rec,hrec⟩:∃ rec:LoopState→Option Code→Loop,rec = fun st pe=>{ state:=st,pending:=pe,fn:=fn',tmps:=a.tmps,params:=ps,assign:=cA,body:=cB,defers:=w.heap.size }:=⟨_,rfl⟩
 obtain ⟨W1,hW1⟩:∃ W1,(w.alloc (.deferred (some []))).alloc (.loop (rec .ready none)) = W1:=⟨_,rfl⟩
 have hL1:W1.heap[w.heap.size + 1]? = some (.loop (rec .ready none)):=by
  rw [← hW1]; have:=World.alloc_heap_new (w.alloc (.deferred (some []))) (.loop (rec .ready none)); rwa [World.size_alloc] at this
 have hK1:W1.heap[w.heap.size]? = some (.deferred (some [])):=by
  rw [← hW1]; exact (Go.RowKit.Below.heap_alloc _ _ _ (by simp)).trans (World.alloc_heap_new w _)
 have hb1:Go.RowKit.Below w.heap.size w W1:=by
  rw [← hW1]; exact ((Go.RowKit.Below.refl _ w).alloc (Nat.le_refl _) _).alloc (by simp) _
 let a':Act:={ a with defers:=mkD w.heap.size :: a.defers }
 let J:List (Ds it.el)→(Nat→Prop)→World→Prop:=fun pre C W=>∃ x φ',an.I n0 pre.length x∧Rel B φ' (an.c n0 x) a W∧Evo φ0 (delAll s0.hp ids) w φ' (an.c n0 x).hp W∧(an.c n0 x).n = s.n ∧
  W.heap[w.heap.size + 1]? = some (.loop (rec .ready none))∧W.heap[w.heap.size]? = some (.deferred (some []))∧okb φ' (an.c n0 x).hp (w.heap.size + 1)∧okb φ' (an.c n0 x).hp w.heap.size ∧
  ∀ b,C b↔(¬ okb φ' (an.c n0 x).hp b∨b = w.heap.size + 1)
 let Jx:List (Ds it.el)→(Nat→Prop)→World→Prop:=fun pre C W=>∃ (y:Ex) (c:Code) (φ':Phi) (s':St),y.code = some c∧Rel B φ' s' a' W∧Evo φ0 (delAll s0.hp ids) w φ' s'.hp W∧s'.n = s.n∧(k y s').holds ∧
  W.heap[w.heap.size + 1]? = some (.loop (rec .done (some c)))∧okb φ' s'.hp (w.heap.size + 1)
 have hJ:Grows J:=by
  rintro pre C W W' ⟨x,φ',i1,i2,i3,i4,i5,i6,i7,i8,i9⟩ hb
  obtain ⟨b1,b2⟩:=i2.below hb
  exact ⟨x,φ',i1,b1,i3.trans b2,i4,(hb.block _ (Array.getElem?_eq_some_iff.1 i5).1).trans i5,(hb.block _ (Array.getElem?_eq_some_iff.1 i6).1).trans i6,i7,i8,i9⟩
 have hJx:Grows Jx:=by
  rintro pre C W W' ⟨y,c,φ',s',i1,i2,i3,i4,i5,i6,i7⟩ hb
  obtain ⟨b1,b2⟩:=i2.below hb
  exact ⟨y,c,φ',s',i1,b1,i3.trans b2,i4,i5,(hb.block _ (Array.getElem?_eq_some_iff.1 i6).1).trans i6,i7⟩
 have ltC:∀ {φ':Phi} {s':St} {a:Act} {W:World},Rel B φ' s' a W→w.heap.size + 1 < W.heap.size→∀ b,(¬ okb φ' s'.hp b∨b = w.heap.size + 1)→b < W.heap.size:=fun hr hl b hb=>by
  rcases hb with hb | rfl
  ·rcases Nat.lt_or_ge b _ with h | h
   ·exact h
   ·exact absurd (hr.h.okNew h) hb
  ·exact hl
 let C0:Nat→Prop:=fun b=>¬ okb (phiRen φ0 s0.nx (an.ren { s0 with hp:=delAll s0.hp ids })) n0.hp b∨b = w.heap.size + 1
 have hJ0:J [] C0 W1:=by
  have evn:=en φ0 (delAll s0.hp ids) w (fun id hid=>r0.fr id hid) (Evo.refl _ _ _)
  obtain ⟨b1,b2⟩:=rn.below hb1
  refine ⟨an.ext n0,phiRen φ0 s0.nx (an.ren { s0 with hp:=delAll s0.hp ids }),h2,?_⟩
  rw [← h1]
  exact ⟨b1,evn.trans b2,mn.trans m0,hL1,hK1,rn.h.okNew (by omega),rn.h.okNew (Nat.le_refl _),fun b=>Iff.rfl⟩
 refine ⟨w.heap.size + 1,[mkD w.heap.size],W1,{ target:=.fn (.func g) vs.toArray,args:=#[.func (.yield (w.heap.size + 1)) #[] #[]] },W1,g,
  (Value.func (.yield (w.heap.size + 1)) #[] #[] :: vs).toArray,W1,?_,?_,fun _ _=>trivial,?_,fun h=>(by cases h),callsIn_wide.2 ((hitk (w.heap.size + 1) J Jx W1 C0 hb1 (fun b hb=>⟨ltC (rn.below hb1).1 (Array.getElem?_eq_some_iff.1 hL1).1 b hb,fun hh=>?_⟩) hJ hJx ?_ hJ0).mono ?_)⟩
 ·rw [← hW1,hrec]; exact run_enterLoop_outer _ _ _ _ _
 ·simp only [resolve,hv1]
  simp [go_sem]
 ·have:(Value.func (.yield (w.heap.size + 1)) #[] #[] :: vs).toArray = #[.func (.yield (w.heap.size + 1)) #[] #[]] ++ vs.toArray:=by apply Array.ext'; simp
  rw [this]
  simp only [invoke,Sem.run_bind,Sem.run_pure,Result.andThen_ok]
  exact XL q1 q2 q3
 ·rcases hb with hb | hb
  ·exact hb (okn b hh.2)
  ·omega
 ·
  rintro pre y rest W C hL ⟨x,φ',hI,i2,i3,i4,i5,i6,i7,i8,i9⟩
  have hh:=hround x pre.length y ⟨by show (it.fn v)[pre.length]? = some y; rw [hL]; simp,hI⟩
  split at hh
  ·exact hh.elim
  rename_i s2 hs2
  split at hh
  ·exact hh.elim
  rename_i hamb2
  have i2':Rel B φ' (an.c n0 x) { tmps:=a.tmps,defers:=[] } W:=⟨i2.sz,i2.bs,Dfs.nil _ _ _,i2.sl,i2.ob,i2.fr,i2.dj⟩
  obtain ⟨j1,j2,j3,j4,j5⟩:=putPs_ok ps.toList it.el y _ s2 a.tmps hflat hs2 i2'
  have hsz:(encs it.el y).toArray.size = ps.size:=by simpa using j5
  have hlt:w.heap.size + 1 < W.heap.size:=(Array.getElem?_eq_some_iff.1 i5).1
  refine ⟨fn',_,cA,cB,?_,roundIn_of_wpIn trivial (hA _ _ φ' s2 { tmps:=(ps.zip (encs it.el y).toArray).foldl (fun t (p,v)=>t.setIfInBounds p v) a.tmps,defers:=[] } W _ _ hh ?_ ?_)⟩
  ·have:=run_yield (P:=P) (args:=(encs it.el y).toArray) i5 (by rw [hrec]; exact hsz)
   rw [hrec] at this
   exact this
  ·have:(ps.zip (encs it.el y).toArray).foldl (fun t (p,v)=>t.setIfInBounds p v) a.tmps = (ps.toList.zip (encs it.el y)).foldl (fun t (p:Tmp × Value)=>t.setIfInBounds p.1 p.2) a.tmps:=by
    rw [← Array.foldl_toList]
    simp
   rw [this]; exact j1
  rintro e a3 W3 ⟨z,rfl,φ3,s3,t1,t2,t3,t4⟩
  cases z with
  | exit id=>exact t4.elim
  | ret=>exact t4.elim
  | normal =>
  have ol2:okb φ' s2.hp (w.heap.size + 1):=by rw [j2]; exact i7
  have oD2:okb φ' s2.hp w.heap.size:=by rw [j2]; exact i8
  have hl3:W3.heap[w.heap.size + 1]? = some (.loop (rec .ready none)):=(t2.bl _ hlt ol2).trans i5
  have hD3:W3.heap[w.heap.size]? = some (.deferred (some [])):=(t2.bl _ (by omega) oD2).trans i6
  have ol3:=t2.ok ol2 hlt
  have oD3:=t2.ok oD2 (by omega)
  refine ⟨_,run_beginRound hl3 (by rw [hrec]),?_⟩
  have hsz3:W.heap.size≤W3.heap.size:=t2.size
  have hl3':(W3.putObj (w.heap.size + 1) (.loop { rec .ready none with state:=.busy })).heap[w.heap.size + 1]? = some (.loop { rec .ready none with state:=.busy }):=World.putObj_heap_same (by omega)
  have hD3':(W3.putObj (w.heap.size + 1) (.loop { rec .ready none with state:=.busy })).heap[w.heap.size]? = some (.deferred (some [])):=(World.putObj_heap_other (by omega)).trans hD3
  have i3':Evo φ0 (delAll s0.hp ids) w φ' s2.hp W:=by rw [j2]; exact i3
  have ev3:=Evo_turn (o':=.loop { rec .ready none with state:=.busy }) (r:=w.heap.size + 1) (i3'.trans t2) (by omega)
  refine hB _ _ φ3 s3 a3 _ _ _ t4 (Rel_turn hl3 rfl (by simp) t1 ol3) ?_
  rintro e a4 W4 ⟨z,rfl,φ4,s4,u1,u2,u3,u4⟩
  have hlt4:w.heap.size + 1 < W4.heap.size:=by have:=u2.size; rw [World.putObj_size] at this; omega
  have hl4:W4.heap[w.heap.size + 1]? = some (.loop { rec .ready none with state:=.busy }):=(u2.bl _ (by rw [World.putObj_size]; omega) ol3).trans hl3'
  have hD4:W4.heap[w.heap.size]? = some (.deferred (some [])):=(u2.bl _ (by rw [World.putObj_size]; omega) oD3).trans hD3'
  have ol4:=u2.ok ol3 (by rw [World.putObj_size]; omega)
  have oD4:=u2.ok oD3 (by rw [World.putObj_size]; omega)
  simp only at u4
  split at u4
  ·exact u4.elim
  rename_i hamb4
  have hgl:∀ b,glB b→W4.heap[b]? = W.heap[b]?:=by
   have q2:lookA s2.hp 0 = some .amb:=by
    unfold hasAmb at hamb2; split at hamb2
    ·assumption
    ·cases hamb2
   have q4:lookA s4.hp 0 = some .amb:=by
    unfold hasAmb at hamb4; split at hamb4
    ·assumption
    ·cases hamb4
   obtain ⟨S2,v2,g1,g2,g3⟩:=i2.ob 0 .amb (by rw [← j2]; exact q2)
   obtain ⟨S4,v4,g4,g5,g6⟩:=u1.ob 0 .amb q4
   have:=u2.ph _ _ (t2.ph _ _ g1)
   rw [g4] at this; cases this
   exact fun b hb=>(g6 b (g2.2 b hb)).2.trans (g3 b (g2.2 b hb)).2.symm
  have fin:∀ (jump:Option Code),(Instr.endRound (w.heap.size + 1) jump).run P W4 = .ok (.bool jump.isNone) (W4.putObj (w.heap.size + 1) (.loop (rec (if jump.isNone then .ready else .done) jump))) ∧
    Rel B φ4 (backS (an.c n0 x) s4) a (W4.putObj (w.heap.size + 1) (.loop (rec (if jump.isNone then .ready else .done) jump)))∧Evo φ0 (delAll s0.hp ids) w φ4 s4.hp (W4.putObj (w.heap.size + 1) (.loop (rec (if jump.isNone then .ready else .done) jump))) ∧
    Frm C W (W4.putObj (w.heap.size + 1) (.loop (rec (if jump.isNone then .ready else .done) jump))) ∧
    (W4.putObj (w.heap.size + 1) (.loop (rec (if jump.isNone then .ready else .done) jump))).heap[w.heap.size + 1]? = some (.loop (rec (if jump.isNone then .ready else .done) jump)) ∧
    (W4.putObj (w.heap.size + 1) (.loop (rec (if jump.isNone then .ready else .done) jump))).heap[w.heap.size]? = some (.deferred (some [])):=by
   intro jump
   have ev5:=Evo_turn (o':=.loop (rec (if jump.isNone then .ready else .done) jump)) (r:=w.heap.size + 1) (ev3.trans u2) (by omega)
   have hh5:=H_turn (o':=.loop (rec (if jump.isNone then .ready else .done) jump)) hl4 rfl u1.h ol4
   refine ⟨?_,⟨i2.sz,Nat.le_trans r1.bs ev5.size,ev5.D r1.df,fun j v hj=>?_,hh5.ob,hh5.fr,hh5.dj⟩,ev5,⟨ev5.os.trans i3.os.symm,ev5.tape.trans i3.tape.symm,ev5.output.trans i3.output.symm,?_,fun b hb hC=>?_,fun b hb=>?_⟩,World.putObj_heap_same hlt4,(World.putObj_heap_other (by omega)).trans hD4⟩
   ·have:=run_endRound (P:=P) jump hl4
    rw [hrec] at this ⊢
    exact this
   ·have q:Vrel φ' (okb φ' s2.hp) W v (a.tmps.getD j undef):=by rw [j2]; exact i2.sl j v hj
    exact V_turn hl4 rfl (u2.V (V_turn hl3 rfl (t2.V q)))
   ·have:=u2.size; rw [World.putObj_size] at this ⊢; omega
   ·rw [i9,not_or,Classical.not_not] at hC
    obtain ⟨hC1,hC2⟩:=hC
    rw [← j2] at hC1
    rw [World.putObj_heap_other hC2]
    refine (u2.bl b (by rw [World.putObj_size]; omega) (t2.ok hC1 hb)).trans ?_
    rw [World.putObj_heap_other hC2]
    exact t2.bl b hb hC1
   ·rw [World.putObj_heap_other (fun e=>by
     have:=hGl.1.sz
     rcases hb with rfl | rfl | rfl <;> simp only [glN] at this <;> omega)]
    exact hgl b hb
  have oldC:∀ b,b < W.heap.size→¬ okb φ4 s4.hp b∨b = w.heap.size + 1→C b:=fun b hb hC=>(i9 b).2 (hC.imp_left fun h hk=>h (u2.ok (t2.ok (by rw [j2]; exact hk) hb) (by rw [World.putObj_size]; omega)))
  have away:∀ (z:Ex) (c:Code),z.code = some c→(k z (backS (an.c n0 x) s4)).holds→∃ v W',(Instr.endRound (w.heap.size + 1) (some c)).run P W4 = .ok v W' ∧
    (Frm C W W'∧∃ C',Next W W' C C'∧((Ending.returned v = .returned (.bool true)∧J (pre ++ [y]) C' W')∨(Ending.returned v = .returned (.bool false)∧Jx (pre ++ [y]) C' W'))):=by
   intro z c hz hk
   obtain ⟨f1,f2,f3,f4,f5,f6⟩:=fin (some c)
   refine ⟨_,_,f1,f4,fun b=>¬ okb φ4 s4.hp b∨b = w.heap.size + 1,⟨fun b hb=>ltC f2 (Array.getElem?_eq_some_iff.1 f5).1 b hb,oldC⟩,.inr ⟨rfl,z,c,φ4,_,hz,⟨f2.sz,f2.bs,?_,f2.sl,f2.ob,f2.fr,f2.dj⟩,f3,i4,hk,f5,ol4⟩⟩
   obtain ⟨ll,d1,d2,_,d3⟩:=f2.df
   obtain ⟨l0,c1,c2,_,c3⟩:=r1.df
   refine ⟨w.heap.size :: ll,by show mkD w.heap.size :: a.defers = _; rw [d1]; rfl,List.nodup_cons.2 ⟨fun hm=>?_,d2⟩,fun h=>(by rw [hB2] at h; cases h),fun D hD=>?_⟩
   ·have:l0 = ll:=by
     have e:=c1.symm.trans d1
     refine (List.map_inj_right fun x y h=>?_).1 e
     unfold mkD at h
     injection h with h _
     injection h
    rw [← this] at hm
    have:=(Array.getElem?_eq_some_iff.1 (c3 _ hm).2.1).1
    omega
   ·rcases List.mem_cons.1 hD with rfl | hD
    ·exact ⟨r1.bs,f6,oD4⟩
    ·exact d3 D hD
  cases z with
  | exit id=>exact away (.exit id) _ rfl u4
  | ret=>exact away .ret _ rfl u4
  | normal =>
    obtain ⟨f1,f2,f3,f4,f5,f6⟩:=fin none
    simp only at u4
    split at u4
    ·rename_i n2 hn2
     obtain ⟨v1,v2⟩:=u4
     obtain ⟨o1,o2,o3,o4⟩:=XO hn2 f2
     refine ⟨_,_,f1,f4,fun b=>¬ okb (phiRen φ4 s0.nx (an.ren (backS (an.c n0 x) s4))) n2.hp b∨b = w.heap.size + 1,⟨fun b hb=>ltC o1 (Array.getElem?_eq_some_iff.1 f5).1 b hb,fun b hb hC=>oldC b hb (hC.imp_left fun h hk=>h (o4 b hk))⟩,.inl ⟨rfl,?_⟩⟩
     refine ⟨an.ext n2,phiRen φ4 s0.nx (an.ren (backS (an.c n0 x) s4)),by simpa using v2,?_⟩
     rw [← v1]
     exact ⟨o1,o3 _ _ _ (fun id hid=>r0.fr id hid) f3,o2.trans i4,f5,f6,o4 _ ol4,o4 _ oD4,fun b=>Iff.rfl⟩
    ·exact u4.elim
 ·
  rintro e W2 ⟨⟨v,rfl⟩,⟨C,x,φ',hI,i2,i3,i4,i5,i6,i7,i8,i9⟩ | ⟨pre,C,y,c,φ',s',i1,i2,i3,i4,i5,i6,i7⟩⟩
  ·refine ⟨none,_,by have:=run_endLoop (P:=P) i5 (by rw [hrec]; simp); rw [hrec] at this; exact this,hQ _ _ _ ⟨.normal,rfl,φ',an.c n0 x,Rel_turn i5 rfl (by simp) ⟨i2.sz,i2.bs,?_,i2.sl,i2.ob,i2.fr,i2.dj⟩ i7,Evo_turn (e1.trans i3) (by omega),i4,hafter x hI⟩⟩
   obtain ⟨ll,d1,d2,_,d3⟩:=i2.df
   obtain ⟨l0,c1,c2,_,c3⟩:=r1.df
   refine ⟨w.heap.size :: ll,by show mkD w.heap.size :: a.defers = _; rw [d1]; rfl,List.nodup_cons.2 ⟨fun hm=>?_,d2⟩,fun h=>(by rw [hB2] at h; cases h),fun D hD=>?_⟩
   ·have:l0 = ll:=by
     have e:=c1.symm.trans d1
     refine (List.map_inj_right fun x y h=>?_).1 e
     unfold mkD at h
     injection h with h _
     injection h
    rw [← this] at hm
    have:=(Array.getElem?_eq_some_iff.1 (c3 _ hm).2.1).1
    omega
   ·rcases List.mem_cons.1 hD with rfl | hD
    ·exact ⟨r1.bs,i6,i8⟩
    ·exact d3 D hD
  ·refine ⟨some c,_,by have:=run_endLoop (P:=P) i6 (by rw [hrec]; simp); rw [hrec] at this; exact this,?_⟩
   have hE:EndsC B φ s.hp w s.n k y.to a' (W2.putObj (w.heap.size + 1) (.loop { rec .done (some c) with state:=.exhausted })) :=
    ⟨y,rfl,φ',s',Rel_turn i6 rfl (by simp) i2 i7,Evo_turn (e1.trans i3) (by omega),i4,i5⟩
   rw [hrec] at hE
   cases y with
   | normal=>cases i1
   | exit id=>cases i1; exact wpIn_exit (hQ _ _ _ hE)
   | ret=>cases i1; exact wpIn_ret (hQ _ _ _ hE)
theorem YH {F:Fence} (hF:FOk F) {call:CallG} {spc:Spc} {pl:Nat→Plan} (hm:P.follows .mixedOrders = true) (hE:∀ t i,E t = some i→TIok P t i) (hcall:CallOk P call) (hspc:∀ g x,spc g = some x→XOk P g x) (hits:∀ g it,spc.it g = some it→ItOk P g it) (ann:Nat→LAnn):∀ (c:Code) (b:Nat),plansOk pl c = true→((F = Fence.wide∧B.2 = true)∨noRf c = true)→CodeOk F B P c (vcgC Lv.std E call spc pl ann b c)
 | .skip,b,hp,hR,m,φ,s,a,w,k,Q,h,hr,hQ=>wpIn_skip (hQ _ _ _ ⟨.normal,rfl,φ,s,hr,Evo.refl _ _ _,rfl,h⟩)
 | .region id ops draw,b,hp,hR,m,φ,s,a,w,k,Q,h,hr,hQ=>by
   unfold vcgC at h
   cases draw
   ·obtain ⟨p1,p2,p3⟩:=pubAll_ok (pl id) s hr
    refine wpIn_region (ops_sound hF hE hcall ops ops.toList _ (range_get ops) φ _ a w _ h p1 fun a' w' he=>hQ _ _ _ ⟨.normal,rfl,?_⟩)
    have he':=he.from p2
    rw [p3] at he'
    exact he'
   ·exact drawVC_sound hF hm hE hcall hspc (by simpa [plansOk] using hp) id φ s a w _ Q h hr fun a' w' he=>hQ _ _ _ ⟨.normal,rfl,he⟩
 | .seq x y,b,hp,hR,m,φ,s,a,w,k,Q,h,hr,hQ=>by
   unfold vcgC at h
   refine wpIn_seq (YH hF hm hE hcall hspc hits ann x b (by simp only [plansOk,Bool.and_eq_true] at hp; exact hp.1) (hR.imp_right fun h=>(Bool.and_eq_true_iff.1 h).1) m φ s a w _ _ h hr ?_)
   rintro e a1 w1 ⟨z,rfl,he⟩
   cases z with
   | normal =>
     obtain ⟨φ1,s1,t1,t2,t3,t4⟩:=he
     refine YH hF hm hE hcall hspc hits ann y b (by simp only [plansOk,Bool.and_eq_true] at hp; exact hp.2) (hR.imp_right fun h=>(Bool.and_eq_true_iff.1 h).2) m φ1 s1 a1 w1 k _ t4 t1 ?_
     rintro e a2 w2 ⟨z,rfl,he2⟩
     have he3:=he2.from t2
     rw [t3] at he3
     exact hQ _ _ _ ⟨z,rfl,he3⟩
   | exit id=>exact hQ _ _ _ ⟨.exit id,rfl,he⟩
   | ret=>exact hQ _ _ _ ⟨.ret,rfl,he⟩
 | .cond c x y,b,hp,hR,m,φ,s,a,w,k,Q,h,hr,hQ=>by
   unfold vcgC at h
   have hc:=cond_sound (c:=c) (YH hF hm hE hcall hspc hits ann x b (by simp only [plansOk,Bool.and_eq_true] at hp; exact hp.1) (hR.imp_right fun h=>(Bool.and_eq_true_iff.1 h).1)) (YH hF hm hE hcall hspc hits ann y b (by simp only [plansOk,Bool.and_eq_true] at hp; exact hp.2) (hR.imp_right fun h=>(Bool.and_eq_true_iff.1 h).2))
   split at h
   ·exact join_sound _ hc m φ s a w k Q h hr hQ
   ·exact hc m φ s a w k Q h hr hQ
 | .block id c,b,hp,hR,m,φ,s,a,w,k,Q,h,hr,hQ=>by
   unfold vcgC at h
   refine wpIn_block (YH hF hm hE hcall hspc hits ann c id hp hR m φ s a w _ _ h hr ?_)
   rintro e a1 w1 ⟨z,rfl,he⟩
   cases z with
   | normal=>exact hQ _ _ _ ⟨.normal,rfl,he⟩
   | exit id' =>
     simp only [Ex.to,Exit.inBlock]
     obtain ⟨φ1,s1,t1,t2,t3,t4⟩:=he
     simp only at t4
     rw [ifb] at t4
     by_cases e:id' = id
     ·rw [if_pos e] at t4 ⊢
      exact hQ _ _ _ ⟨.normal,rfl,φ1,s1,t1,t2,t3,t4⟩
     ·rw [if_neg e] at t4 ⊢
      exact hQ _ _ _ ⟨.exit id',rfl,φ1,s1,t1,t2,t3,t4⟩
   | ret=>exact hQ _ _ _ ⟨.ret,rfl,he⟩
 | .loop c,b,hp,hR,m,φ,s,a,w,k,Q,h,hr,hQ=>by
   unfold vcgC at h
   split at h
   ·exact h.elim
   ·exact unroll_sound (YH hF hm hE hcall hspc hits ann c b hp hR) _ m φ s a w k Q h hr hQ
   ·exact loop_sound _ (YH hF hm hE hcall hspc hits ann c b hp hR) m φ s a w k Q h hr hQ
   ·exact h.elim
 | .exit id,b,hp,hR,m,φ,s,a,w,k,Q,h,hr,hQ=>wpIn_exit (hQ _ _ _ ⟨.exit id,rfl,φ,s,hr,Evo.refl _ _ _,rfl,h⟩)
 | .label l,b,hp,hR,m,φ,s,a,w,k,Q,h,hr,hQ=>wpIn_label (hQ _ _ _ ⟨.normal,rfl,φ,s,hr,Evo.refl _ _ _,rfl,h⟩)
 | .ret,b,hp,hR,m,φ,s,a,w,k,Q,h,hr,hQ=>wpIn_ret (hQ _ _ _ ⟨.ret,rfl,φ,s,hr,Evo.refl _ _ _,rfl,h⟩)
 | .rangeFunc f ps x y,b,hp,hR,m,φ,s,a,w,k,Q,h,hr,hQ=>by
   unfold vcgC at h
   rcases hR with ⟨rfl,hR⟩ | hR
   rotate_left
   ·cases hR
   simp only [plansOk,Bool.and_eq_true] at hp
   obtain ⟨⟨⟨p1,p2⟩,p3⟩,p4⟩:=hp
   split at h
   ·rename_i an _
    exact range_sound hR hits an f ps (fun l=>YH (.round l) hm hE hcall hspc hits ann x b p1 (.inr p3)) (fun l=>YH (.round l) hm hE hcall hspc hits ann y b p2 (.inr p4)) m φ s a w k Q h hr hQ
   ·exact h.elim
 | .scope _,b,hp,hR,m,φ,s,a,w,k,Q,h,hr,hQ=>by unfold vcgC at h; exact h.elim
 | .goto _,b,hp,hR,m,φ,s,a,w,k,Q,h,hr,hQ=>by unfold vcgC at h; exact h.elim
 | .refuse _,b,hp,hR,m,φ,s,a,w,k,Q,h,hr,hQ=>by unfold vcgC at h; exact h.elim
end
end Go.VM
namespace Go.VM
open Go Go.Lib
structure FnD:Type 1 where
 code:Code
 ntmps:Nat
 res:List ResultVar
 pl:Nat→Plan
 ann:Nat→LAnn
inductive FT:Type 1
 | no
 | spec (s:Spec)
 | ext (x:XOp)
 | inl (d:FnD)
 | it (i:It)
def argSl:Nat→List V→List (Nat × V)
 | _,[]=>[]
 | i,v :: vs=>(i,v) :: argSl (i + 1) vs
def mkO (agg:Bool) (cs:List C):Option V :=
 if agg then some (.agg cs) else match cs with
  | [x]=>some (.c x)
  | _=>none
def resV1 (L:Lv) (E:Ev) (s:St):ResultVar→Option V
 | .tmp t=>some (s.look t)
 | .cell a t=>match E t,s.look a with
   | some i,.c (.ptr id off)=>match lookA s.hp id with
     | some (.box _ cs)=>if Nat.ble (off + i.size) cs.length then mkO i.kd.isAgg ((cs.drop off).take i.size) else none
     | _=>none
   | _,_=>none
def resVs (L:Lv) (E:Ev) (s:St):List ResultVar→Option (List V)
 | []=>some []
 | r :: rs=>match resV1 L E s r,resVs L E s rs with
   | some v,some vs=>some (v :: vs)
   | _,_=>none
def tupOf:List V→Option (List (Bool × List C))
 | []=>some []
 | .c c :: r=>(tupOf r).map ((false,[c]) :: ·)
 | .agg l :: r=>(tupOf r).map ((true,l) :: ·)
 | _=>none
def resVC (L:Lv) (E:Ev) (rs:List ResultVar) (s:St) (k:V→VC):VC:=match resVs L E s rs with
 | some [v]=>k v
 | some vs=>match tupOf vs with
   | some l=>k (.tup l)
   | none=>.bad
 | none=>.bad
def bodyVC (L:Lv) (E:Ev) (call:CallG) (spc:Spc) (d:FnD) (as:List V) (hp:Hp) (nx:Nat) (k:V→Hp→Nat→VC):VC :=
 vcgC L E call spc d.pl d.ann 0 d.code { n:=as.length + (d.ntmps - as.length),sl:=argSl 0 as,hp:=hp,nx:=nx } fun e s=>match e with
  | .exit _=>.bad
  | .normal=>resVC L E d.res s fun v=>k v s.hp s.nx
  | .ret=>resVC L E d.res s fun v=>k v s.hp s.nx
def spcOf (fns:FuncId→FT):Spc where
 x:=fun g=>match fns g with
  | .spec sp=>some sp.x
  | .ext x=>some x
  | _=>none
 it:=fun g=>match fns g with
  | .it i=>some i
  | _=>none
def callG (L:Lv) (E:Ev) (fns:FuncId→FT):Nat→CallG
 | 0=>fun g as hp nx k=>match fns g with
   | .spec sp=>specVC L sp as hp nx k
   | .ext x=>runX hp nx k (x.fr L (lookA hp) nx as)
   | _=>.bad
 | n + 1=>fun g as hp nx k=>match fns g with
   | .spec sp=>specVC L sp as hp nx k
   | .ext x=>runX hp nx k (x.fr L (lookA hp) nx as)
   | .inl d=>bodyVC L E (callG L E fns n) (spcOf fns) d as hp nx k
   | _=>.bad
def contractVC (L:Lv) (E:Ev) (call:CallG) (spc:Spc) (d:FnD) (sp:Spec) (x:Ds sp.ins):VC:=bodyVC L E call spc d (outVs sp.ins x) [(0,.amb)] 1 fun v hp _=>match lookA hp 0 with
 | some .amb=>match viewR L (lookA hp) sp.outs v with
   | some (y,ids)=>if ids.contains 0 then .bad else .ok (y = sp.fn x)
   | none=>.bad
 | _=>.bad
def FnOk (P:Program) (g:FuncId) (d:FnD):Prop:=∃ fn,P.funcs[g]? = some fn∧(fn.name == "runtime.NumGoroutine") = false∧fn.body = some d.code∧fn.ntmps = d.ntmps∧fn.results.toList = d.res∧plansOk d.pl d.code = true
section
variable {P:Program} {E:Ev} {φ:Phi} {w:World} {hp:Hp} {f:Nat}
theorem FnOk.has {g:FuncId} {d:FnD} (h:FnOk P g d):Has P g:=by
 obtain ⟨fn,h1,h2,h3,_⟩:=h
 exact ⟨fn,h1,h2,by rw [h3]; rfl⟩
end
end Go.VM
namespace Go.VM
open Go Go.Lib
variable {B:Nat × Bool}
section
variable {P:Program} {E:Ev} {φ:Phi} {w:World} {hp:Hp} {f:Nat}
theorem argSl_look:∀ (vs:List V) (us:List Value) (i:Nat),L2 (Vrel φ (okb φ hp) w) vs us→∀ j v,lookA (argSl i vs) j = some v→i≤j∧∃ u,us[j - i]? = some u∧Vrel φ (okb φ hp) w v u
 | [],[],_,_,j,v,h=>by cases h
 | x :: vs,u :: us,i,hl,j,v,h=>by
   simp only [argSl,lookA,ifb] at h
   split at h
   ·rename_i e
    subst e; cases h
    exact ⟨Nat.le_refl _,u,by simp,hl.1⟩
   ·obtain ⟨h1,u',h2,h3⟩:=argSl_look vs us (i + 1) hl.2 j v h
    refine ⟨by omega,u',?_,h3⟩
    rw [show j - i = (j - (i + 1)) + 1 by omega,List.getElem?_cons_succ]; exact h2
 | [],_ :: _,_,hl,_,_,_ | _ :: _,[],_,hl,_,_,_=>hl.elim
theorem start_rel {nx:Nat} (hB:B.1≤w.heap.size) (hh:HRel φ hp nx w) {as:List V} {vs:List Value} (hv:L2 (Vrel φ (okb φ hp) w) as vs) (m:Nat) :
  Rel B φ { n:=as.length + (m - as.length),sl:=argSl 0 as,hp:=hp,nx:=nx } { tmps:=vs.toArray ++ Array.replicate (m - vs.toArray.size) undef,defers:=[] } w:=by
 have hl:=YW hv
 refine ⟨by simp [hl],hB,Dfs.nil _ _ _,fun j v hj=>?_,hh.ob,hh.fr,hh.dj⟩
 obtain ⟨_,u,h1,h2⟩:=argSl_look as vs 0 hv j v hj
 have hlt:=(List.getElem?_eq_some_iff.1 h1).1
 have:(vs.toArray ++ Array.replicate (m - vs.toArray.size) undef).getD j undef = u:=by
  rw [Array.getD_eq_getD_getElem?,Array.getElem?_append_left (by simpa using hlt)]
  simp only [Nat.sub_zero] at h1
  simp [h1]
 rw [this]; exact h2
theorem mkO_ok {ok:Nat→Prop} {b:Bool} {cs:List C} {vs:List Value} {x:V} (hl:L2 (Crel φ ok w) cs vs) {v:Value} (h:mkO b cs = some x) (hv:if b then v = .agg vs.toArray else vs = [v]):Vrel φ ok w x v:=by
 unfold mkO at h
 cases b
 ·simp only [Bool.false_eq_true,if_false] at hv h
  subst hv
  match cs,hl with
  | [y],hl=>cases h; exact hl.1
 ·simp only [if_true] at hv h
  cases h
  exact ⟨vs,hv,hl⟩
def resRun (P:Program) (a:Act):ResultVar→Sem Value
 | .tmp t=>pure (a.tmps.getD t undef)
 | .cell c t=>do loadVar t (← asAddr (a.tmps.getD c undef))
theorem resV1_ok (hE:∀ t i,E t = some i→TIok P t i) {s:St} {a:Act} (hr:Rel B φ s a w) (r:ResultVar) (x:V) (h:resV1 Lv.std E s r = some x) :
  ∃ v,(resRun P a r).run P w = .ok v w∧Vrel φ (okb φ s.hp) w x v:=by
 cases r with
 | tmp t =>
   simp only [resV1,Option.some.injEq] at h
   subst h
   exact ⟨_,rfl,Xm hr (.tmp t)⟩
 | cell c t =>
   simp only [resV1] at h
   split at h
   ·rename_i i id off hi hl
    split at h
    ·rename_i tt cs ho
     split at h
     ·rename_i hle
      have hle':=Nat.le_of_ble_eq_true hle
      have hv:Vrel φ (okb φ s.hp) w (s.look c) (a.tmps.getD c undef):=Xm hr (.tmp c)
      rw [hl] at hv
      obtain ⟨b,sz,cap,nn,g1,g2⟩:=hv
      obtain ⟨b',vs,g3,g4,g5⟩:=hr.ob id _ ho
      rw [g1] at g3; cases g3
      have hlen:=YW g5
      obtain ⟨u,hu,hc⟩:=Xg (P:=P) (w:=w) (hE t i hi) ⟨b,off,none⟩ ((vs.drop off).take i.size) (by rw [List.length_take,List.length_drop]; omega) (fun j x hx=>by
       rw [Yu,Xd g4]
       have:=YM hx
       simpa using this)
      exact ⟨u,by simp [resRun,g2,asAddr,hu],mkO_ok (Xr i.size (Xs off g5)) h hc⟩
     ·cases h
    ·cases h
   ·cases h
theorem resVs_ok (hE:∀ t i,E t = some i→TIok P t i) {s:St} {a:Act} (hr:Rel B φ s a w):∀ (rs:List ResultVar) (xs:List V),resVs Lv.std E s rs = some xs →
  ∃ vs,(rs.mapM (resRun P a)).run P w = .ok vs w∧L2 (Vrel φ (okb φ s.hp) w) xs vs
 | [],xs,h=>by cases h; exact ⟨[],by simp,trivial⟩
 | r :: rs,xs,h=>by
   unfold resVs at h
   split at h
   ·rename_i v vs h1 h2
    cases h
    obtain ⟨u,q1,q2⟩:=resV1_ok hE hr r v h1
    obtain ⟨us,q3,q4⟩:=resVs_ok hE hr rs vs h2
    exact ⟨u :: us,by simp [q1,q3],q2,q4⟩
   ·cases h
theorem tupOf_ok {ok:Nat→Prop}:∀ (xs:List V) (vs:List Value) (l:List (Bool × List C)),tupOf xs = some l→L2 (Vrel φ ok w) xs vs→L2 (tupRel (Crel φ ok w)) l vs
 | [],[],l,h,_=>by cases h; exact trivial
 | x :: xs,v :: vs,l,h,hl=>by
   unfold tupOf at h
   split at h
   ·rename_i heq; cases heq
   ·rename_i c r heq
    cases heq
    cases hr:tupOf xs with
    | none=>rw [hr] at h; cases h
    | some l' =>
      rw [hr] at h; cases h
      exact ⟨⟨c,rfl,hl.1⟩,tupOf_ok xs vs l' hr hl.2⟩
   ·rename_i cs r heq
    cases heq
    cases hr:tupOf xs with
    | none=>rw [hr] at h; cases h
    | some l' =>
      rw [hr] at h; cases h
      exact ⟨hl.1,tupOf_ok xs vs l' hr hl.2⟩
   ·cases h
 | [],_ :: _,_,_,hl | _ :: _,[],_,_,hl=>hl.elim
theorem res_sound (hE:∀ t i,E t = some i→TIok P t i) {s:St} {a:Act} (hr:Rel B φ s a w) (fn:Func) (k:V→VC) (h:(resVC Lv.std E fn.results.toList s k).holds) :
  ∃ v x,(results fn a.tmps).run P w = .ok v w∧Vrel φ (okb φ s.hp) w x v∧(k x).holds:=by
 have main:∀ (xs:List V),resVs Lv.std E s fn.results.toList = some xs→∃ vs:List Value,L2 (Vrel φ (okb φ s.hp) w) xs vs∧(results fn a.tmps).run P w = .ok (if h:vs.toArray.size = 1 then vs.toArray[0] else .tuple vs.toArray) w:=by
  intro xs hx
  obtain ⟨vs,q1,q2⟩:=resVs_ok (P:=P) hE hr _ xs hx
  refine ⟨vs,q2,?_⟩
  have e:(results fn a.tmps) = (do
    let vs ← fn.results.mapM (resRun P a)
    pure (if h:vs.size = 1 then vs[0] else .tuple vs)):=by
   unfold results
   congr 1
  rw [e,Array.mapM_eq_mapM_toList]
  simp only [Sem.run_bind,Sem.run_map,q1,Result.andThen_ok,Sem.run_pure]
 unfold resVC at h
 split at h
 ·rename_i v hv
  obtain ⟨vs,q1,q2⟩:=main _ hv
  match vs,q1 with
  | [u],q1=>exact ⟨u,v,by rw [q2]; rfl,q1.1,h⟩
  | [],q1=>exact q1.elim
  | _ :: _ :: _,q1=>exact q1.2.elim
 ·rename_i xs hne hx
  split at h
  ·rename_i l hl
   obtain ⟨vs,q1,q2⟩:=main _ hx
   have hlen:=YW q1
   have:vs.toArray.size ≠ 1:=by
    rw [List.size_toArray]
    intro e
    match xs,hne,hlen with
    | [x],hne,_=>exact hne x rfl
    | [],_,hlen=>simp at hlen; omega
    | _ :: _ :: _,_,hlen=>simp at hlen; omega
   refine ⟨.tuple vs.toArray,.tup l,by rw [q2,dif_neg this],⟨vs,rfl,tupOf_ok xs vs l hl q1⟩,h⟩
  ·exact h.elim
 ·exact h.elim
theorem leave_ok {fn:Func} {tmps:Array Value} {R:Ending→World→Prop} {φ0:Phi} {hp0:Hp} {w0:World} {sl:List (Nat × V)} {nx:Nat}:∀ (l:List Nat) (w:World),HRel φ hp nx w→Evo φ0 hp0 w0 φ hp w →
  (∀ j v,lookA sl j = some v→Vrel φ (okb φ hp) w v (tmps.getD j undef))→l.Nodup→(∀ D ∈ l,w0.heap.size≤D∧w.heap[D]? = some (.deferred (some []))∧okb φ hp D) →
  (∀ w',HRel φ hp nx w'→Evo φ0 hp0 w0 φ hp w'→(∀ j v,lookA sl j = some v→Vrel φ (okb φ hp) w' v (tmps.getD j undef))→∃ v,(results fn tmps).run P w' = .ok v w'∧R (.returned v) w') →
  LeavesInM Fence.wide 0 P fn tmps R (l.map mkD) .returning w
 | [],w,hh,ev,hs,_,_,h=>h w hh ev hs
 | D :: l,w,hh,ev,hs,hn,hd,h=>by
   obtain ⟨h1,h2,h3⟩:=hd D (by simp)
   rw [List.nodup_cons] at hn
   refine ⟨by simp,.inl ⟨D,_,rfl,run_takeDeferred h2,leave_ok l _ (H_turn h2 rfl hh h3) (Evo_turn ev h1) (fun j v hj=>V_turn h2 rfl (hs j v hj)) hn.2 (fun D' hm=>?_) h⟩⟩
   obtain ⟨k1,k2,k3⟩:=hd D' (by simp [hm])
   exact ⟨k1,by rw [World.putObj_heap_other (fun e=>hn.1 (by rw [← e]; exact hm))]; exact k2,k3⟩
theorem YS {call:CallG} {spc:Spc} (hm:P.follows .mixedOrders = true) (hE:∀ t i,E t = some i→TIok P t i) (hcall:CallOk P call) (hspc:∀ g x,spc g = some x→XOk P g x) (hits:∀ g it,spc.it g = some it→ItOk P g it) {g:FuncId} {d:FnD} (hg:FnOk P g d) {as:List V} {k:V→Hp→Nat→VC} {nx:Nat} {vs:List Value}
  (h:(bodyVC Lv.std E call spc d as hp nx k).holds) (hh:HRel φ hp nx w) (hv:L2 (Vrel φ (okb φ hp) w) as vs) :
  Calls P g vs.toArray w fun e w'=>∃ v,e = .returned v∧∃ φ' hp' nx' x,(k x hp' nx').holds∧HRel φ' hp' nx' w'∧Evo φ hp w φ' hp' w'∧Vrel φ' (okb φ' hp') w' x v:=by
 obtain ⟨fn,h1,h2,h3,h4,h5,h6⟩:=hg
 refine (callsIn_wide (n:=0)).1 (callsIn_of_wp_marks h1 h3 trivial ?_)
 rw [h4]
 refine YH .wide hm hE hcall hspc hits d.ann d.code 0 h6 (.inl ⟨rfl,rfl⟩) 0 φ _ _ w _ _ h (start_rel (B:=(w.heap.size,true)) (Nat.le_refl _) hh hv d.ntmps) ?_
 have fin:∀ (φ':Phi) (s:St) (a:Act) (w':World),Rel (w.heap.size,true) φ' s a w'→Evo φ hp w φ' s.hp w'→(resVC Lv.std E d.res s fun v=>k v s.hp s.nx).holds →
   LeavesInM Fence.wide 0 P fn a.tmps (fun e w'=>∃ v,e = .returned v∧∃ φ' hp' nx' x,(k x hp' nx').holds∧HRel φ' hp' nx' w'∧Evo φ hp w φ' hp' w'∧Vrel φ' (okb φ' hp') w' x v) a.defers .returning w':=by
  intro φ' s a w' hr ev hk
  rw [← h5] at hk
  obtain ⟨l,d1,d2,_,d3⟩:=hr.df
  rw [d1]
  refine leave_ok (sl:=s.sl) l w' hr.h ev hr.sl d2 d3 fun w2 hh2 ev2 hs2=>?_
  have hr2:Rel (w.heap.size,true) φ' s { a with defers:=[] } w2:=⟨hr.sz,ev2.size,Dfs.nil _ _ _,hs2,hh2.ob,hh2.fr,hh2.dj⟩
  obtain ⟨v,x,q1,q2,q3⟩:=res_sound hE hr2 fn _ hk
  exact ⟨v,q1,v,rfl,φ',s.hp,s.nx,x,q3,hh2,ev2,q2⟩
 rintro e a' w' ⟨z,rfl,φ',s',r1,r2,r3,r4⟩
 cases z with
 | normal=>exact fin φ' s' a' w' r1 r2 r4
 | ret=>exact fin φ' s' a' w' r1 r2 r4
 | exit id=>exact r4.elim
def TableOk (P:Program) (fns:FuncId→FT):Prop:=∀ g,match fns g with
 | .no=>True
 | .spec sp=>SpecOk P g sp
 | .ext x=>XOk P g x
 | .inl d=>FnOk P g d
 | .it i=>ItOk P g i
theorem Y4 {fns:FuncId→FT} (ht:TableOk P fns) (g:FuncId) (x:XOp) (h:spcOf fns g = some x):XOk P g x:=by
 have hg:=ht g
 change (match fns g with | .spec sp=>some sp.x | .ext x=>some x | _=>none) = some x at h
 split at h
 ·rename_i sp' e
  rw [e] at hg
  cases h; exact spec_x hg
 ·rename_i x' e
  rw [e] at hg
  cases h; exact hg
 ·cases h
theorem Xi {fns:FuncId→FT} (ht:TableOk P fns) (g:FuncId) (i:It) (h:(spcOf fns).it g = some i):ItOk P g i:=by
 have hg:=ht g
 change (match fns g with | .it i=>some i | _=>none) = some i at h
 split at h
 ·rename_i x' e
  rw [e] at hg
  cases h; exact hg
 ·cases h
theorem YN (hm:P.follows .mixedOrders = true) (hE:∀ t i,E t = some i→TIok P t i) {fns:FuncId→FT} (ht:TableOk P fns):∀ n,CallOk P (callG Lv.std E fns n)
 | 0=>by
   intro g as hp nx k φ w vs h hh hv
   have hg:=ht g
   unfold callG at h
   split at h
   ·rename_i sp e
    rw [e] at hg
    exact spec_sound hg h hh hv
   ·rename_i x e
    rw [e] at hg
    exact x_sound hg h hh hv
   ·exact h.elim
 | n + 1=>by
   intro g as hp nx k φ w vs h hh hv
   have hg:=ht g
   unfold callG at h
   split at h
   ·rename_i sp e
    rw [e] at hg
    exact spec_sound hg h hh hv
   ·rename_i x e
    rw [e] at hg
    exact x_sound hg h hh hv
   ·rename_i d e
    rw [e] at hg
    have ih:=YN hm hE ht n
    exact ⟨FnOk.has hg,YS hm hE ih (Y4 ht) (Xi ht) hg h hh hv⟩
   ·exact h.elim
theorem contract_at {call:CallG} {spc:Spc} (hm:P.follows .mixedOrders = true) (hE:∀ t i,E t = some i→TIok P t i) (hcall:CallOk P call) (hspc:∀ g x,spc g = some x→XOk P g x) (hits:∀ g it,spc.it g = some it→ItOk P g it) {g:FuncId} {d:FnD} (hg:FnOk P g d) (sp:Spec)
  (x:Ds sp.ins) (hvc:(contractVC Lv.std E call spc d sp x).holds) (ok:Nat→Prop) (w:World) (vs:List Value) (hG:GlOk ok w) (hx:KVs ok w sp.ins x vs) :
  Calls P g vs.toArray w fun e w'=>∃ v,e = .returned v∧Go.RowKit.Below w.heap.size w w'∧KR (fun b=>ok b∨w.heap.size≤b) w' sp.outs (sp.fn x) v:=by
 let S:Nat→Prop:=fun b=>b < w.heap.size∧¬ ok b
 let φ:Phi:=fun id=>if id = 0 then some (.set S w) else none
 have hh:HRel φ [(0,.amb)] 1 w:=by
  refine ⟨fun id o ho=>?_,fun id hid=>?_,fun i j o o' p q b h1 h2 hne=>?_⟩
  ·simp only [lookA,ifb] at ho
   split at ho
   ·rename_i e; subst e; cases ho
    exact ⟨S,w,rfl,⟨hG.1,fun b hb=>⟨XD hG.1 hb,hG.2 b hb⟩⟩,fun b hb=>⟨hb.1,rfl⟩⟩
   ·cases ho
  ·show (if id = 0 then _ else none) = none
   rw [if_neg (by omega)]
  ·simp only [lookA,ifb] at h1 h2
   split at h1
   ·split at h2
    ·rename_i e1 e2; exact absurd (e1.symm.trans e2) hne
    ·cases h2
   ·cases h1
 have hokb:∀ b,ok b→okb φ [(0,.amb)] b:=fun b hb id o p h1 h2 h3=>by
  simp only [lookA,ifb] at h1
  split at h1
  ·rename_i e; subst e
   have h2':some (Place.set S w) = some p:=h2
   cases h2'
   exact h3.2 hb
  ·cases h1
 have hv:L2 (Vrel φ (okb φ [(0,.amb)]) w) (outVs sp.ins x) vs:=Xw _ _ _ (YX (fun b hb _=>⟨rfl,hokb b hb⟩) _ _ _ hx)
 refine (YS hm hE hcall hspc hits hg hvc hh hv).mono fun e w' he=>?_
 obtain ⟨v,rfl,φ',hp',nx',y,k1,k2,k3,k4⟩:=he
 refine ⟨v,rfl,?_⟩
 split at k1
 ·rename_i hamb
  split at k1
  ·rename_i y' ids hvw
   split at k1
   ·exact k1.elim
   ·rename_i hnc
    have hy:y' = sp.fn x:=k1
    have hn0:0 ∉ ids:=by simpa using hnc
    have hφ0:φ' 0 = some (.set S w):=k3.ph 0 _ rfl
    have hR:=viewR_ok k2 sp.outs y v y' ids hvw k4
    rw [hy] at hR
    obtain ⟨S',w0,g1,_,g2⟩:=k2.ob 0 _ hamb
    rw [hφ0] at g1; cases g1
    refine ⟨⟨k3.os,k3.tape,k3.output,k3.size,fun b hb=>?_⟩,KR_mono (fun b hb _=>⟨rfl,?_⟩) _ _ _ hR⟩
    ·by_cases hob:ok b
     ·exact k3.bl b hb (hokb b hob)
     ·exact (g2 b ⟨hb,hob⟩).2
    ·by_cases hlt:b < w.heap.size
     ·refine .inl (Classical.byContradiction fun hob=>?_)
      refine hb 0 .amb _ ?_ hφ0 ⟨hlt,hob⟩
      rw [Z0,if_neg hn0]; exact hamb
     ·exact .inr (by omega)
  ·exact k1.elim
 ·exact k1.elim
end
end Go.VM
namespace Go.VM
open Go Go.Lib
def zEq:Z→Value→Bool
 | .int k,.int k' n=>decide (k = k') && decide (n = 0)
 | .bool,.bool b=>!b
 | .str,.string s=>decide (s.size = 0)
 | .sl,.slice none 0 0=>true
 | .ptr,.pointer none=>true
 | .fn,.nilFunc=>true
 | .map,.map none=>true
 | .ifc,.nilIface=>true
 | .slf,.pointer none=>true
 | _,_=>false
theorem zEq_ok {z:Z} {v:Value} (h:zEq z v = true):v = z.val:=by
 unfold zEq at h
 split at h <;> first
  | (simp only [Bool.and_eq_true,decide_eq_true_eq] at h; obtain ⟨rfl,rfl⟩:=h; rfl)
  | (simp only [Bool.not_eq_true'] at h; subst h; rfl)
  | (simp only [decide_eq_true_eq] at h
     rename_i s
     have:s = ByteArray.empty:=by
      apply ByteArray.ext
      apply Array.eq_empty_of_size_eq_zero
      exact h
     subst this; rfl)
  | rfl
  | (cases h)
def zEqs:List Z→List Value→Bool
 | [],[]=>true
 | z :: zs,v :: vs=>zEq z v && zEqs zs vs
 | _,_=>false
theorem zEqs_ok:∀ (zs:List Z) (vs:List Value),zEqs zs vs = true→vs = zs.map Z.val
 | [],[],_=>rfl
 | z :: zs,v :: vs,h=>by
   simp only [zEqs,Bool.and_eq_true] at h
   rw [zEq_ok h.1,zEqs_ok zs vs h.2]; rfl
 | [],_ :: _,h | _ :: _,[],h=>by cases h
def isIntU:Option TypeDesc→Bool
 | some (.int _)=>true
 | _=>false
theorem isIntU_ok {d:Option TypeDesc} (h:isIntU d = true):∃ q,d = some (.int q):=by
 unfold isIntU at h
 split at h
 ·exact ⟨_,rfl⟩
 ·cases h
def undOk (P:Program) (t:TypeId) (k:Kd):Bool:=match k,P.underlying t with
 | .int k,some (.int k')=>decide (k = k')
 | .bool,some .bool=>true
 | .str,some .string=>true
 | .sl e,some (.slice e')=>Nat.beq e e'
 | .st fs,some (.struct a)=>decide (a.toList.map (fun f=>(f.offset,f.type)) = fs) && a.toList.all (fun f=>f.name != "_") && !(P.stoodInHeld t) && !(P.eqGuardType P.depth t)
 | .ptr e,some (.pointer e')=>Nat.beq e e'
 | .fn,some (.func _ _ _)=>true
 | .map k e,some (.map k' e')=>Nat.beq k k' && Nat.beq e e'
 | .arr n e,some (.array n' e')=>Nat.beq n n' && Nat.beq e e'
 | .ifc ts,some (.interface _)=>ts.all fun x=>decide ((P.info? x).map (·.comparable) = some true) && isIntU (P.underlying x)
 | _,_=>false
def tiOk (P:Program) (t:TypeId) (i:TI):Bool:=match P.info? t with
 | some x=>Nat.beq x.size i.size && Nat.beq x.bytes i.bytes && (match x.zero with
   | some z=>zEqs i.zero z.cells.toList && (i.kd.isAgg || z.oneCell')
   | none=>false) && Nat.beq i.zero.length i.size && Nat.blt 0 i.size && (i.kd.isAgg || Nat.beq i.size 1) && undOk P t i.kd
 | none=>false
theorem tiOk_ok {P:Program} {t:TypeId} {i:TI} (h:tiOk P t i = true):TIok P t i:=by
 unfold tiOk at h
 split at h
 ·rename_i x hx
  simp only [Bool.and_eq_true,Bool.or_eq_true] at h
  obtain ⟨⟨⟨⟨⟨⟨h1,h2⟩,h3⟩,h4⟩,h5⟩,h6⟩,h7⟩:=h
  split at h3
  ·rename_i z hz
   simp only [Bool.and_eq_true,Bool.or_eq_true] at h3
   refine ⟨⟨x,hx,Yt h1,Yt h2,by rw [hz]; simp [zEqs_ok _ _ h3.1]⟩,Yt h4,fun ha x' z' hx' hz'=>?_,Nat.le_of_ble_eq_true h5,fun ha=>?_,?_⟩
   ·rw [hx] at hx'; cases hx'
    rw [hz] at hz'; cases hz'
    rcases h3.2 with h | h
    ·rw [ha] at h; cases h
    ·exact h
   ·rcases h6 with h | h
    ·rw [ha] at h; cases h
    ·exact Yt h
   ·unfold undOk at h7
    cases hk:i.kd <;> rw [hk] at h7 <;> cases hu:P.underlying t <;> rw [hu] at h7 <;> simp only at h7 ⊢ <;> try (cases h7; done)
    all_goals (rename_i d; cases d <;> simp only at h7 <;> try (cases h7; done))
    all_goals first
     | rfl
     | (have:=Yt h7; subst this; rfl)
     | (have:=of_decide_eq_true h7; subst this; rfl)
     | (simp only [Bool.and_eq_true] at h7; obtain ⟨g1,g2⟩:=h7; have:=Yt g1; subst this; have:=Yt g2; subst this; rfl)
     | (exact ⟨_,_,_,rfl⟩)
     | (rw [List.all_eq_true] at h7; exact ⟨_,rfl,fun x hx=>by have:=h7 x hx; simp only [Bool.and_eq_true] at this; exact ⟨of_decide_eq_true this.1,isIntU_ok this.2⟩⟩)
     | (simp only [Bool.and_eq_true,Bool.not_eq_true'] at h7; exact ⟨_,rfl,of_decide_eq_true h7.1.1.1,h7.1.1.2,h7.1.2,h7.2⟩)
  ·cases h3
 ·cases h
inductive TT
 | leaf
 | node (l:TT) (k:Nat) (v:TI) (r:TT)
def TT.look:TT→Nat→Option TI
 | .leaf,_=>none
 | .node l k v r,t=>match Nat.beq t k with
   | true=>some v
   | false=>match Nat.blt t k with
     | true=>l.look t
     | false=>r.look t
def TT.ok (P:Program):TT→Bool
 | .leaf=>true
 | .node l k v r=>l.ok P && tiOk P k v && r.ok P
theorem TT.ok_look {P:Program}:∀ (tt:TT) (t:Nat) (i:TI),tt.ok P = true→tt.look t = some i→TIok P t i
 | .leaf,_,_,_,h=>by cases h
 | .node l k v r,t,i,ho,h=>by
   simp only [TT.ok,Bool.and_eq_true] at ho
   unfold TT.look at h
   split at h
   ·rename_i e
    cases h
    have:=Yt e
    subst this
    exact tiOk_ok ho.1.2
   ·split at h
    ·exact TT.ok_look l t i ho.1.1 h
    ·exact TT.ok_look r t i ho.2 h
end Go.VM
namespace Go.VM
open Go Go.Lib
structure Holds (v:VC):Prop where
 h:v.holds
theorem Holds.of_eq {v u:VC} (e:v = u) (h:u.holds):Holds v:=⟨e ▸ h⟩
theorem Zc {P:Program} {E:Ev} (hm:P.follows .mixedOrders = true) (hE:∀ t i,E t = some i→TIok P t i) {g:FuncId} (D:(Nat→LAnn)→FnD) (hg:∀ ann,FnOk P g (D ann)) (sp:Spec)
  (h:∀ x,sp.pre x→∃ (fns:FuncId→FT) (n:Nat) (ann:Nat→LAnn),TableOk P fns∧Holds (contractVC Lv.std E (callG Lv.std E fns n) (spcOf fns) (D ann) sp x)):SpecOk P g sp:=by
 refine ⟨(hg fun _=>.no).has,fun ok w vs x hG hx hpre=>?_⟩
 obtain ⟨fns,n,ann,ht,hv⟩:=h x hpre
 exact contract_at hm hE (YN hm hE ht n) (Y4 ht) (Xi ht) (hg ann) sp x hv.h ok w vs hG hx
def putV (s:St) (j:Nat) (v:V):St:={ s with sl:=setA s.sl j v }
theorem Yp {P:Program} {E:Ev} {D:(Nat→LAnn)→FnD} {sp:Spec} {x:Ds sp.ins} (fns:FuncId→FT) (n:Nat) (ann:Nat→LAnn) (ht:TableOk P fns) (h:Holds (contractVC Lv.std E (callG Lv.std E fns n) (spcOf fns) (D ann) sp x)) :
  ∃ (fns:FuncId→FT) (n:Nat) (ann:Nat→LAnn),TableOk P fns∧Holds (contractVC Lv.std E (callG Lv.std E fns n) (spcOf fns) (D ann) sp x):=⟨fns,n,ann,ht,h⟩
inductive Hv
 | s (j:Nat) (t:Ty)
 | r (j:Nat) (e:Ty)
 | b (j k:Nat) (t:Ty)
 | br (j k:Nat) (e:Ty)
 | m (j:Nat) (k v:Ty)
 | ri (j:Nat) (e:Ty)
def Hv.ty:Hv→Ty
 | .s _ t=>t
 | .r _ e=>.sl e
 | .b _ _ t=>t
 | .br _ _ e=>.sl e
 | .m _ k v=>.sl (.pair k v)
 | .ri _ e=>.sl e
def tysOf:List Hv→List Ty
 | []=>[]
 | h :: l=>h.ty :: tysOf l
def ptrOf (s:St) (j:Nat):Nat:=match s.look j with
 | .c (.ptr id _)=>id
 | .c (.own id _)=>id
 | .c (.map id)=>id
 | _=>0
def cellOf (s:St) (j k:Nat):C:=match lookA s.hp (ptrOf s j) with
 | some (.box _ cs)=>match cs[k]? with
   | some c=>c
   | none=>.un
 | _=>.un
def rowPut (L:Lv) (s:St) (id:Nat) (e:Ty) (x:List e.D):St:=match lookA s.hp id with
 | some (.row et _ _)=>{ s with hp:=setA s.hp id (.row et e x) }
 | _=>s
def rowGet (s:St) (id:Nat) (e:Ty):List e.D:=match lookA s.hp id with
 | some (.row _ e' l)=>if q:e' = e then castL q l else []
 | _=>[]
def cellPut (s:St) (j k:Nat) (c:C):St:=match lookA s.hp (ptrOf s j) with
 | some (.box t cs)=>{ s with hp:=setA s.hp (ptrOf s j) (.box t (cs.set k c)) }
 | _=>s
def mapPut (s:St) (id:Nat) (k v:Ty) (x:List (k.D × v.D)):St:=match lookA s.hp id with
 | some (.map _ _ _)=>{ s with hp:=setA s.hp id (.map k v x) }
 | _=>s
def castM {k k' v v':Ty} (hk:k' = k) (hv:v' = v) (l:List (k'.D × v'.D)):List (k.D × v.D):=hv ▸ hk ▸ l
def mapGet (s:St) (id:Nat) (k v:Ty):List (k.D × v.D):=match lookA s.hp id with
 | some (.map k' v' l)=>if q:k' = k then (if r:v' = v then castM q r l else []) else []
 | _=>[]
def Hv.put (L:Lv) (s:St):(h:Hv)→h.ty.D→St
 | .s j t,x=>putV s j (outV t x)
 | .r j e,x=>putV (rowPut L s (ptrOf s j) e x) j (.c (.own (ptrOf s j) (L.llen e x)))
 | .b j k t,x=>match expl t x with
   | [c]=>cellPut s j k c
   | _=>s
 | .br j k e,x=>match cellOf s j k with
   | .own id _=>cellPut (rowPut L s id e x) j k (.own id (L.llen e x))
   | _=>s
 | .m j k v,x=>mapPut s (ptrOf s j) k v x
 | .ri j e,x=>rowPut L s (ptrOf s j) e x
def viewD (L:Lv) (h:H) (t:Ty) (cs:List C):t.D:=match view L h t cs with
 | some (x,_,_)=>x
 | none=>t.dflt
def Hv.get (L:Lv) (s:St):(h:Hv)→h.ty.D
 | .s j t=>viewD L (lookA s.hp) t (s.look j).cells
 | .r j e=>rowGet s (ptrOf s j) e
 | .b j k t=>viewD L (lookA s.hp) t [cellOf s j k]
 | .br j k e=>match cellOf s j k with
   | .own id _=>rowGet s id e
   | _=>[]
 | .m j k v=>mapGet s (ptrOf s j) k v
 | .ri j e=>rowGet s (ptrOf s j) e
def Hv.id (s:St):Hv→List Nat
 | .r j _=>[ptrOf s j]
 | .m j _ _=>[ptrOf s j]
 | .br j k _=>match cellOf s j k with
   | .own id _=>[id]
   | _=>[]
 | _=>[]
def hvPut (L:Lv):(l:List Hv)→St→Ds (tysOf l)→St
 | [],s,_=>s
 | h :: l,s,x=>hvPut L l (h.put L s x.1) x.2
def hvGet (L:Lv):(l:List Hv)→St→Ds (tysOf l)
 | [],_=>()
 | h :: l,s=>(h.get L s,hvGet L l s)
def hvIds (s:St):List Hv→List Nat
 | []=>[]
 | h :: l=>h.id s ++ hvIds s l
def anH (L:Lv) (js:List Nat) (ad:List (Nat × Option Nat × TypeId × Ty)) (hv:List Hv) (I:Ds (tysOf hv)→Prop) (mu:Ds (tysOf hv)→Nat):LAnn :=
 .an { js:=js,ren:=fun s=>hvIds s hv,ad:=ad,X:=Ds (tysOf hv),c:=hvPut L hv,ext:=hvGet L hv,I:=fun _ x=>I x,mu:=fun _ x=>mu x }
theorem Yn {x:Int} (h1:-9223372036854775808≤x) (h2:x < 9223372036854775808):IntKind.i64.wrap x = x:=by
 unfold IntKind.wrap
 simp only [show IntKind.i64.bits = 64 from rfl,show IntKind.i64.signed = true from rfl,Bool.true_and,decide_eq_true_eq]
 split <;> omega
theorem Zd (a b:Int):(compare .lss a b = true) = (a < b):=by simp [compare]
theorem Ze (a b:Int):(compare .lss a b = false) = (b≤a):=by simp [compare]
theorem ZA (a b:Int):(compare .leq a b = true) = (a≤b):=by simp [compare]
theorem ZB (a b:Int):(compare .leq a b = false) = (b < a):=by simp [compare]
theorem Zu (a b:Int):(compare .gtr a b = true) = (b < a):=by simp [compare]
theorem Zv (a b:Int):(compare .gtr a b = false) = (a≤b):=by simp [compare]
theorem Zx (a b:Int):(compare .geq a b = true) = (b≤a):=by simp [compare]
theorem Zy (a b:Int):(compare .geq a b = false) = (a < b):=by simp [compare]
theorem Zk (a b:Int):(compare .eql a b = true) = (a = b):=by simp [compare]
theorem Zl (a b:Int):(compare .eql a b = false) = (a ≠ b):=by simp [compare]
theorem Zp (a b:Int):(compare .neq a b = true) = (a ≠ b):=by simp [compare]
theorem Zq (a b:Int):(compare .neq a b = false) = (a = b):=by simp [compare]
theorem ba_ext {a b:ByteArray} (h:a.toList = b.toList):a = b:=by
 rw [ByteArray.toList_eq,ByteArray.toList_eq] at h
 exact ByteArray.ext (Array.ext' h)
theorem Zi (a b:ByteArray):(scompare .eql a b = true) = (a = b):=by
 simp only [scompare,beq_iff_eq,eq_iff_iff]
 exact ⟨ba_ext,fun h=>by rw [h]⟩
theorem Zj (a b:ByteArray):(scompare .eql a b = false) = (a ≠ b):=by
 rw [← Bool.not_eq_true,Zi]
theorem scmp_neq (a b:ByteArray):scompare .neq a b = !scompare .eql a b:=rfl
theorem Zn (a b:ByteArray):(scompare .neq a b = true) = (a ≠ b):=by
 rw [scmp_neq,Bool.not_eq_true',Zj]
theorem Zo (a b:ByteArray):(scompare .neq a b = false) = (a = b):=by
 rw [scmp_neq,Bool.not_eq_false',Zi]
theorem ZJ:Lv.std.cmp = compare:=rfl
theorem ZO:Lv.std.scmp = scompare:=rfl
theorem Zb (k:IntKind) (x y:Int):Lv.std.ar .add k x y = k.wrap (x + y):=rfl
theorem Zh (k:IntKind) (x y:Int):Lv.std.ar .sub k x y = k.wrap (x - y):=rfl
theorem Zm (k:IntKind) (x y:Int):Lv.std.ar .mul k x y = k.wrap (x * y):=rfl
theorem Yj:Lv.std.ar = arith:=rfl
theorem Ym:Lv.std.dv = divide:=rfl
theorem Z5:Lv.std.shf = shift:=rfl
theorem ZM (k:IntKind) (n:Int):Lv.std.conv k n = k.wrap n:=rfl
theorem Yl (x y:Int):Lv.std.mn x y = min x y:=by
 show (if y < x then y else x) = _
 split <;> omega
theorem Yk (x y:Int):Lv.std.mx x y = max x y:=by
 show (if y > x then y else x) = _
 split <;> omega
theorem Yf (a b:Bool):Lv.std.beq a b = (a == b):=rfl
theorem ZX (a:Bool):Lv.std.bnot a = !a:=rfl
theorem ZY (a b:Bool):Lv.std.band a b = (a && b):=rfl
theorem ZT (a b:ByteArray):Lv.std.scat a b = a ++ b:=rfl
theorem ZR:Lv.std.byte = byteAt:=rfl
theorem Ye (s:ByteArray) (a b:Nat):Lv.std.ext s a b = s.extract a b:=rfl
theorem ZN (s:ByteArray):Lv.std.slen s = s.size:=rfl
theorem Zz:Lv.std.strOf = strOfL:=rfl
theorem ZD:Lv.std.bytes = bytesOf:=rfl
theorem Zr (e:Ty) (l:List e.D):Lv.std.llen e l = l.length:=rfl
theorem Z1 (e:Ty) (l:List e.D) (i:Nat):Lv.std.get e l i = (l[i]?).getD e.dflt:=rfl
theorem ZS (e:Ty) (l:List e.D) (i:Nat) (x:e.D):Lv.std.setl e l i x = l.set i x:=rfl
theorem Z2 (e:Ty) (a b:List e.D):Lv.std.app e a b = a ++ b:=rfl
theorem ZK (e:Ty) (l:List e.D) (n:Nat):Lv.std.take e l n = l.take n:=rfl
theorem ZW (e:Ty) (l:List e.D) (n:Nat):Lv.std.drop e l n = l.drop n:=rfl
theorem Yb (e:Ty) (n:Nat) (x:e.D):Lv.std.rep e n x = List.replicate n x:=rfl
theorem ZV:Lv.std.mhas = mhasL:=rfl
theorem ZP:Lv.std.mval = mvalL:=rfl
theorem ZQ:Lv.std.mput = mputL:=rfl
theorem Zt (n:Nat):Lv.std.cast n = (n:Int):=rfl
theorem ZH (n:Int):Lv.std.toN n = n.toNat:=rfl
theorem Ya (a b:Nat):Lv.std.sub a b = a - b:=rfl
theorem Z3 (a b:Nat):Lv.std.add a b = a + b:=rfl
theorem ZI (i:Int) (n:Nat):Lv.std.inR i n = (0≤i∧i < (n:Int)):=rfl
theorem Yd (a b:Int) (n:Nat):Lv.std.le3 a b n = (0≤a∧a≤b∧b≤(n:Int)):=rfl
theorem Yc (a b:Nat):Lv.std.leN a b = (a≤b):=rfl
theorem Z6 (a b:Nat):Lv.std.ltN a b = (a < b):=rfl
theorem Z7 (y:Int):Lv.std.ne0 y = (y ≠ 0):=rfl
theorem Zg (y:Int):Lv.std.nonneg y = (0≤y):=rfl
theorem ZC (a b:ByteArray):Lv.std.catOk a b = (a.size + b.size≤9223372036854775807):=rfl
theorem ZL (n b:Nat):Lv.std.room n b = (n≤140737488355328∧n * b≤140737488355328):=rfl
theorem ZU (n c:Int) (b:Nat):Lv.std.mkOk n c b = (0≤n∧n≤c∧c≤140737488355328∧c * b≤140737488355328):=rfl
theorem Z8 (α:Type) (l:List α) (i:Nat) (y:α):Lv.std.nth α l i y = (l[i]? = some y):=rfl
theorem Z9 (α:Type) (l:List α):Lv.std.cnt α l = l.length:=rfl
theorem ZG (k:IntKind):(Ty.int k).dflt = (0:Int):=rfl
theorem ZF:Ty.bool.dflt = false:=rfl
theorem ZZ:Ty.str.dflt = ByteArray.empty:=rfl
theorem Yg (e:Ty):(Ty.sl e).dflt = ([]:List e.D):=rfl
theorem ZE (a b:Ty):(Ty.pair a b).dflt = (a.dflt,b.dflt):=rfl
end Go.VM
