/- What functions of the weak memory compute, proved through the condition generator, and plain facts of it. Conditions: none of ours. -/
import Derived.Test.YtljepnnnjfalcaaGreatC15
import Derived.Test.YtljepnnnjfalcaaGreatC13
set_option autoImplicit false
set_option maxRecDepth 100000
set_option linter.all false
namespace Go.Proofs.Tryz
open Go Go.VM
theorem pe {α β:Type} (p:α × β):(p.1,p.2) = p:=rfl
theorem place_in (s:StD) (t:ThD) (i:InD) (h:s.1.length≤1000000) (hq:(placeF s t i).2 = true):0≤(placeF s t i).1∧(placeF s t i).1 < s.1.length:=by
 have e:IntKind.i64.wrap ((s.1.length:Int) - 1) = (s.1.length:Int) - 1:=Yn (by omega) (by omega)
 simp only [placeF,withinF,e,Bool.and_eq_true,decide_eq_true_eq] at hq ⊢
 omega
theorem ok99 (F:BxF) (h:F.doo = doF) (hp:F.pDo = pDoF) (h1:F.within = withinF) (h2:F.isNum = isNumF) (h3:F.truth = truthF) (h4:F.worked = workedF) (h5:F.place = placeF) (h6:F.sees = seesF)
  (q1:F.pRegs = fun l i=>inReg l i.2.2.1∧inReg l i.2.2.2.1) (q2:F.pPlace = fun _ t i=>inReg t.2.1 i.2.2.1) (q3:F.pSees = fun s t p=>inReg s.1 p∧t.2.2.1.length≤1000000) (q4:F.pLi = fun l=>l.length≤1000000) (q5:F.pLt = fun l=>l.length≤1000000) (q6:F.pLk = fun l=>l.length≤1000000)
  (k76:XOk prog 113 (R76 F).x) (k86:SpecOk prog 151 (S86 F)) (k92:SpecOk prog 152 (S92 F)) (k101:SpecOk prog 233 (S101 F)) (k134:SpecOk prog 212 (S134 F)) (k141:XOk prog 193 (R141 F).x) (k142:XOk prog 194 (R142 F).x) (k143:SpecOk prog 195 (S143 F)) (k144:XOk prog 196 (mapcX acT)) (k145:SpecOk prog 197 (S145 F)):SpecOk prog 102 (S99 F):=by
 refine Zc hm hE D99 fnok99 _ fun (z:McD × StD × MvD × Unit) hpre=>?_
 obtain ⟨m,s,v,⟨⟩⟩:=z
 have hpre':F.pDo m s v:=hpre
 rw [hp] at hpre'
 obtain ⟨g1,g2,g3,g4⟩:=hpre'
 refine Yp _ 3 a0 (Zs (T:=bT F) (l:=[113,151,152,233,163,164,212,193,194,195,196,197,215,216,217,218])
  (Za (XB k76 (by kernel_rfl)) (Za (Yh k86 (by kernel_rfl)) (Za (Yh k92 (by kernel_rfl)) (Za (Yh k101 (by kernel_rfl)) (Za (Yy (fnok126 a0) (by kernel_rfl)) (Za (Yy (fnok127 a0) (by kernel_rfl)) (Za (Yh k134 (by kernel_rfl)) (Za (XB k141 (by kernel_rfl)) (Za (XB k142 (by kernel_rfl)) (Za (Yh k143 (by kernel_rfl)) (Za (XB k144 (by kernel_rfl)) (Za (Yh k145 (by kernel_rfl)) (Za (Yy (fnok160 a0) (by kernel_rfl)) (Za (Yy (fnok161 a0) (by kernel_rfl)) (Za (Yy (fnok162 a0) (by kernel_rfl)) (Za (Yy (fnok163 a0) (by kernel_rfl)) Z4))))))))))))))))) ?_
 refine n99_go Lv.std F m s v ?_
 have et:tO Lv.std s v = thAt s v.1:=rfl
 have ei:iO Lv.std m s v = insAt m v.1 (thAt s v.1).1:=rfl
 have hin:v.1.toNat < s.2.length:=by omega
 have hset:s.2.set v.1.toNat (thAt s v.1) = s.2:=by
  refine List.ext_getElem? fun j=>?_
  by_cases hj:v.1.toNat = j
  ·subst hj
   rw [List.getElem?_set_self hin]
   simp only [thAt,List.getElem?_eq_getElem hin,Option.getD_some]
  ·rw [List.getElem?_set_ne hj]
 have hw:∀ (n:Nat) (x:ThD),(s.2.set n x).take s.2.length = s.2.set n x:=fun n x=>List.take_of_length_le (by simp)
 have hv:∀ (l:List Int) (n:Nat) (x:Int),(l.set n x).take l.length = l.set n x:=fun l n x=>List.take_of_length_le (by simp)
 have hl1:∀ (l:List Int) (x:Int),(l ++ [x]).take (l.length + 1) = l ++ [x]:=fun l x=>List.take_of_length_le (by simp)
 have hl2:∀ (l:List KpD) (x:KpD),(l ++ [x]).take (l.length + 1) = l ++ [x]:=fun l x=>List.take_of_length_le (by simp)
 have hr:∀ (l:List Int) (k:Int),(l[k.toNat]?).getD 0 = regF l k:=fun _ _=>rfl
 have hk:∀ (l:List KpD) (k:Int),(l[k.toNat]?).getD ((0,0):KpD) = kpAt l k.toNat:=fun _ _=>rfl
 have z0:Int.toNat 0 = 0:=rfl
 have z1:Int.toNat 1 = 1:=rfl
 simp only [n99,VC.holds,et,ei,p1,p2,ZJ,ZO,Zb,Zh,Zm,Yj,Ym,Z5,ZM,Yl,Yk,Yf,ZX,ZY,ZT,ZR,Ye,ZN,Zz,ZD,Zr,Z1,ZS,Z2,ZK,ZW,Yb,ZV,ZP,ZQ,Zt,ZH,Ya,Z3,ZI,Yd,Yc,Z6,Z7,Zg,ZC,ZL,ZU,Z8,Z9,Zd,Ze,ZA,ZB,Zu,Zv,Zx,Zy,Zk,Zl,Zp,Zq,Zi,Zj,Zn,Zo,ZG,ZF,ZZ,Yg,ZE,h,h1,h2,h3,h4,h5,h6,q1,q2,q3,q4,q5,q6,pe,hr,hk,z0,z1,hw,hv,hset,Int.toNat_natCast,List.take_succ_cons,List.take_zero,List.length_cons,List.length_nil,Nat.zero_add,hl1,hl2,List.length_append,List.take_length,List.length_set,Prod.mk.injEq,and_true,true_and]
 have hpl:=place_in s (thAt s v.1) (insAt m v.1 (thAt s v.1).1) g2.1
 cases hv2:v.2 with
 | true =>
   have d:doF m s v = (s.1.set (kpAt (thAt s v.1).2.2.1 0).1.toNat (kpAt (thAt s v.1).2.2.1 0).2,s.2.set v.1.toNat ((thAt s v.1).1,(thAt s v.1).2.1,(thAt s v.1).2.2.1.drop 1,(thAt s v.1).2.2.2)):=by simp only [doF,hv2,if_true]
   obtain ⟨c1,c3⟩:=g3 hv2
   have ek:((thAt s v.1).2.2.1[0]?).getD ((0,0):KpD) = kpAt (thAt s v.1).2.2.1 0:=rfl
   rw [d]
   simp only [ek,reduceCtorEq,false_implies,and_true,forall_const]
   refine ⟨by omega,by omega,by omega,by omega,by omega,by omega,by omega,by omega,by omega,by omega,by omega,?_⟩
   obtain ⟨c4,c5⟩:=c3
   exact ⟨⟨by omega,by omega⟩,c1,⟨by omega,by omega⟩,c1,⟨c4,c5⟩,by omega,by omega,by omega,by omega⟩
 | false =>
   have d:doF m s v = match stepF m.2 s (thAt s v.1) (insAt m v.1 (thAt s v.1).1) with
    | some x=>(x.1,s.2.set v.1.toNat x.2)
    | none=>(s.1,s.2.set v.1.toNat ((thAt s v.1).1,(thAt s v.1).2.1,(thAt s v.1).2.2.1,(thAt s v.1).2.2.2.1,true)):=by simp only [doF,hv2]; rfl
   obtain ⟨e1,⟨e2,e3⟩,r1,r2,r3,r4⟩:=g4 hv2
   rw [d]
   generalize ht:thAt s v.1 = t at *
   generalize hi:insAt m v.1 t.1 = i at *
   simp only [inReg] at r1 r2 r3 r4
   obtain ⟨b1,b2,b3,b4,b5⟩:=g2
   clear d g3 g4 ht hi hset hw hv hl1 hl2 hr hk h1 h2 h3 h4 h5 h6 q1 q2 q3 q4 q5 q6 k76 k86 k92 k101 k134 k141 k142 k143 k144 k145 et ei hpre h hp
   refine ⟨by omega,by omega,by omega,by omega,by omega,by omega,by omega,by omega,by omega,by omega,by omega,fun h=>(by cases h),fun _=>⟨by omega,⟨e2,e3⟩,?_⟩⟩
   simp only [stepF,inReg]
   generalize placeF s t i = q at *
   generalize workedF t.2.1 i = u at *
   repeat' (first | apply And.intro | intro _)
   all_goals (first | omega | (simp_all; done) | skip)
   all_goals (first | (have hle:t.2.2.2.1.length + 1≤20:=by omega
                       simp_all; done) | (have hle:¬ t.2.2.2.1.length + 1≤20:=by omega
                                          have h15:i.1 = 15:=by assumption
                                          rw [if_neg (by omega),if_neg (by omega),if_pos h15,if_neg hle]; done) | (simp_all [truthF]; done) | skip)
end Go.Proofs.Tryz
namespace Go.Proofs.Tryz
open Go Go.VM
theorem withinF_t {n a b:Int}:withinF n a b = true↔a≤n∧n≤b:=by unfold withinF; simp [Bool.and_eq_true,decide_eq_true_eq]
theorem isNum_t {n:Int}:isNumF n = true↔-1000000000≤n∧n≤1000000000:=withinF_t
theorem isNum0:isNumF 0 = true:=by decide
theorem isNum1:isNumF 1 = true:=by decide
structure OkP (p:WkD):Prop where
 w64:p.1.length≤64
 t4:p.2.1.length≤4
 w0:0 < p.1.length
 t0:0 < p.2.1.length
 room:1≤p.2.2∧p.2.2≤8
 nums:numsF p.1 = true
 list:∀ l ∈ p.2.1,l.length≤200∧∀ i ∈ l,insOkF i l.length = true
theorem okP_iff (p:WkD):checkF p = 0↔OkP p:=by
 unfold checkF
 constructor
 ·intro h
  split at h; · cases h
  rename_i h1
  split at h; · cases h
  rename_i h2
  split at h; · cases h
  rename_i h3
  split at h; · cases h
  rename_i h4
  split at h
  ·rename_i h5
   simp only [not_or,Nat.not_lt,Bool.not_eq_true,Bool.not_eq_false] at h1 h3 h4
   rw [List.all_eq_true] at h5
   refine ⟨h1.1,h1.2,by omega,by omega,withinF_t.1 h3.1,h3.2,fun l hl=>⟨?_,?_⟩⟩
   ·have:longL l = false:=by
     cases hc:longL l with
     | false=>rfl
     | true=>exact absurd (List.any_eq_true.2 ⟨l,hl,hc⟩) h2
    have:=of_decide_eq_false this
    omega
   ·have:=h5 l hl
    unfold listOk at this
    rw [List.all_eq_true] at this
    exact this
  ·cases h
 ·intro h
  have h1:¬ (64 < p.1.length∨4 < p.2.1.length):=by have:=h.w64; have:=h.t4; omega
  have h2:¬ p.2.1.any longL = true:=fun hc=>by
   obtain ⟨l,hl,hx⟩:=List.any_eq_true.1 hc
   have:=of_decide_eq_true hx
   have:=(h.list l hl).1
   omega
  have h3:¬ (withinF p.2.2 1 8 = false∨numsF p.1 = false):=by rw [withinF_t.2 h.room,h.nums]; simp
  have h4:¬ (p.1.length = 0∨p.2.1.length = 0):=by have:=h.w0; have:=h.t0; omega
  have h5:p.2.1.all listOk = true:=List.all_eq_true.2 fun l hl=>by unfold listOk; exact List.all_eq_true.2 (h.list l hl).2
  rw [if_neg h1,if_neg h2,if_neg h3,if_neg h4,if_pos h5]
structure OkT (p:WkD) (k:Nat) (t:ThD):Prop where
 r10:t.2.1.length = 10
 regs:numsF t.2.1 = true
 told:numsF t.2.2.2.1 = true
 at0:0≤t.1
 atl:t.1≤(listAt (p,false) k).length
 kept:(t.2.2.1.length:Int)≤p.2.2
 t20:t.2.2.2.1.length≤20
 kps:∀ x ∈ t.2.2.1,(0≤x.1∧x.1 < p.1.length)∧isNumF x.2 = true
theorem listAt_nat (p:WkD) (b:Bool) (k:Nat):listAt (p,b) k = (p.2.1[k]?).getD []:=by unfold listAt; rw [Int.toNat_natCast]
structure OkS (p:WkD) (s:StD):Prop where
 wl:s.1.length = p.1.length
 tl:s.2.length = p.2.1.length
 nums:numsF s.1 = true
 th:∀ k:Nat,k < s.2.length→OkT p k (thAt s k)
structure OkI (i:InD) (n:Int):Prop where
 op:1≤i.1∧i.1≤15
 a:0≤i.2.1∧i.2.1≤9
 b:0≤i.2.2.1∧i.2.2.1≤9
 c:0≤i.2.2.2.1∧i.2.2.2.1≤9
 d:0≤i.2.2.2.2.1∧i.2.2.2.2.1≤9
 j:i.1 = 13∨i.1 = 14→0≤i.2.2.2.2.2∧i.2.2.2.2.2≤n
 p:i.1 = 8∨i.1 = 9∨i.1 = 10∨i.1 = 12→0≤i.2.2.2.2.2∧i.2.2.2.2.2≤63
 n:i.1 = 1→isNumF i.2.2.2.2.2 = true
theorem regOk_in {b:Bool} {r:Int} (h:regOk b r = true):0≤r∧r≤9:=by
 unfold regOk at h
 split at h
 ·exact withinF_t.1 h
 ·have:=of_decide_eq_true h; omega
theorem insOk_ok {i:InD} {n:Int} (h:insOkF i n = true):OkI i n:=by
 unfold insOkF at h
 repeat' split at h
 all_goals (try (cases h; done))
 all_goals
  simp only [Bool.and_eq_true] at h
  obtain ⟨⟨⟨⟨a1,a2⟩,a3⟩,a4⟩,a5⟩:=h
  refine ⟨by omega,regOk_in a1,regOk_in a2,regOk_in a3,regOk_in a4,fun hj=>?_,fun hp=>?_,fun hn=>?_⟩
 all_goals first
  | omega
  | exact withinF_t.1 a5
  | exact a5
  | (exfalso; omega)
theorem insIn_mem {l:List InD} {k:Int} (h:0≤k∧k < l.length):insIn l k ∈ l:=by
 unfold insIn
 rw [List.getElem?_eq_getElem (by omega)]
 exact List.getElem_mem _
theorem listAt_mem {p:WkD} {b:Bool} {k:Nat} (h:k < p.2.1.length):listAt (p,b) k ∈ p.2.1:=by
 rw [listAt_nat,List.getElem?_eq_getElem h]; exact List.getElem_mem h
theorem ok_ins {p:WkD} {b:Bool} (hp:OkP p) {k:Nat} (hk:k < p.2.1.length) {j:Int} (hj:0≤j∧j < (listAt (p,b) k).length):OkI (insIn (listAt (p,b) k) j) (listAt (p,b) k).length :=
 insOk_ok ((hp.list _ (listAt_mem hk)).2 _ (insIn_mem hj))
theorem insAt_eq (p:WkD) (b:Bool) (v t:Int):insAt (p,b) v t = insIn (listAt (p,b) v) t:=rfl
theorem ok_pC {p:WkD} {b:Bool} {s:StD} (hp:OkP p) (hs:OkS p s) {k:Nat} (hk:k < s.2.length):pCF (p,b) s k:=by
 have ht:=hs.th k hk
 have hk':k < p.2.1.length:=by rw [← hs.tl]; exact hk
 refine ⟨⟨by omega,by omega⟩,by show (k:Int) < (p.2.1.length:Int); omega,ht.at0,fun hlt=>?_⟩
 have hi:=ok_ins (b:=b) hp hk' ⟨ht.at0,hlt⟩
 have:=ht.kept; have:=hp.room; have:=hp.w64; have:=hs.wl; have h10:=ht.r10
 exact ⟨⟨hi.b.1,by rw [h10]; have:=hi.b; omega⟩,by omega,by omega⟩
theorem ok_pE {p:WkD} {b:Bool} {s:StD} (hp:OkP p) (hs:OkS p s):pEF s (p,b) :=
 ⟨by have:=hs.tl; have:=hp.t4; omega,fun k hk=>ok_pC hp hs hk⟩
theorem ok_bS {p:WkD} {s:StD} (hp:OkP p) (hs:OkS p s):bS s:=by
 refine ⟨by have:=hs.wl; have:=hp.w64; omega,by have:=hs.tl; have:=hp.t4; omega,fun t ht=>?_⟩
 obtain ⟨k,hk,rfl⟩:=List.getElem_of_mem ht
 have hT:=hs.th k hk
 have e:thAt s k = s.2[k]:=by unfold thAt; rw [Int.toNat_natCast,List.getElem?_eq_getElem hk]; rfl
 rw [e] at hT
 have:=hT.r10; have:=hT.kept; have:=hp.room; have:=hT.t20
 exact ⟨by omega,by omega,by omega⟩
theorem mem_mvAt {s:StD} {m:McD} {k:Nat} {v:MvD}:v ∈ mvAt s m k↔v.1 = k∧((v.2 = false∧canF m s k = true)∨(v.2 = true∧0 < (thAt s k).2.2.1.length)):=by
 obtain ⟨a,b⟩:=v
 unfold mvAt
 by_cases h1:canF m s k = true <;> by_cases h2:0 < (thAt s k).2.2.1.length <;> cases b <;> simp [h1,h2]
theorem mem_mvN {s:StD} {m:McD} {v:MvD}:∀ n,n≤s.2.length→(v ∈ mvN s m n↔∃ k:Nat,s.2.length - n≤k∧k < s.2.length∧v ∈ mvAt s m k)
 | 0,_=>by
   simp only [mvN,List.not_mem_nil,false_iff]
   rintro ⟨k,h1,h2,_⟩; omega
 | n + 1,hn=>by
   rw [mvN,List.mem_append,mem_mvN n (by omega)]
   constructor
   ·rintro (h | ⟨k,h1,h2,h3⟩)
    ·exact ⟨_,Nat.le_refl _,by omega,h⟩
    ·exact ⟨k,by omega,h2,h3⟩
   ·rintro ⟨k,h1,h2,h3⟩
    by_cases hx:k = s.2.length - (n + 1)
    ·subst hx; exact .inl h3
    ·exact .inr ⟨k,by omega,h2,h3⟩
theorem mem_moves {s:StD} {m:McD} {v:MvD}:v ∈ movesF m s↔∃ k:Nat,k < s.2.length∧v.1 = k∧((v.2 = false∧canF m s k = true)∨(v.2 = true∧0 < (thAt s k).2.2.1.length)):=by
 unfold movesF
 rw [mem_mvN _ (Nat.le_refl _)]
 constructor
 ·rintro ⟨k,_,h2,h3⟩
  exact ⟨k,h2,mem_mvAt.1 h3⟩
 ·rintro ⟨k,h2,h3⟩
  exact ⟨k,by omega,h2,mem_mvAt.2 h3⟩
theorem can_t {m:McD} {s:StD} {k:Int}:canF m s k = true↔(thAt s k).2.2.2.2 = false∧(thAt s k).1 < (listAt m k).length∧waitsF m s (thAt s k) (insIn (listAt m k) (thAt s k).1) = false:=by
 unfold canF
 simp [Bool.and_eq_true,decide_eq_true_eq]
theorem ok_pDo {p:WkD} {b:Bool} {s:StD} {v:MvD} (hp:OkP p) (hs:OkS p s) (hv:v ∈ movesF (p,b) s):pDoF (p,b) s v:=by
 obtain ⟨k,hk,hvk,hc⟩:=mem_moves.1 hv
 obtain ⟨v1,v2⟩:=v
 simp only at hvk hc
 subst hvk
 have ht:=hs.th k hk
 have hk':k < p.2.1.length:=by rw [← hs.tl]; exact hk
 have:=ht.kept; have:=hp.room; have:=hp.w64; have:=hs.wl; have h10:=ht.r10; have:=hs.tl; have:=hp.t4; have:=ht.t20
 refine ⟨⟨by omega,by show (k:Int) < (s.2.length:Int); omega⟩,⟨by omega,by omega,by show (thAt s k).2.1.length≤_; omega,by show (thAt s k).2.2.1.length≤_; omega,by show (thAt s k).2.2.2.1.length≤_; omega⟩,fun h2=>?_,fun h2=>?_⟩
 ·have h2':v2 = true:=h2
  rcases hc with ⟨hf,_⟩ | ⟨_,hn⟩
  ·rw [h2'] at hf; cases hf
  ·refine ⟨hn,?_⟩
   have:kpAt (thAt s k).2.2.1 0 ∈ (thAt s k).2.2.1:=by unfold kpAt; rw [List.getElem?_eq_getElem hn]; exact List.getElem_mem hn
   have:=(ht.kps _ this).1
   exact ⟨this.1,by rw [hs.wl]; exact this.2⟩
 ·have h2':v2 = false:=h2
  rcases hc with ⟨_,hn⟩ | ⟨hf,_⟩
  ·obtain ⟨c1,c2,c3⟩:=can_t.1 hn
   have hi:=ok_ins (b:=b) hp hk' ⟨ht.at0,c2⟩
   have inr:∀ r:Int,0≤r∧r≤9→inReg (thAt s k).2.1 r:=fun r hr=>⟨hr.1,by rw [h10]; omega⟩
   exact ⟨by show (k:Int) < (p.2.1.length:Int); omega,⟨ht.at0,c2⟩,inr _ hi.a,inr _ hi.b,inr _ hi.c,inr _ hi.d⟩
  ·rw [h2'] at hf; cases hf
theorem nums_t {l:List Int}:numsF l = true↔∀ x ∈ l,isNumF x = true:=by unfold numsF; exact List.all_eq_true
theorem nums_reg {l:List Int} (h:numsF l = true) (k:Int):isNumF (regF l k) = true:=by
 unfold regF
 cases hc:l[k.toNat]? with
 | none=>exact isNum0
 | some x=>exact nums_t.1 h x (List.mem_of_getElem? hc)
theorem nums_set {l:List Int} (h:numsF l = true) {x:Int} (hx:isNumF x = true) (k:Nat):numsF (l.set k x) = true:=nums_t.2 fun y hy=>by
 rcases List.mem_or_eq_of_mem_set hy with h1 | h1
 ·exact nums_t.1 h y h1
 ·rw [h1]; exact hx
theorem nums_app {l:List Int} (h:numsF l = true) {x:Int} (hx:isNumF x = true):numsF (l ++ [x]) = true:=nums_t.2 fun y hy=>by
 rcases List.mem_append.1 hy with h1 | h1
 ·exact nums_t.1 h y h1
 ·rw [List.mem_singleton.1 h1]; exact hx
theorem lkF_mem {l:List KpD} {p v:Int}:∀ n,lkF l p n = some v→n≤l.length→∃ x ∈ l,x.1 = p∧x.2 = v
 | 0,h,_=>by cases h
 | j + 1,h,hn=>by
   unfold lkF at h
   split at h
   ·rename_i e
    refine ⟨kpAt l j,?_,e,by injection h⟩
    unfold kpAt; rw [List.getElem?_eq_getElem (by omega)]; exact List.getElem_mem _
   ·exact lkF_mem j h (by omega)
theorem sees_num {p:WkD} {s:StD} {k:Nat} {t:ThD} (hs:OkS p s) (ht:OkT p k t) (q:Int):isNumF (seesF s t q) = true:=by
 unfold seesF
 split
 ·rename_i v hv
  obtain ⟨x,hx,_,rfl⟩:=lkF_mem _ hv (Nat.le_refl _)
  exact (ht.kps x hx).2
 ·exact nums_reg hs.nums q
theorem worked_num {l:List Int} {i:InD} (h:(workedF l i).2 = true):isNumF (workedF l i).1 = true:=by
 unfold workedF at h ⊢
 split at h
 ·rename_i n hn; exact h
 ·cases h
theorem thAt_set {ws:List Int} {ts:List ThD} {t:ThD} {k j:Nat} (hk:k < ts.length):thAt (ws,ts.set k t) j = if j = k then t else thAt (ws,ts) j:=by
 unfold thAt
 rw [Int.toNat_natCast]
 by_cases h:j = k
 ·subst h; rw [if_pos rfl,List.getElem?_set_self hk]; rfl
 ·rw [if_neg h,List.getElem?_set_ne (fun e=>h e.symm)]
theorem okS_set {p:WkD} {s:StD} (hs:OkS p s) {ws:List Int} (hw:ws.length = s.1.length) (hn:numsF ws = true) {k:Nat} (hk:k < s.2.length) {t:ThD} (ht:OkT p k t):OkS p (ws,s.2.set k t) where
 wl:=hw.trans hs.wl
 tl:=by show (s.2.set k t).length = _; rw [List.length_set]; exact hs.tl
 nums:=hn
 th:=fun j hj=>by
  have hj':j < s.2.length:=by have:j < (s.2.set k t).length:=hj; rwa [List.length_set] at this
  rw [thAt_set hk]
  split
  ·rename_i e; subst e; exact ht
  ·exact hs.th j hj'
theorem step_ok {p:WkD} {b:Bool} {s:StD} (hp:OkP p) (hs:OkS p s) {k:Nat} (hk:k < s.2.length) (hc:canF (p,b) s k = true) {x:List Int × ThD} (hx:stepF b s (thAt s k) (insIn (listAt (p,b) k) (thAt s k).1) = some x):x.1.length = s.1.length∧numsF x.1 = true∧OkT p k x.2:=by
 have ht:=hs.th k hk
 have hk':k < p.2.1.length:=by rw [← hs.tl]; exact hk
 obtain ⟨c1,c2,c3⟩:=can_t.1 hc
 have hi:=ok_ins (b:=b) hp hk' ⟨ht.at0,c2⟩
 generalize hig:insIn (listAt (p,b) k) (thAt s k).1 = i at *
 generalize htg:thAt s k = t at *
 have hl200:=(hp.list _ (listAt_mem (b:=b) hk')).1
 have e1:IntKind.i64.wrap (t.1 + 1) = t.1 + 1:=Yn (by have:=ht.at0; omega) (by omega)
 have ell:(listAt (p,b) k) = listAt (p,false) k:=rfl
 rw [ell] at c2 hi hl200
 obtain ⟨a1,a2,a3,a4,a5,a6,a7,a8⟩:=ht
 have nx:OkT p k (t.1 + 1,t.2):=⟨a1,a2,a3,by show 0≤t.1 + 1; omega,by show t.1 + 1≤_; omega,a6,a7,a8⟩
 have nr:∀ n,isNumF n = true→∀ j,OkT p k (t.1 + 1,t.2.1.set j n,t.2.2):=fun n hn j=>⟨by show (t.2.1.set j n).length = 10; rw [List.length_set]; exact a1,nums_set a2 hn j,a3,nx.at0,nx.atl,a6,a7,a8⟩
 unfold stepF at hx
 rw [e1] at hx
 split at hx
 ·rename_i h13
  cases hx
  have:=hi.j (.inl h13)
  exact ⟨rfl,hs.nums,⟨a1,a2,a3,this.1,this.2,a6,a7,a8⟩⟩
 split at hx
 ·rename_i h14
  cases hx
  have:=hi.j (.inr h14)
  refine ⟨rfl,hs.nums,?_⟩
  show OkT p k (if _ then _ else _,t.2)
  split
  ·exact ⟨a1,a2,a3,this.1,this.2,a6,a7,a8⟩
  ·exact nx
 split at hx
 ·split at hx
  ·cases hx
   rename_i h20
   exact ⟨rfl,hs.nums,⟨a1,a2,nums_app a3 (nums_reg a2 _),nx.at0,nx.atl,a6,by show (_ ++ [_]).length≤20; simp only [List.length_append,List.length_cons,List.length_nil]; omega,a8⟩⟩
  ·cases hx
 split at hx
 ·rename_i hpl
  simp only at hx
  split at hx
  ·cases hx
  rename_i hq
  have hq':(placeF s t i).2 = true:=by simpa using hq
  have hwl:s.1.length≤1000000:=by have:=hp.w64; have:=hs.wl; omega
  have hin:=place_in5 s t i hwl hq'
  split at hx
  ·cases hx
   exact ⟨rfl,hs.nums,nr _ (sees_num hs ⟨a1,a2,a3,a4,a5,a6,a7,a8⟩ _) _⟩
  split at hx
  ·rename_i h9
   split at hx
   ·cases hx
    exact ⟨by show (s.1.set _ _).length = _; rw [List.length_set],nums_set hs.nums (nums_reg a2 _) _,nx⟩
   ·rename_i hb
    cases hx
    have hb':b = false:=by simpa using hb
    have hw:¬ ((t.2.2.1.length:Int) = p.2.2):=fun e=>by
     unfold waitsF at c3
     rw [if_pos h9,hb'] at c3
     simp [e] at c3
    refine ⟨rfl,hs.nums,⟨a1,a2,a3,nx.at0,nx.atl,?_,a7,fun x hx=>?_⟩⟩
    ·show ((t.2.2.1 ++ [_]).length:Int)≤p.2.2
     simp only [List.length_append,List.length_cons,List.length_nil]; omega
    ·rcases List.mem_append.1 hx with h1 | h1
     ·exact a8 x h1
     ·rw [List.mem_singleton.1 h1]
      exact ⟨⟨hin.1,by rw [← hs.wl]; exact hin.2⟩,nums_reg a2 _⟩
  split at hx
  ·split at hx
   ·cases hx
    exact ⟨by show (s.1.set _ _).length = _; rw [List.length_set],nums_set hs.nums (nums_reg a2 _) _,nr _ isNum1 _⟩
   ·cases hx
    exact ⟨rfl,hs.nums,nr _ isNum0 _⟩
  ·cases hx
   exact ⟨rfl,hs.nums,nx⟩
 split at hx
 ·simp only at hx
  split at hx
  ·cases hx
  ·rename_i hq
   cases hx
   exact ⟨rfl,hs.nums,nr _ (worked_num (by simpa using hq)) _⟩
 ·cases hx
  exact ⟨rfl,hs.nums,nx⟩
theorem do_ok {p:WkD} {b:Bool} {s:StD} {v:MvD} (hp:OkP p) (hs:OkS p s) (hv:v ∈ movesF (p,b) s):OkS p (doF (p,b) s v):=by
 obtain ⟨k,hk,hvk,hc⟩:=mem_moves.1 hv
 obtain ⟨v1,v2⟩:=v
 simp only at hvk hc
 subst hvk
 have ht:=hs.th k hk
 unfold doF
 simp only [Int.toNat_natCast]
 rcases hc with ⟨rfl,hc⟩ | ⟨rfl,hn⟩
 ·rw [if_neg (by simp)]
  rw [insAt_eq]
  split
  ·rename_i x hx
   obtain ⟨h1,h2,h3⟩:=step_ok hp hs hk hc hx
   exact okS_set hs h1 h2 hk h3
  ·exact okS_set hs rfl hs.nums hk ⟨ht.r10,ht.regs,ht.told,ht.at0,ht.atl,ht.kept,ht.t20,ht.kps⟩
 ·rw [if_pos rfl]
  have hm:kpAt (thAt s k).2.2.1 0 ∈ (thAt s k).2.2.1:=by unfold kpAt; rw [List.getElem?_eq_getElem hn]; exact List.getElem_mem hn
  refine okS_set hs (by rw [List.length_set]) (nums_set hs.nums (ht.kps _ hm).2 _) hk ⟨ht.r10,ht.regs,ht.told,ht.at0,ht.atl,?_,ht.t20,fun x hx=>ht.kps x (List.mem_of_mem_drop hx)⟩
  show (((thAt s k).2.2.1.drop 1).length:Int)≤p.2.2
  have:=ht.kept
  rw [List.length_drop]; omega
theorem first_ok {p:WkD} (hp:OkP p):OkS p (firstF p) where
 wl:=rfl
 tl:=by show (List.replicate _ _).length = _; rw [List.length_replicate]
 nums:=hp.nums
 th:=fun k hk=>by
  have hk':k < p.2.1.length:=by have:k < (List.replicate p.2.1.length th0).length:=hk; rwa [List.length_replicate] at this
  have e:thAt (firstF p) k = th0:=by
   unfold thAt firstF
   rw [Int.toNat_natCast,List.getElem?_replicate,if_pos hk']; rfl
  rw [e]
  exact ⟨rfl,by decide,rfl,Int.le_refl 0,by show (0:Int)≤(List.length _:Int); omega,by show (0:Int)≤_; have:=hp.room; omega,by decide,fun x hx=>by cases hx⟩
def sEn (e:EnD):Prop:=e.1.length≤1000000∧e.2.1.length≤1000000∧e.2.2.length≤1000000∧(∀ l ∈ e.2.1,l.length≤1000000)∧∀ x ∈ e.2.2,0≤x∧x < 256
def cmpI (x y:Int):Int:=if x < y then -1 else if y < x then 1 else 0
def lexL {α:Type} (c:α→α→Int):List α→List α→Int
 | [],[]=>0
 | [],_ :: _=>-1
 | _ :: _,[]=>1
 | a :: r,b :: q=>if c a b ≠ 0 then c a b else lexL c r q
def cmpLF:List Int→List Int→Int:=lexL cmpI
def cmpLLF:List (List Int)→List (List Int)→Int:=lexL cmpLF
def orF3:List Int→Int
 | []=>0
 | x :: r=>if x ≠ 0 then x else orF3 r
def cmpEF (a b:EnD):Int:=orF3 [cmpLF a.1 b.1,cmpLLF a.2.1 b.2.1,cmpLF a.2.2 b.2.2]
theorem Y0 {α:Type} (c:α→α→Int) (l q:List α) (k:Nat) (d:α) (h1:k < l.length) (h2:k < q.length):lexL c (l.drop k) (q.drop k) = if c ((l[k]?).getD d) ((q[k]?).getD d) ≠ 0 then c ((l[k]?).getD d) ((q[k]?).getD d) else lexL c (l.drop (k + 1)) (q.drop (k + 1)):=by
 rw [List.drop_eq_getElem_cons h1,List.drop_eq_getElem_cons h2,List.getElem?_eq_getElem h1,List.getElem?_eq_getElem h2]; rfl
theorem lexL_long {α:Type} (c:α→α→Int) (l q:List α) (k:Nat) (h1:k < l.length) (h2:q.length≤k):lexL c (l.drop k) (q.drop k) = 1:=by
 rw [List.drop_eq_getElem_cons h1,List.drop_eq_nil_of_le h2]; rfl
theorem lexL_short {α:Type} (c:α→α→Int) (l q:List α) (h1:l.length < q.length):lexL c (l.drop l.length) (q.drop l.length) = -1:=by
 rw [List.drop_length,List.drop_eq_getElem_cons h1]; rfl
theorem lexL_same {α:Type} (c:α→α→Int) (l q:List α) (h1:l.length = q.length):lexL c (l.drop l.length) (q.drop l.length) = 0:=by
 rw [List.drop_length,h1,List.drop_length]; rfl
theorem lexL_eq {α:Type} (c:α→α→Int) (hc:∀ a b,c a b = 0↔a = b):∀ l q:List α,lexL c l q = 0↔l = q
 | [],[]=>by simp [lexL]
 | [],_ :: _=>by simp [lexL]
 | _ :: _,[]=>by simp [lexL]
 | a :: r,b :: q=>by
   unfold lexL
   by_cases h:c a b = 0
   ·rw [if_neg (by simpa using h),lexL_eq c hc r q,(hc a b).1 h]; simp
   ·rw [if_pos h]
    have:a ≠ b:=fun e=>h ((hc a b).2 e)
    simp [h,this]
theorem cmpI_eq (a b:Int):cmpI a b = 0↔a = b:=by
 unfold cmpI
 by_cases h1:a < b
 ·rw [if_pos h1]; constructor <;> intro h <;> omega
 ·rw [if_neg h1]
  by_cases h2:b < a
  ·rw [if_pos h2]; constructor <;> intro h <;> omega
  ·rw [if_neg h2]; constructor <;> intro h <;> omega
theorem cmpL_eq (a b:List Int):cmpLF a b = 0↔a = b:=lexL_eq cmpI cmpI_eq a b
theorem cmpLL_eq (a b:List (List Int)):cmpLLF a b = 0↔a = b:=lexL_eq cmpLF cmpL_eq a b
theorem cmpE_eq (a b:EnD):cmpEF a b = 0↔a = b:=by
 obtain ⟨a1,a2,a3⟩:=a
 obtain ⟨b1,b2,b3⟩:=b
 unfold cmpEF orF3 orF3 orF3 orF3
 simp only
 have h1:=cmpL_eq a1 b1
 have h2:=cmpLL_eq a2 b2
 have h3:=cmpL_eq a3 b3
 split
 ·rename_i h; constructor
  ·intro e; exact absurd e h
  ·intro e; cases e; exact absurd (h1.2 rfl) h
 ·rename_i h
  have e1:=h1.1 (by simpa using h)
  split
  ·rename_i h'; constructor
   ·intro e; exact absurd e h'
   ·intro e; cases e; exact absurd (h2.2 rfl) h'
  ·rename_i h'
   have e2:=h2.1 (by simpa using h')
   split
   ·rename_i h''; constructor
    ·intro e; exact absurd e h''
    ·intro e; cases e; exact absurd (h3.2 rfl) h''
   ·rename_i h''
    have e3:=h3.1 (by simpa using h'')
    simp [e1,e2,e3]
def lexR:List Int→List Int→Int
 | [],q=>-(q.length:Int)
 | r,[]=>(r.length:Int)
 | a :: r,b :: q=>if a < b then -1 else if b < a then 1 else lexR r q
theorem lexR_eq:∀ l q:List Int,lexR l q = 0↔l = q
 | [],[]=>by simp [lexR]
 | [],_ :: _=>by simp [lexR]; omega
 | _ :: _,[]=>by simp [lexR]; omega
 | a :: r,b :: q=>by
   unfold lexR
   by_cases h1:a < b
   ·rw [if_pos h1]; simp; omega
   ·rw [if_neg h1]
    by_cases h2:b < a
    ·rw [if_pos h2]; simp; omega
    ·rw [if_neg h2,lexR_eq r q]
     have:a = b:=by omega
     simp [this]
def lexRR:List (List Int)→List (List Int)→Int
 | [],q=>-(q.length:Int)
 | r,[]=>(r.length:Int)
 | a :: r,b :: q=>if lexR a b ≠ 0 then lexR a b else lexRR r q
theorem lexRR_eq:∀ l q:List (List Int),lexRR l q = 0↔l = q
 | [],[]=>by simp [lexRR]
 | [],_ :: _=>by simp [lexRR]; omega
 | _ :: _,[]=>by simp [lexRR]; omega
 | a :: r,b :: q=>by
   unfold lexRR
   by_cases h:lexR a b = 0
   ·rw [if_neg (by simpa using h),lexRR_eq r q,(lexR_eq a b).1 h]; simp
   ·rw [if_pos h]
    have:a ≠ b:=fun e=>h ((lexR_eq a b).2 e)
    simp [h,this]
def cmpREF (a b:EnD):Int:=if lexR a.1 b.1 ≠ 0 then lexR a.1 b.1 else if lexRR a.2.1 b.2.1 ≠ 0 then lexRR a.2.1 b.2.1 else lexR a.2.2 b.2.2
theorem cmpRE_eq (a b:EnD):cmpREF a b = 0↔a = b:=by
 obtain ⟨a1,a2,a3⟩:=a
 obtain ⟨b1,b2,b3⟩:=b
 unfold cmpREF
 simp only
 by_cases h1:lexR a1 b1 = 0
 ·rw [if_neg (by simpa using h1)]
  by_cases h2:lexRR a2 b2 = 0
  ·rw [if_neg (by simpa using h2),lexR_eq,(lexR_eq _ _).1 h1,(lexRR_eq _ _).1 h2]; simp
  ·rw [if_pos h2]
   have:a2 ≠ b2:=fun e=>h2 ((lexRR_eq _ _).2 e)
   simp [h2,this]
 ·rw [if_pos h1]
  have:a1 ≠ b1:=fun e=>h1 ((lexR_eq _ _).2 e)
  simp [h1,this]
end Go.Proofs.Tryz
