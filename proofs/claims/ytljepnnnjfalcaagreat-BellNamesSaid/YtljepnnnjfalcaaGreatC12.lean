/- What functions of the weak memory compute, proved through the condition generator, and plain facts of it. Conditions: none of ours. -/
import Derived.Test.YtljepnnnjfalcaaGreatC11
set_option autoImplicit false
set_option maxRecDepth 100000
set_option linter.all false
namespace Go.Proofs.Tryz
open Go Go.VM
def a146 (L:Lv) (I:Nat→Ds [It]→Prop) (mu:Ds [It]→Nat):Nat→Option IAnn
 | 0=>anY L [0,1,3] [] [.s 3 It] I mu
 | _=>none
def a101 (L:Lv) (I:Nat→Ds []→Prop):Nat→LAnn
 | 0=>anR L [3,5,6] [] [] I
 | _=>.no
def a55 (L:Lv) (I:Ds [It]→Prop) (mu:Ds [It]→Nat):Nat→LAnn
 | 0=>anH L [2,3,7,8] [] [.s 8 It] I mu
 | _=>.no
def i146 (L:Lv) (F:BxF) (I:Nat→Ds [It]→Prop) (mu:Ds [It]→Nat) (l:Nat) (s:List KpD)  : VC :=
 let z1:=L.cast (L.llen Kp s);
 let z2:=L.ar .sub .i64 z1 1;
 let z3:=Int × (Int × Int) × Unit; .obl (St.mk 19 [(0,V.c (C.yld l)),(1,V.ipt [C.sl Kp s]),(3,V.c (C.int .i64 z2))] [(0,Ob.amb)] 1 = St.mk 19 [(0,V.c (C.yld l)),
  (1,V.ipt [C.sl Kp s]),(3,V.c (C.int .i64 z2))] [(0,Ob.amb)] 1) (.obl (I 0 (L.ar .sub .i64 z1 1,())) (.all (Int × Unit) fun (v1:Int × Unit) =>
 let z4:=v1.1;
 let z5:=L.get Kp s (L.toN z4);
 let z6:=L.ar .sub .i64 z4 1;
 let z7:=(L.ar .sub .i64 z4 1,()); .all Nat fun (v2:Nat)=>.imp (I v2 v1) (.br (L.cmp .geq z4 0) (.obl (L.inR z4 (L.llen Kp s)) (.obl (l
  = l) (.obl (L.nth z3 (BxF.back F s) v2 (Prod.fst v1,(Prod.fst z5,z5.2),())) (.all Bool fun (v3:Bool)=>.br v3 (.ok (St.mk 19 [(0,V.c (C.yld l)),(1,
  V.ipt [C.sl Kp s]),(3,V.c (C.int .i64 z6))] [(0,Ob.amb)] 1 = St.mk 19 [(0,V.c (C.yld l)),(1,V.ipt [C.sl Kp s]),(3,V.c (C.int .i64 z6))] [(0,Ob.amb)] 1∧I
  (Nat.succ v2) z7∧mu z7 < mu v1)) (.ok True))))) (.ok (v2 = L.cnt z3 (BxF.back F s))))))
theorem i146_go (L:Lv) (F:BxF) (I:Nat→Ds [It]→Prop) (mu:Ds [It]→Nat) (l:Nat) (s:List KpD) (h:VC.holds (i146 L F I mu l s)):Holds (iterVC L E01 (callG L E01 (only (bT F) []) 0) (spcOf (only (bT F) [])) (D146 a0).code (D146 a0).ntmps (D146 a0).pl (a146 L I mu) (I146 F) l (s,())):=Holds.of_eq (by kernel_rfl) h
def n101 (L:Lv) (F:BxF) (I:Nat→Ds []→Prop) (s:StD) (t:ThD) (p:Int)  : VC :=
 let z1:=t.2.2;
 let z2:=z1.1;
 let z3:=s.1;
 let z4:=s.2;
 let z5:=t.1;
 let z6:=t.2.1;
 let z7:=z1.2;
 let z8:=z7.1;
 let z9:=z7.2;
 let z10:=Int × (Int × Int) × Unit;
 let z11:=BxF.back F z2;
 let z12:=(BxF.sees F s t p,()); .obl (BxF.pBack F z2) (.obl (St.mk 25 [(3,V.c (C.ptr 1 0)),(5,V.c (C.ptr 3 0)),(6,V.c (C.ptr 4 0))] [(0,Ob.amb),(1,Ob.box 45 [C.sl It
  z3,C.sl Th z4]),(2,Ob.box 137 [C.int .i64 z5,C.sl It z6,C.sl Kp z2,C.sl It z8,C.sym z9]),(3,Ob.box 3 [C.int .i64 p]),(4,Ob.box 3 [C.int .i64 0])] 6
  = St.mk 25 [(3,V.c (C.ptr 1 0)),(5,V.c (C.ptr 3 0)),(6,V.c (C.ptr 4 0))] [(0,Ob.amb),(1,Ob.box 45 [C.sl It z3,C.sl Th z4]),(2,Ob.box 137 [C.int .i64 z5,C.sl It
  z6,C.sl Kp z2,C.sl It z8,C.sym z9]),(3,Ob.box 3 [C.int .i64 p]),(4,Ob.box 3 [C.int .i64 0])] 6) (.obl (I 0 ()) (.all Bool fun (v1:Bool)=>.br v1
  (.all Unit fun (v2:Unit)=>.all Nat fun (v3:Nat)=>.all z10 fun (v4:Int × (Int × Int) × Unit) =>
 let z13:=v4.2.1; .imp (L.nth z10 z11 v3 v4∧I v3 v2) (.br (L.cmp .eql z13.1 p) (.ok ((Prod.snd z13,()) = z12)) (.ok (St.mk 25 [(3,
  V.c (C.ptr 1 0)),(5,V.c (C.ptr 3 0)),(6,V.c (C.ptr 4 0))] [(0,Ob.amb),(1,Ob.box 45 [C.sl It z3,C.sl Th z4]),(2,Ob.box 137 [C.int .i64 z5,C.sl It z6,C.sl Kp z2,
  C.sl It z8,C.sym z9]),(3,Ob.box 3 [C.int .i64 p]),(4,Ob.box 3 [C.int .i64 0])] 6 = St.mk 25 [(3,V.c (C.ptr 1 0)),(5,V.c (C.ptr 3 0)),(6,V.c (C.ptr 4 0))]
  [(0,Ob.amb),(1,Ob.box 45 [C.sl It z3,C.sl Th z4]),(2,Ob.box 137 [C.int .i64 z5,C.sl It z6,C.sl Kp z2,C.sl It z8,C.sym z9]),(3,Ob.box 3 [C.int .i64 p]),
  (4,Ob.box 3 [C.int .i64 0])] 6∧I (Nat.succ v3) ())))) (.all Unit fun (v5:Unit)=>.imp (I (L.cnt z10 z11) v5) (.obl (L.inR p (L.llen It z3)) (.ok
  ((L.get It z3 (L.toN p),()) = z12)))))))
theorem n101_go (L:Lv) (F:BxF) (I:Nat→Ds []→Prop) (s:StD) (t:ThD) (p:Int) (h:VC.holds (n101 L F I s t p)):Holds (vcB L F [238,240] (D101 (a101 L I)) (S101 F) (s,t,p,())):=Holds.of_eq (by kernel_rfl) h
def kpAt (l:List KpD) (j:Nat):KpD:=(l[j]?).getD (0,0)
def lkF (l:List KpD) (p:Int):Nat→Option Int
 | 0=>none
 | j + 1=>if (kpAt l j).1 = p then some (kpAt l j).2 else lkF l p j
def backF (l:List KpD):List (Int × KpD × Unit):=(List.range l.length).map fun j=>(((l.length - 1 - j:Nat):Int),kpAt l (l.length - 1 - j),())
def seesF (s:StD) (t:ThD) (p:Int):Int:=match lkF t.2.2.1 p t.2.2.1.length with
 | some v=>v
 | none=>regF s.1 p
def thAt (s:StD) (t:Int):ThD:=(s.2[t.toNat]?).getD (0,[],[],[],false)
def seeF (s:StD) (t p:Int):Int:=seesF s (thAt s t) p
theorem backF_len (l:List KpD):(backF l).length = l.length:=by simp [backF]
theorem backF_at (l:List KpD) (j:Nat) (h:j < l.length):(backF l)[j]? = some (((l.length - 1 - j:Nat):Int),kpAt l (l.length - 1 - j),()):=by
 simp [backF,h]
theorem ok146 (F:BxF) (h:F.back = backF) (hp:F.pBack = fun l=>l.length≤1000000):ItOk prog 240 (I146 F):=by
 let I:List KpD→Nat→Int × Unit→Prop:=fun s j x=>j≤s.length∧x.1 = (s.length:Int) - 1 - j
 let mu:Int × Unit→Nat:=fun x=>(x.1 + 1).toNat
 refine iter_by hm hE (fnok146 a0) rfl (I146 F) rfl (fns:=only (bT F) []) (Zs Z4) 0 (fun x=>a146 Lv.std (I x.1) mu) ?_
 rintro l ⟨s,⟨⟩⟩ hpre
 have hsz:s.length≤1000000:=by have:=hpre; simp only [I146,hp] at this; exact this
 refine i146_go Lv.std F (I s) mu l s ?_
 simp only [i146,VC.holds,ZJ,ZO,Zb,Zh,Zm,Yj,Ym,Z5,ZM,Yl,Yk,Yf,ZX,ZY,ZT,ZR,Ye,ZN,Zz,ZD,Zr,Z1,ZS,Z2,ZK,ZW,Yb,ZV,ZP,ZQ,Zt,ZH,Ya,Z3,ZI,Yd,Yc,Z6,Z7,Zg,ZC,ZL,ZU,Z8,Z9,Zd,Ze,ZA,ZB,Zu,Zv,Zx,Zy,Zk,Zl,Zp,Zq,Zi,Zj,Zn,Zo,ZG,ZF,ZZ,Yg,ZE,h,Prod.mk.injEq,and_true,true_and]
 have e0:IntKind.i64.wrap ((s.length:Int) - 1) = (s.length:Int) - 1:=Yn (by omega) (by omega)
 refine ⟨⟨Nat.zero_le _,by show IntKind.i64.wrap ((s.length:Int) - 1) = (s.length:Int) - 1 - (0:Nat); rw [e0]; omega⟩,?_⟩
 rintro ⟨x,⟨⟩⟩ j ⟨i1,i2⟩
 simp only at i2 ⊢
 refine ⟨fun hx=>?_,fun hx=>?_⟩
 ·have hj:j < s.length:=by omega
  have e1:IntKind.i64.wrap (x - 1) = x - 1:=Yn (by omega) (by omega)
  have e2:x.toNat = s.length - 1 - j:=by omega
  rw [e1]
  refine ⟨⟨hx,by omega⟩,?_,fun b=>⟨fun _=>⟨⟨hj,by show x - 1 = (s.length:Int) - 1 - ((j + 1:Nat):Int); omega⟩,by show (x - 1 + 1).toNat < (x + 1).toNat; omega⟩,fun _=>trivial⟩⟩
  rw [backF_at s j hj,e2]
  have:(((s.length - 1 - j:Nat):Int)) = x:=by omega
  rw [this]; rfl
 ·rw [backF_len]; omega
theorem ok101 (F:BxF) (hb:F.back = backF) (hpb:F.pBack = fun l=>l.length≤1000000) (h:F.sees = seesF) (hp:F.pSees = fun s t p=>inReg s.1 p∧t.2.2.1.length≤1000000) (k:ItOk prog 240 (I146 F)):SpecOk prog 233 (S101 F):=by
 refine Zc hm hE D101 fnok101 _ fun (z:StD × ThD × Int × Unit) hpre=>?_
 obtain ⟨s,t,p,⟨⟩⟩:=z
 have hpre':F.pSees s t p:=hpre
 rw [hp] at hpre'
 obtain ⟨hr,hl⟩:=hpre'
 have hr':0≤p∧p < s.1.length:=hr
 let I:Nat→Unit→Prop:=fun j _=>j≤t.2.2.1.length∧lkF t.2.2.1 p t.2.2.1.length = lkF t.2.2.1 p (t.2.2.1.length - j)
 refine Yp _ 3 (a101 Lv.std I) (Zs (T:=bT F) (l:=[238,240]) (Za (Yy (fnok129 a0) (by kernel_rfl)) (Za (tb_it k (by kernel_rfl)) Z4))) ?_
 refine n101_go Lv.std F I s t p ?_
 simp only [n101,VC.holds,ZJ,ZO,Zb,Zh,Zm,Yj,Ym,Z5,ZM,Yl,Yk,Yf,ZX,ZY,ZT,ZR,Ye,ZN,Zz,ZD,Zr,Z1,ZS,Z2,ZK,ZW,Yb,ZV,ZP,ZQ,Zt,ZH,Ya,Z3,ZI,Yd,Yc,Z6,Z7,Zg,ZC,ZL,ZU,Z8,Z9,Zd,Ze,ZA,ZB,Zu,Zv,Zx,Zy,Zk,Zl,Zp,Zq,Zi,Zj,Zn,Zo,ZG,ZF,ZZ,Yg,ZE,hb,hpb,h,Prod.mk.injEq,and_true,true_and]
 refine ⟨hl,⟨Nat.zero_le _,rfl⟩,fun b=>⟨fun _=>?_,fun _=>?_⟩⟩
 ·rintro ⟨⟩ j ⟨y1,y2,⟨⟩⟩ ⟨g1,g2,g3⟩
  have hj:j < t.2.2.1.length:=by
   have:=(List.getElem?_eq_some_iff.1 g1).1
   rwa [backF_len] at this
  rw [backF_at _ j hj] at g1
  simp only [Option.some.injEq,Prod.mk.injEq,and_true] at g1
  obtain ⟨_,rfl⟩:=g1
  have es:t.2.2.1.length - j = (t.2.2.1.length - 1 - j) + 1:=by omega
  rw [es,lkF] at g3
  refine ⟨fun hq=>?_,fun hq=>⟨hj,?_⟩⟩
  ·rw [if_pos hq] at g3
   simp only [seesF,g3]
  ·rw [if_neg hq] at g3
   rw [show t.2.2.1.length - (j + 1) = t.2.2.1.length - 1 - j by omega]; exact g3
 ·rintro ⟨⟩ ⟨g2,g3⟩
  rw [backF_len,Nat.sub_self,lkF] at g3
  refine ⟨hr',?_⟩
  simp only [seesF,g3,regF]
end Go.Proofs.Tryz
namespace Go.Proofs.Tryz
open Go Go.VM
def n77 (L:Lv) (F:BxF) (I:Ds [It]→Prop) (mu:Ds [It]→Nat) (s:ByteArray) (c:Int)  : VC :=
 .obl
 (St.mk 17 [(0,V.c (C.str s)),(1,V.c (C.int .u8 c)),(5,V.c (C.int .i64 0))] [(0,Ob.amb)] 1 =
 St.mk 17 [(0,V.c (C.str s)),(1,V.c (C.int .u8 c)),(5,V.c (C.int .i64 0))] [(0,Ob.amb)] 1)
 (.obl (I (0,()))
 (.all (Int × Unit) fun (x:Int × Unit) =>
 .imp (I x)
 (.br (L.cmp .lss x.1 (L.cast (L.slen s)))
 (.obl (L.inR x.1 (L.slen s))
 (.br (L.cmp .eql (L.byte s x.1) c) (.ok ((true,()) = (BxF.has F s c,())))
 (.ok
 (St.mk 17 [(0,V.c (C.str s)),(1,V.c (C.int .u8 c)),(5,V.c (C.int .i64 (L.ar .add .i64 x.1 1)))] [(0,Ob.amb)] 1 =
 St.mk 17 [(0,V.c (C.str s)),(1,V.c (C.int .u8 c)),(5,V.c (C.int .i64 (L.ar .add .i64 x.1 1)))] [(0,Ob.amb)] 1 ∧
 I (L.ar .add .i64 x.1 1,())∧mu (L.ar .add .i64 x.1 1,()) < mu x))))
 (.ok ((false,()) = (BxF.has F s c,()))))))
theorem n77_go (L:Lv) (F:BxF) (I:Ds [It]→Prop) (mu:Ds [It]→Nat) (s:ByteArray) (c:Int) (h:VC.holds (n77 L F I mu s c)):Holds (vcB L F [] (D77 (a77 L I mu)) (S77 F) (s,c,())):=Holds.of_eq (by kernel_rfl) h
def hN (s:ByteArray) (c:Int):Nat→Bool
 | 0=>false
 | n + 1=>decide (byteAt s n = c) || hN s c n
def hasF (s:ByteArray) (c:Int):Bool:=hN s c s.size
theorem hN_at (s:ByteArray) (c:Int) (k:Nat) (h:byteAt s k = c):∀ n,k < n→hN s c n = true
 | 0,hk=>by omega
 | n + 1,hk=>by
   rw [hN]
   by_cases e:k = n
   ·subst e; simp [h]
   ·rw [hN_at s c k h n (by omega)]; simp
theorem ok77 (F:BxF) (h:F.has = hasF) (hp:F.pHas = fun s=>s.size≤1000000):SpecOk prog 143 (S77 F):=by
 refine Zc hm hE D77 fnok77 _ fun (z:ByteArray × Int × Unit) hpre=>?_
 obtain ⟨s,c,⟨⟩⟩:=z
 have hpre':F.pHas s:=hpre
 rw [hp] at hpre'
 have hz:s.size≤1000000:=hpre'
 let I:Int × Unit→Prop:=fun x=>0≤x.1∧x.1≤s.size∧hN s c x.1.toNat = false
 let mu:Int × Unit→Nat:=fun x=>((s.size:Int) - x.1).toNat
 refine Yp _ 3 (a77 Lv.std I mu) (Zs (T:=bT F) (l:=[]) Z4) ?_
 refine n77_go Lv.std F I mu s c ?_
 simp only [n77,VC.holds,ZJ,ZO,Zb,Zh,Zm,Yj,Ym,Z5,ZM,Yl,Yk,Yf,ZX,ZY,ZT,ZR,Ye,ZN,Zz,ZD,Zr,Z1,ZS,Z2,ZK,ZW,Yb,ZV,ZP,ZQ,Zt,ZH,Ya,Z3,ZI,Yd,Yc,Z6,Z7,Zg,ZC,ZL,ZU,Z8,Z9,Zd,Ze,ZA,ZB,Zu,Zv,Zx,Zy,Zk,Zl,Zp,Zq,Zi,Zj,Zn,Zo,ZG,ZF,ZZ,Yg,ZE,h,Prod.mk.injEq,and_true,true_and]
 refine ⟨⟨Int.le_refl 0,by show (0:Int)≤s.size; omega,rfl⟩,?_⟩
 rintro ⟨x,⟨⟩⟩ ⟨i1,i2,i3⟩
 simp only at i1 i2 i3 ⊢
 obtain ⟨k,rfl⟩:∃ k:Nat,x = k:=⟨x.toNat,by omega⟩
 rw [Int.toNat_natCast] at i3
 refine ⟨fun hlt=>⟨⟨by omega,hlt⟩,fun hb=>?_,fun hb=>?_⟩,fun hge=>?_⟩
 ·exact (hN_at s c k hb s.size (by omega)).symm
 ·have ew:IntKind.i64.wrap ((k:Int) + 1) = (k:Int) + 1:=Yn (by omega) (by omega)
  rw [ew]
  refine ⟨⟨by show (0:Int)≤(k:Int) + 1; omega,by show (k:Int) + 1≤_; omega,?_⟩,by show ((s.size:Int) - ((k:Int) + 1)).toNat < ((s.size:Int) - k).toNat; omega⟩
  show hN s c ((k:Int) + 1).toNat = false
  rw [show ((k:Int) + 1).toNat = k + 1 by omega,hN,i3,decide_eq_false hb]; rfl
 ·have:k = s.size:=by omega
  subst this
  exact i3.symm
def fieldsF (b:Int):ByteArray :=
 if b = 1 then ⟨#[65,78]⟩ else if b = 2∨b = 3∨b = 4∨b = 5∨b = 6∨b = 7 then ⟨#[65,66,67]⟩ else if b = 8∨b = 9 then ⟨#[65,66,80]⟩
 else if b = 10 then ⟨#[65,66,67,68,80]⟩ else if b = 11 then ⟨#[45]⟩ else if b = 12 then ⟨#[66,80]⟩ else if b = 13 then ⟨#[74]⟩ else if b = 14 then ⟨#[65,74]⟩ else if b = 15 then ⟨#[65]⟩ else ByteArray.empty
def shapeF (b:Int):Int × Bool :=
 if b = 1 then (17,true) else if b = 2∨b = 3∨b = 4∨b = 5∨b = 6∨b = 7 then (7,true) else if b = 8∨b = 9 then (35,true)
 else if b = 10 then (47,true) else if b = 11 then (0,true) else if b = 12 then (34,true) else if b = 13 then (64,true) else if b = 14 then (65,true) else if b = 15 then (1,true) else (0,false)
theorem ok120 (F:BxF) (h:F.shape = shapeF):SpecOk prog 188 (S120 F):=by
 refine Zc hm hE D120 fnok120 _ fun (z:Int × Unit) hpre=>?_
 obtain ⟨b,⟨⟩⟩:=z
 refine Yp _ 3 a0 (Zs (T:=bT F) (l:=[]) Z4) ?_
 refine n120_go Lv.std F b ?_
 simp only [n120,VC.holds,ZJ,ZO,Zb,Zh,Zm,Yj,Ym,Z5,ZM,Yl,Yk,Yf,ZX,ZY,ZT,ZR,Ye,ZN,Zz,ZD,Zr,Z1,ZS,Z2,ZK,ZW,Yb,ZV,ZP,ZQ,Zt,ZH,Ya,Z3,ZI,Yd,Yc,Z6,Z7,Zg,ZC,ZL,ZU,Z8,Z9,Zd,Ze,ZA,ZB,Zu,Zv,Zx,Zy,Zk,Zl,Zp,Zq,Zi,Zj,Zn,Zo,ZG,ZF,ZZ,Yg,ZE,h,shapeF,Prod.mk.injEq,and_true,true_and]
 repeat' (first | apply And.intro | intro _)
 all_goals (first | trivial | (simp_all; done) | skip)
theorem ok78 (F:BxF) (h:F.fields = fieldsF):SpecOk prog 144 (S78 F):=by
 refine Zc hm hE D78 fnok78 _ fun (z:Int × Unit) hpre=>?_
 obtain ⟨b,⟨⟩⟩:=z
 refine Yp _ 3 a0 (Zs (T:=bT F) (l:=[]) Z4) ?_
 refine n78_go Lv.std F b ?_
 simp only [n78,VC.holds,ZJ,ZO,Zb,Zh,Zm,Yj,Ym,Z5,ZM,Yl,Yk,Yf,ZX,ZY,ZT,ZR,Ye,ZN,Zz,ZD,Zr,Z1,ZS,Z2,ZK,ZW,Yb,ZV,ZP,ZQ,Zt,ZH,Ya,Z3,ZI,Yd,Yc,Z6,Z7,Zg,ZC,ZL,ZU,Z8,Z9,Zd,Ze,ZA,ZB,Zu,Zv,Zx,Zy,Zk,Zl,Zp,Zq,Zi,Zj,Zn,Zo,ZG,ZF,ZZ,Yg,ZE,h,fieldsF,Prod.mk.injEq,and_true,true_and]
 repeat' (first | apply And.intro | intro _)
 all_goals (first | trivial | (simp_all; done) | (simp_all; rfl) | skip)
end Go.Proofs.Tryz
namespace Go.Proofs.Tryz
open Go Go.VM
def a135 (L:Lv) (I:Nat→Ds [It]→Prop) (mu:Ds [It]→Nat):Nat→Option IAnn
 | 0=>anY L [0,1,2,7,8,9] [] [.s 9 It] I mu
 | _=>none
def n157 (L:Lv) (F:BxF) (m:McD) (s:StD) (t:ThD) (i:InD)  : VC :=
 let z1:=i.1;
 let z2:=(BxF.waits F m s t i,());
 let z3:=t.2.2;
 let z4:=L.cast (L.llen Kp z3.1);
 let z5:=L.cmp .gtr z4 0;
 let z6:=(Prod.fst s,s.2);
 let z7:=z3.2;
 let z8:=(Prod.fst t,t.2.1,z3.1,z7.1,z7.2);
 let z9:=i.2.2;
 let z10:=z9.2;
 let z11:=z10.2;
 let z12:=(Prod.fst i,i.2.1,z9.1,z10.1,z11.1,z11.2);
 let z13:=BxF.place F z6 z8 z12;
 let z14:=z13.1; .br (L.cmp .eql z1 9) (.br m.2 (.ok ((false,()) = z2)) (.br (L.cmp .eql z4 m.1.2.2) (.ok
  ((true,()) = z2)) (.ok ((false,()) = z2)))) (.br (L.cmp .eql z1 10) (.br z5 (.ok ((true,()) = z2)) (.ok ((false,()) = z2))) (.br (L.cmp .eql z1
  11) (.br z5 (.ok ((true,()) = z2)) (.ok ((false,()) = z2))) (.br (L.cmp .eql z1 12) (.obl (BxF.pPlace F z6 z8 z12) (.br z13.2 (.obl (BxF.pSees F
  z6 z8 z14) (.br (L.cmp .eql (BxF.sees F z6 z8 z14) 0) (.ok ((true,()) = z2)) (.ok ((false,()) = z2)))) (.ok ((false,()) = z2)))) (.ok ((false,()) = z2)))))
theorem n157_go (L:Lv) (F:BxF) (m:McD) (s:StD) (t:ThD) (i:InD) (h:VC.holds (n157 L F m s t i)):Holds (vcB L F [233,195] (D157 a0) (S157 F) (m,s,t,i,())):=Holds.of_eq (by kernel_rfl) h
def n136 (L:Lv) (F:BxF) (m:McD) (s:StD) (k:Int)  : VC :=
 let z1:=m.1.2;
 let z2:=z1.1;
 let z3:=L.get Th s.2 (L.toN k);
 let z4:=z3.2;
 let z5:=z4.2;
 let z6:=z5.2;
 let z7:=(BxF.can F m s k,());
 let z8:=z3.1;
 let z9:=L.get (Ty.sl In) z2 (L.toN k);
 let z10:=L.llen In z9;
 let z11:=(Prod.fst m.1,z1.1,z1.2);
 let z12:=(Prod.fst s,s.2);
 let z13:=(Prod.fst z3,z4.1,z5.1,z6.1,z6.2);
 let z14:=L.get In z9 (L.toN z8);
 let z15:=z14.2;
 let z16:=z15.2;
 let z17:=z16.2;
 let z18:=z17.2;
 let z19:=(Prod.fst z14,z15.1,z16.1,z17.1,z18.1,z18.2); .obl (L.inR k (L.llen Th s.2)) (.obl (L.inR k (L.llen
  (Ty.sl In) z2)) (.br z6.2 (.ok ((false,()) = z7)) (.br (L.cmp .lss z8 (L.cast z10)) (.obl (L.inR z8 z10) (.obl (BxF.pW F (z11,m.2) z12
  z13 z19) (.br (BxF.waits F (z11,m.2) z12 z13 z19) (.ok ((false,()) = z7)) (.ok ((true,()) = z7))))) (.ok ((false,()) = z7)))))
theorem n136_go (L:Lv) (F:BxF) (m:McD) (s:StD) (k:Int) (h:VC.holds (n136 L F m s k)):Holds (vcB L F [214] (D136 a0) (S136 F) (m,s,k,())):=Holds.of_eq (by kernel_rfl) h
def i135 (L:Lv) (F:BxF) (I:Nat→Ds [It]→Prop) (mu:Ds [It]→Nat) (l:Nat) (s:StD) (m:McD)  : VC :=
 let z1:=s.1;
 let z2:=s.2;
 let z3:=m.1;
 let z4:=z3.1;
 let z5:=z3.2;
 let z6:=z5.1;
 let z7:=z5.2;
 let z8:=m.2;
 let z9:=L.llen Th z2;
 let z10:=L.cast z9;
 let z11:=(Prod.fst z3,z5.1,z5.2);
 let z12:=(Prod.fst s,s.2);
 let z13:=Int × Bool;
 let z14:=BxF.each F s m; .obl (St.mk 37 [(0,V.c (C.yld l)),(1,V.ipt [C.sl It z1,C.sl Th z2]),(2,V.ipt [C.sl It z4,C.sl (Ty.sl In) z6,C.int .i64 z7,C.sym z8]),
  (7,V.c (C.sl Th z2)),(8,V.c (C.int .i64 z10)),(9,V.c (C.int .i64 0))] [(0,Ob.amb)] 1 = St.mk 37 [(0,V.c (C.yld l)),(1,V.ipt [C.sl It z1,C.sl Th z2]),(2,
  V.ipt [C.sl It z4,C.sl (Ty.sl In) z6,C.int .i64 z7,C.sym z8]),(7,V.c (C.sl Th z2)),(8,V.c (C.int .i64 z10)),(9,V.c (C.int .i64 0))] [(0,Ob.amb)] 1)
  (.obl (I 0 (0,())) (.all (Int × Unit) fun (v1:Int × Unit) =>
 let z15:=v1.1;
 let z16:=L.cmp .gtr (L.cast (L.llen Kp (Prod.fst (Prod.snd (Prod.snd (L.get Th z2 (L.toN z15))))))) 0;
 let z17:=(Prod.fst v1,true);
 let z18:=L.ar .add .i64 z15 1;
 let z19:=(L.ar .add .i64 z15 1,()); .all Nat fun (v2:Nat) =>
 let z20:=Nat.succ v2; .imp (I v2 v1) (.br (L.cmp .lss z15 z10) (.obl (L.inR z15 z9) (.obl (BxF.pC F (z11,m.2) z12 z15) (.br (BxF.can F (z11,Prod.snd
  m) z12 z15) (.obl (l = l) (.obl (L.nth (z13 × Unit) z14 v2 ((Prod.fst v1,false),())) (.all Bool fun (v3:Bool)=>.br v3 (.br z16 (.obl (l = l) (.obl (Lv.nth
  L (z13 × Unit) z14 z20 (z17,())) (.all Bool fun (v4:Bool)=>.br v4 (.ok (St.mk 37 [(0,V.c (C.yld l)),(1,V.ipt [C.sl It z1,C.sl Th z2]),(2,V.ipt [C.sl It z4,C.sl
  (Ty.sl In) z6,C.int .i64 z7,C.sym z8]),(7,V.c (C.sl Th z2)),(8,V.c (C.int .i64 z10)),(9,V.c (C.int .i64 z18))] [(0,Ob.amb)] 1 = St.mk 37 [(0,V.c
  (C.yld l)),(1,V.ipt [C.sl It z1,C.sl Th z2]),(2,V.ipt [C.sl It z4,C.sl (Ty.sl In) z6,C.int .i64 z7,C.sym z8]),(7,V.c (C.sl Th z2)),(8,V.c (C.int .i64
  z10)),(9,V.c (C.int .i64 z18))] [(0,Ob.amb)] 1∧I (Nat.succ z20) z19∧mu z19 < mu v1)) (.ok True)))) (.ok (St.mk 37 [(0,V.c (C.yld l)),(1,V.ipt [C.sl It z1,
  C.sl Th z2]),(2,V.ipt [C.sl It z4,C.sl (Ty.sl In) z6,C.int .i64 z7,C.sym z8]),(7,V.c (C.sl Th z2)),(8,V.c (C.int .i64 z10)),(9,V.c (C.int .i64
  z18))] [(0,Ob.amb)] 1 = St.mk 37 [(0,V.c (C.yld l)),(1,V.ipt [C.sl It z1,C.sl Th z2]),(2,V.ipt [C.sl It z4,C.sl (Ty.sl In) z6,C.int .i64 z7,C.sym z8]),(7,V.c
  (C.sl Th z2)),(8,V.c (C.int .i64 z10)),(9,V.c (C.int .i64 z18))] [(0,Ob.amb)] 1∧I z20 z19∧mu z19 < mu v1))) (.ok True)))) (.br z16 (.obl (l = l)
  (.obl (L.nth (z13 × Unit) z14 v2 (z17,())) (.all Bool fun (v5:Bool)=>.br v5 (.ok (St.mk 37 [(0,V.c (C.yld l)),(1,V.ipt [C.sl It z1,C.sl Th z2]),(2,V.ipt
  [C.sl It z4,C.sl (Ty.sl In) z6,C.int .i64 z7,C.sym z8]),(7,V.c (C.sl Th z2)),(8,V.c (C.int .i64 z10)),(9,V.c (C.int .i64 z18))] [(0,Ob.amb)] 1 =
  St.mk 37 [(0,V.c (C.yld l)),(1,V.ipt [C.sl It z1,C.sl Th z2]),(2,V.ipt [C.sl It z4,C.sl (Ty.sl In) z6,C.int .i64 z7,C.sym z8]),(7,V.c (C.sl Th z2)),(8,V.c
  (C.int .i64 z10)),(9,V.c (C.int .i64 z18))] [(0,Ob.amb)] 1∧I z20 z19∧mu z19 < mu v1)) (.ok True)))) (.ok (St.mk 37 [(0,V.c (C.yld l)),(1,V.ipt [C.sl
  It z1,C.sl Th z2]),(2,V.ipt [C.sl It z4,C.sl (Ty.sl In) z6,C.int .i64 z7,C.sym z8]),(7,V.c (C.sl Th z2)),(8,V.c (C.int .i64 z10)),(9,V.c (C.int
  .i64 z18))] [(0,Ob.amb)] 1 = St.mk 37 [(0,V.c (C.yld l)),(1,V.ipt [C.sl It z1,C.sl Th z2]),(2,V.ipt [C.sl It z4,C.sl (Ty.sl In) z6,C.int .i64 z7,C.sym
  z8]),(7,V.c (C.sl Th z2)),(8,V.c (C.int .i64 z10)),(9,V.c (C.int .i64 z18))] [(0,Ob.amb)] 1∧I v2 z19∧mu z19 < mu v1)))))) (.ok (v2 = L.cnt (z13 ×
  Unit) z14)))))
theorem i135_go (L:Lv) (F:BxF) (I:Nat→Ds [It]→Prop) (mu:Ds [It]→Nat) (l:Nat) (s:StD) (m:McD) (h:VC.holds (i135 L F I mu l s m)):Holds (iterVC L E01 (callG L E01 (only (bT F) [192]) 0) (spcOf (only (bT F) [192])) (D135 a0).code (D135 a0).ntmps (D135 a0).pl (a135 L I mu) (I135 F) l (s,m,())):=Holds.of_eq (by kernel_rfl) h
def waitsF (m:McD) (s:StD) (t:ThD) (i:InD):Bool :=
 if i.1 = 9 then !m.2 && decide ((t.2.2.1.length:Int) = m.1.2.2)
 else if i.1 = 10∨i.1 = 11 then decide (0 < (t.2.2.1.length:Int))
 else if i.1 = 12 then (placeF s t i).2 && decide (seesF s t (placeF s t i).1 = 0)
 else false
def listAt (m:McD) (k:Int):List InD:=(m.1.2.1[k.toNat]?).getD []
def insIn (l:List InD) (k:Int):InD:=(l[k.toNat]?).getD (0,0,0,0,0,0)
def canF (m:McD) (s:StD) (k:Int):Bool :=
 !(thAt s k).2.2.2.2 && (decide ((thAt s k).1 < (listAt m k).length) && !waitsF m s (thAt s k) (insIn (listAt m k) (thAt s k).1))
def pWF (s:StD) (t:ThD) (i:InD):Prop:=inReg t.2.1 i.2.2.1∧s.1.length≤1000000∧t.2.2.1.length≤1000000
def pCF (m:McD) (s:StD) (k:Int):Prop:=(0≤k∧k < s.2.length)∧k < m.1.2.1.length∧0≤(thAt s k).1∧((thAt s k).1 < (listAt m k).length→pWF s (thAt s k) (insIn (listAt m k) (thAt s k).1))
theorem pe5 {α β:Type} (p:α × β):(p.1,p.2) = p:=rfl
theorem place_in5 (s:StD) (t:ThD) (i:InD) (h:s.1.length≤1000000) (hq:(placeF s t i).2 = true):0≤(placeF s t i).1∧(placeF s t i).1 < s.1.length:=by
 have e:IntKind.i64.wrap ((s.1.length:Int) - 1) = (s.1.length:Int) - 1:=Yn (by omega) (by omega)
 simp only [placeF,withinF,e,Bool.and_eq_true,decide_eq_true_eq] at hq ⊢
 omega
theorem ok157 (F:BxF) (h:F.waits = waitsF) (hp:F.pW = fun _ s t i=>pWF s t i) (h1:F.place = placeF) (h2:F.sees = seesF) (q1:F.pPlace = fun _ t i=>inReg t.2.1 i.2.2.1) (q2:F.pSees = fun s t p=>inReg s.1 p∧t.2.2.1.length≤1000000)
  (k1:SpecOk prog 233 (S101 F)) (k2:SpecOk prog 195 (S143 F)):SpecOk prog 214 (S157 F):=by
 refine Zc hm hE D157 fnok157 _ fun (z:McD × StD × ThD × InD × Unit) hpre=>?_
 obtain ⟨m,s,t,i,⟨⟩⟩:=z
 have hpre':F.pW m s t i:=hpre
 rw [hp] at hpre'
 obtain ⟨g1,g2,g3⟩:=hpre'
 refine Yp _ 3 a0 (Zs (T:=bT F) (l:=[233,195]) (Za (Yh k1 (by kernel_rfl)) (Za (Yh k2 (by kernel_rfl)) Z4))) ?_
 refine n157_go Lv.std F m s t i ?_
 have hpl:=place_in5 s t i g2
 simp only [n157,VC.holds,ZJ,ZO,Zb,Zh,Zm,Yj,Ym,Z5,ZM,Yl,Yk,Yf,ZX,ZY,ZT,ZR,Ye,ZN,Zz,ZD,Zr,Z1,ZS,Z2,ZK,ZW,Yb,ZV,ZP,ZQ,Zt,ZH,Ya,Z3,ZI,Yd,Yc,Z6,Z7,Zg,ZC,ZL,ZU,Z8,Z9,Zd,Ze,ZA,ZB,Zu,Zv,Zx,Zy,Zk,Zl,Zp,Zq,Zi,Zj,Zn,Zo,ZG,ZF,ZZ,Yg,ZE,h,h1,h2,q1,q2,pe5,waitsF,Prod.mk.injEq,and_true,true_and]
 have hq:∀ p,0≤p∧p < (s.1.length:Int)→inReg s.1 p:=fun p h=>h
 repeat' (first | apply And.intro | intro _)
 all_goals (first | assumption | omega | exact g1.1 | exact g1.2 | (simp_all; done))
theorem ok136 (F:BxF) (h:F.can = canF) (hp:F.pC = pCF) (h1:F.waits = waitsF) (q1:F.pW = fun _ s t i=>pWF s t i) (k1:SpecOk prog 214 (S157 F)):SpecOk prog 192 (S136 F):=by
 refine Zc hm hE D136 fnok136 _ fun (z:McD × StD × Int × Unit) hpre=>?_
 obtain ⟨m,s,k,⟨⟩⟩:=z
 have hpre':F.pC m s k:=hpre
 rw [hp] at hpre'
 obtain ⟨g1,g2,g3,g4⟩:=hpre'
 refine Yp _ 3 a0 (Zs (T:=bT F) (l:=[214]) (Za (Yh k1 (by kernel_rfl)) Z4)) ?_
 refine n136_go Lv.std F m s k ?_
 have e1:Lv.std.get Th s.2 k.toNat = thAt s k:=rfl
 have e2:Lv.std.get (.sl In) m.1.2.1 k.toNat = listAt m k:=rfl
 have e3:∀ l (j:Int),Lv.std.get In l j.toNat = insIn l j:=fun _ _=>rfl
 simp only [n136,VC.holds,ZH,e1,e2,e3,ZI,Zr,ZJ,Zt,Zd,Ze,h,h1,q1,pe5,canF,Prod.mk.injEq,and_true,true_and]
 refine ⟨g1,⟨g1.1,g2⟩,fun hf=>by simp [hf],fun hf=>⟨fun hlt=>⟨⟨g3,hlt⟩,g4 hlt,fun hw=>by simp [hw],fun hw=>?_⟩,fun hge=>?_⟩⟩
 ·simp [hf,hw,hlt]
 ·have:¬ (thAt s k).1 < ((listAt m k).length:Int):=by omega
  simp [this]
def mvAt (s:StD) (m:McD) (k:Nat):List MvD:=(if canF m s k then [((k:Int),false)] else []) ++ (if 0 < (thAt s k).2.2.1.length then [((k:Int),true)] else [])
def mvN (s:StD) (m:McD):Nat→List MvD
 | 0=>[]
 | n + 1=>mvAt s m (s.2.length - (n + 1)) ++ mvN s m n
def movesF (m:McD) (s:StD):List MvD:=mvN s m s.2.length
def tupM (v:MvD):MvD × Unit:=(v,())
def eachF (s:StD) (m:McD):List (MvD × Unit):=(movesF m s).map tupM
def pEF (s:StD) (m:McD):Prop:=s.2.length≤1000000∧∀ k:Nat,k < s.2.length→pCF m s k
theorem mvN_step (s:StD) (m:McD) (k:Nat) (h:k < s.2.length):mvN s m (s.2.length - k) = mvAt s m k ++ mvN s m (s.2.length - (k + 1)):=by
 obtain ⟨n,hn⟩:∃ n,s.2.length - k = n + 1:=⟨s.2.length - k - 1,by omega⟩
 rw [hn,mvN,show s.2.length - (n + 1) = k by omega,show s.2.length - (k + 1) = n by omega]
theorem ok135 (F:BxF) (h:F.each = eachF) (hp:F.pE = pEF) (h1:F.can = canF) (q1:F.pC = pCF) (k1:SpecOk prog 192 (S136 F)):ItOk prog 191 (I135 F):=by
 let I:StD→McD→Nat→Int × Unit→Prop:=fun s m j x=>j≤(eachF s m).length∧(0≤x.1∧x.1≤s.2.length)∧(eachF s m).drop j = (mvN s m (s.2.length - x.1.toNat)).map tupM
 let mu:StD→Int × Unit→Nat:=fun s x=>(s.2.length - x.1).toNat
 refine iter_by hm hE (fnok135 a0) rfl (I135 F) rfl (fns:=only (bT F) [192]) (Zs (Za (Yh k1 (by kernel_rfl)) Z4)) 0 (fun x=>a135 Lv.std (I x.1 x.2.1) (mu x.1)) ?_
 rintro l ⟨s,m,⟨⟩⟩ hpre
 have hpre':F.pE s m:=hpre
 rw [hp] at hpre'
 obtain ⟨g1,g2⟩:=hpre'
 refine i135_go Lv.std F (I s m) (mu s) l s m ?_
 have e1:∀ k:Int,Lv.std.get Th s.2 k.toNat = thAt s k:=fun _=>rfl
 simp only [i135,VC.holds,ZH,e1,ZI,Zr,ZJ,Zt,Zb,Z8,Z9,Zd,Ze,Zu,Zv,h,h1,q1,pe5,Prod.mk.injEq,and_true,true_and]
 refine ⟨⟨Nat.zero_le _,⟨Int.le_refl 0,by show (0:Int)≤s.2.length; omega⟩,by show (eachF s m).drop 0 = (mvN s m (s.2.length - (0:Int).toNat)).map tupM; rfl⟩,?_⟩
 rintro ⟨x,⟨⟩⟩ j ⟨i1,i2,i3⟩
 simp only at i2 i3 ⊢
 obtain ⟨k,rfl⟩:∃ k:Nat,x = k:=⟨x.toNat,by omega⟩
 rw [Int.toNat_natCast] at i3
 refine ⟨fun hlt=>?_,fun hge=>?_⟩
 ·have hk:k < s.2.length:=by omega
  rw [mvN_step s m k hk,mvAt,List.map_append,List.map_append] at i3
  have ew:IntKind.i64.wrap ((k:Int) + 1) = (k:Int) + 1:=Yn (by omega) (by omega)
  rw [ew]
  have hI:∀ j',j'≤(eachF s m).length→(eachF s m).drop j' = (mvN s m (s.2.length - (k + 1))).map tupM→I s m j' ((k:Int) + 1,())∧mu s ((k:Int) + 1,()) < mu s ((k:Int),()):=fun j' h1 h2 =>
   ⟨⟨h1,⟨by show (0:Int)≤(k:Int) + 1; omega,by show (k:Int) + 1≤_; omega⟩,by show (eachF s m).drop j' = (mvN s m (s.2.length - ((k:Int) + 1).toNat)).map tupM; rw [show ((k:Int) + 1).toNat = k + 1 by omega]; exact h2⟩,by show ((s.2.length:Int) - ((k:Int) + 1)).toNat < ((s.2.length:Int) - k).toNat; omega⟩
  refine ⟨⟨by omega,hlt⟩,g2 k hk,fun hc=>?_,fun hc=>?_⟩
  ·rw [if_pos hc] at i3
   obtain ⟨d1,d2,d3⟩:=drop_cons i3
   refine ⟨d1,fun b=>⟨fun _=>⟨fun hp=>?_,fun hp=>?_⟩,fun _=>trivial⟩⟩
   ·rw [if_pos (by omega)] at d2
    obtain ⟨f1,f2,f3⟩:=drop_cons d2
    exact ⟨f1,fun b=>⟨fun _=>hI _ f3 f2,fun _=>trivial⟩⟩
   ·rw [if_neg (by omega)] at d2
    exact hI _ d3 d2
  ·rw [if_neg (by rw [hc]; simp)] at i3
   refine ⟨fun hp=>?_,fun hp=>?_⟩
   ·rw [if_pos (by omega)] at i3
    obtain ⟨f1,f2,f3⟩:=drop_cons i3
    exact ⟨f1,fun b=>⟨fun _=>hI _ f3 f2,fun _=>trivial⟩⟩
   ·rw [if_neg (by omega)] at i3
    exact hI _ i1 i3
 ·rw [show s.2.length - k = 0 by omega,mvN] at i3
  exact drop_nil i3 i1
end Go.Proofs.Tryz
