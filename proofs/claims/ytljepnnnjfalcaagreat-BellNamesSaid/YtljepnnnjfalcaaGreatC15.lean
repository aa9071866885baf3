/- What functions of the weak memory compute, proved through the condition generator, and plain facts of it. Conditions: none of ours. -/
import Derived.Test.YtljepnnnjfalcaaGreatC13
import Derived.Test.YtljepnnnjfalcaaGreatC12
set_option autoImplicit false
set_option maxRecDepth 100000
set_option linter.all false
namespace Go.Proofs.Tryz
open Go Go.VM
def aIx (L:Lv) (e:Ty) (I:Int × List e.D × Unit→Ds [It]→Prop) (mu:Int × List e.D × Unit→Ds [It]→Nat):Nat→LAnn
 | 0=>anE L [0,1,7,8] [] [.fn 1,.h (.s 0 (.sl e))] [.s 8 It] I mu
 | _=>.no
noncomputable def o87 (L:Lv) (I:Int × List Int × Unit→Ds [It]→Prop) (mu:Int × List Int × Unit→Ds [It]→Nat):List (Nat × FT):=[(125,.inl (D96 a0)),(180,.inl (D125 (aIx L It I mu))),(185,.inl (D122 a0))]
noncomputable def o38 (L:Lv) (I1:Int × List InD × Unit→Ds [It]→Prop) (mu1:Int × List InD × Unit→Ds [It]→Nat) (I2:Int × List (List InD) × Unit→Ds [It]→Prop) (mu2:Int × List (List InD) × Unit→Ds [It]→Nat):List (Nat × FT) :=
 [(154,.inl (D80 a0)),(155,.inl (D81 a0)),(156,.inl (D82 a0)),(157,.inl (D83 a0)),(159,.inl (D85 a0)),(187,.inl (D119 (aIx L In I1 mu1))),(189,.inl (D121 (aIx L (.sl In) I2 mu2)))]
def n87 (L:Lv) (F:BxF) (I:Int × List Int × Unit→Ds [It]→Prop) (mu:Int × List Int × Unit→Ds [It]→Nat) (l:List Int)  : VC :=
 let z1:=L.cast (L.llen It l);
 let z2:=(BxF.nums F l,()); .obl (St.mk 19 [(0,V.c (C.sl It l)),(1,V.c (C.fn 185 [])),(7,V.c (C.int .i64 z1)),(8,V.c (C.int .i64 0))] [(0,Ob.amb)] 1 =
  St.mk 19 [(0,V.c (C.sl It l)),(1,V.c (C.fn 185 [])),(7,V.c (C.int .i64 z1)),(8,V.c (C.int .i64 0))] [(0,Ob.amb)] 1) (.obl (I (185,l,()) (0,())) (.all
  (Int × Unit) fun (v1:Int × Unit) =>
 let z3:=v1.1;
 let z4:=L.ar .add .i64 z3 1;
 let z5:=(L.ar .add .i64 z3 1,()); .imp (I (185,l,()) v1) (.br (L.cmp .lss z3 z1) (.obl (L.inR z3 (L.llen It l)) (.obl True (.br
  (BxF.isNum F (L.get It l (L.toN z3))) (.ok (St.mk 19 [(0,V.c (C.sl It l)),(1,V.c (C.fn 185 [])),(7,V.c (C.int .i64 z1)),(8,V.c (C.int .i64 z4))] [(0,
  Ob.amb)] 1 = St.mk 19 [(0,V.c (C.sl It l)),(1,V.c (C.fn 185 [])),(7,V.c (C.int .i64 z1)),(8,V.c (C.int .i64 z4))] [(0,Ob.amb)] 1∧I (185,l,()) z5∧mu
  (185,l,()) z5 < mu (185,l,()) v1)) (.br (L.cmp .geq z3 0) (.ok ((false,()) = z2)) (.ok ((true,()) = z2)))))) (.br (L.cmp .geq (Int.negSucc 0) 0)
  (.ok ((false,()) = z2)) (.ok ((true,()) = z2))))))
theorem n87_go (L:Lv) (F:BxF) (I:Int × List Int × Unit→Ds [It]→Prop) (mu:Int × List Int × Unit→Ds [It]→Nat) (l:List Int) (h:VC.holds (n87 L F I mu l)):Holds (vcO L F (o87 L I mu) [152,125,185,180] 5 (D87 a0) (S87 F) (l,())):=Holds.of_eq (by kernel_rfl) h
def n38 (L:Lv) (F:BxF) (I1:Int × List InD × Unit→Ds [It]→Prop) (mu1:Int × List InD × Unit→Ds [It]→Nat) (I2:Int × List (List InD) × Unit→Ds [It]→Prop) (mu2:Int × List (List InD) × Unit→Ds [It]→Nat) (p:WkD)  : VC :=
 let z1:=p.1;
 let z2:=L.cast (L.llen It z1);
 let z3:=(BxF.check F p,());
 let z4:=p.2;
 let z5:=z4.1;
 let z6:=L.llen (Ty.sl In) z5;
 let z7:=L.cast z6;
 let z8:=z4.2;
 let z9:=Int × Unit;
 let z10:=BxF.within F z8 1 8;
 let z11:=BxF.bl F z1;
 let z12:=BxF.nums F z1;
 let z13:=L.cmp .eql z2 0;
 let z14:=L.cmp .eql z7 0;
 let z15:=L.cmp .geq (Int.negSucc 0) 0; .br (L.cmp .gtr z2 64) (.ok ((5,()) = z3)) (.br (L.cmp .gtr z7 4) (.ok ((5,()) = z3)) (.obl (St.mk 19
  [(0,V.c (C.sl (Ty.sl In) z5)),(1,V.c (C.fn 154 [])),(7,V.c (C.int .i64 z7)),(8,V.c (C.int .i64 0))] [(0,Ob.amb),(1,Ob.box 50 [C.sl It z1,C.sl (Ty.sl In)
  z5,C.int .i64 z8])] 2 = St.mk 19 [(0,V.c (C.sl (Ty.sl In) z5)),(1,V.c (C.fn 154 [])),(7,V.c (C.int .i64 z7)),(8,V.c (C.int .i64 0))] [(0,Ob.amb),(1,
  Ob.box 50 [C.sl It z1,C.sl (Ty.sl In) z5,C.int .i64 z8])] 2) (.obl (I2 (154,z4.1,()) (0,())) (.all z9 fun (v1:Int × Unit) =>
 let z16:=v1.1;
 let z17:=L.ar .add .i64 z16 1;
 let z18:=(L.ar .add .i64 z16 1,()); .imp (I2 (154,z4.1,()) v1) (.br (L.cmp .lss z16 z7) (.obl (L.inR z16 z6) (.br (L.cmp .gtr
  (L.cast (L.llen In (L.get (Ty.sl In) z5 (L.toN z16)))) 200) (.br (L.cmp .geq z16 0) (.ok ((5,()) = z3)) (.obl True (.br z10 (.obl z11 (.br z12
  (.br z13 (.ok ((4,()) = z3)) (.br z14 (.ok ((4,()) = z3)) (.obl (St.mk 19 [(0,V.c (C.sl (Ty.sl In) z5)),(1,V.c (C.fn 155 [])),(7,V.c (C.int .i64 z7)),(8,
  V.c (C.int .i64 0))] [(0,Ob.amb),(1,Ob.box 50 [C.sl It z1,C.sl (Ty.sl In) z5,C.int .i64 z8])] 2 = St.mk 19 [(0,V.c (C.sl (Ty.sl In) z5)),(1,V.c (C.fn 155
  [])),(7,V.c (C.int .i64 z7)),(8,V.c (C.int .i64 0))] [(0,Ob.amb),(1,Ob.box 50 [C.sl It z1,C.sl (Ty.sl In) z5,C.int .i64 z8])] 2) (.obl (I2 (155,
  Prod.fst z4,()) (0,())) (.all z9 fun (v2:Int × Unit) =>
 let z19:=v2.1;
 let z20:=L.toN z19;
 let z21:=L.get (Ty.sl In) z5 z20;
 let z22:=L.llen In z21;
 let z23:=L.cast z22;
 let z24:=L.cmp .geq z19 0;
 let z25:=L.ar .add .i64 z19 1;
 let z26:=(L.ar .add .i64 z19 1,()); .imp (I2 (155,z4.1,()) v2) (.br (L.cmp .lss z19 z7) (.obl (L.inR z19 z6) (.obl (St.mk 19 [(0,V.c
  (C.sl In z21)),(1,V.c (C.fn 157 [2])),(7,V.c (C.int .i64 z23)),(8,V.c (C.int .i64 0))] [(0,Ob.amb),(1,Ob.box 50 [C.sl It z1,C.sl (Ty.sl In) z5,C.int
  .i64 z8]),(2,Ob.box 36 [C.sl In z21])] 3 = St.mk 19 [(0,V.c (C.sl In z21)),(1,V.c (C.fn 157 [2])),(7,V.c (C.int .i64 z23)),(8,V.c (C.int .i64 0))]
  [(0,Ob.amb),(1,Ob.box 50 [C.sl It z1,C.sl (Ty.sl In) z5,C.int .i64 z8]),(2,Ob.box 36 [C.sl In z21])] 3) (.obl (I1 (157,L.get (Ty.sl In) z5 z20,()) (0,()))
  (.all z9 fun (v3:Int × Unit) =>
 let z27:=v3.1;
 let z28:=L.get In z21 (L.toN z27);
 let z29:=z28.2;
 let z30:=z29.2;
 let z31:=z30.2;
 let z32:=z31.2;
 let z33:=L.ar .add .i64 z27 1;
 let z34:=(L.ar .add .i64 z27 1,()); .imp (I1 (157,L.get (Ty.sl In) z5 z20,()) v3) (.br (L.cmp .lss z27 z23) (.obl (L.inR z27 z22) (.obl
  True (.br (BxF.isIns F (Prod.fst z28,z29.1,z30.1,z31.1,z32.1,z32.2) z23) (.ok (St.mk 19 [(0,V.c (C.sl In z21)),(1,V.c (C.fn 157
  [2])),(7,V.c (C.int .i64 z23)),(8,V.c (C.int .i64 z33))] [(0,Ob.amb),(1,Ob.box 50 [C.sl It z1,C.sl (Ty.sl In) z5,C.int .i64 z8]),(2,Ob.box 36
  [C.sl In z21])] 3 = St.mk 19 [(0,V.c (C.sl In z21)),(1,V.c (C.fn 157 [2])),(7,V.c (C.int .i64 z23)),(8,V.c (C.int .i64 z33))] [(0,Ob.amb),(1,Ob.box 50
  [C.sl It z1,C.sl (Ty.sl In) z5,C.int .i64 z8]),(2,Ob.box 36 [C.sl In z21])] 3∧I1 (157,L.get (Ty.sl In) z5 z20,()) z34∧mu1 (157,L.get (Ty.sl In) z5 z20,())
  z34 < mu1 (157,L.get (Ty.sl In) z5 z20,()) v3)) (.br (L.cmp .geq z27 0) (.br z24 (.ok ((4,()) = z3)) (.ok ((0,()) = z3))) (.ok (St.mk 19 [(0,V.c (C.sl
  (Ty.sl In) z5)),(1,V.c (C.fn 155 [])),(7,V.c (C.int .i64 z7)),(8,V.c (C.int .i64 z25))] [(0,Ob.amb),(1,Ob.box 50 [C.sl It z1,C.sl (Ty.sl In) z5,C.int
  .i64 z8])] 2 = St.mk 19 [(0,V.c (C.sl (Ty.sl In) z5)),(1,V.c (C.fn 155 [])),(7,V.c (C.int .i64 z7)),(8,V.c (C.int .i64 z25))] [(0,Ob.amb),(1,Ob.box
  50 [C.sl It z1,C.sl (Ty.sl In) z5,C.int .i64 z8])] 2∧I2 (155,z4.1,()) z26∧mu2 (155,z4.1,()) z26 < mu2 (155,z4.1,()) v2)))))) (.br z15
  (.br z24 (.ok ((4,()) = z3)) (.ok ((0,()) = z3))) (.ok (St.mk 19 [(0,V.c (C.sl (Ty.sl In) z5)),(1,V.c (C.fn 155 [])),(7,V.c (C.int .i64 z7)),(8,V.c (C.int
  .i64 z25))] [(0,Ob.amb),(1,Ob.box 50 [C.sl It z1,C.sl (Ty.sl In) z5,C.int .i64 z8])] 2 = St.mk 19 [(0,V.c (C.sl (Ty.sl In) z5)),(1,V.c (C.fn 155 [])),(7,
  V.c (C.int .i64 z7)),(8,V.c (C.int .i64 z25))] [(0,Ob.amb),(1,Ob.box 50 [C.sl It z1,C.sl (Ty.sl In) z5,C.int .i64 z8])] 2∧I2 (155,z4.1,())
  z26∧mu2 (155,z4.1,()) z26 < mu2 (155,z4.1,()) v2)))))))) (.br z15 (.ok ((4,()) = z3)) (.ok ((0,()) = z3))))))))) (.ok ((3,()) = z3)))) (.ok ((3,
  ()) = z3))))) (.ok (St.mk 19 [(0,V.c (C.sl (Ty.sl In) z5)),(1,V.c (C.fn 154 [])),(7,V.c (C.int .i64 z7)),(8,V.c (C.int .i64 z17))] [(0,Ob.amb),(1,Ob.box
  50 [C.sl It z1,C.sl (Ty.sl In) z5,C.int .i64 z8])] 2 = St.mk 19 [(0,V.c (C.sl (Ty.sl In) z5)),(1,V.c (C.fn 154 [])),(7,V.c (C.int .i64 z7)),(8,V.c (C.int
  .i64 z17))] [(0,Ob.amb),(1,Ob.box 50 [C.sl It z1,C.sl (Ty.sl In) z5,C.int .i64 z8])] 2∧I2 (154,z4.1,()) z18∧mu2 (154,z4.1,()) z18 < mu2
  (154,z4.1,()) v1)))) (.br z15 (.ok ((5,()) = z3)) (.obl True (.br z10 (.obl z11 (.br z12 (.br z13 (.ok ((4,()) = z3)) (.br z14 (.ok ((4,()) = z3))
  (.obl (St.mk 19 [(0,V.c (C.sl (Ty.sl In) z5)),(1,V.c (C.fn 155 [])),(7,V.c (C.int .i64 z7)),(8,V.c (C.int .i64 0))] [(0,Ob.amb),(1,Ob.box 50 [C.sl It z1,
  C.sl (Ty.sl In) z5,C.int .i64 z8])] 2 = St.mk 19 [(0,V.c (C.sl (Ty.sl In) z5)),(1,V.c (C.fn 155 [])),(7,V.c (C.int .i64 z7)),(8,V.c (C.int .i64 0))]
  [(0,Ob.amb),(1,Ob.box 50 [C.sl It z1,C.sl (Ty.sl In) z5,C.int .i64 z8])] 2) (.obl (I2 (155,z4.1,()) (0,())) (.all z9 fun (v4:Int × Unit) =>
 let z35:=v4.1;
 let z36:=L.toN z35;
 let z37:=L.get (Ty.sl In) z5 z36;
 let z38:=L.llen In z37;
 let z39:=L.cast z38;
 let z40:=L.cmp .geq z35 0;
 let z41:=L.ar .add .i64 z35 1;
 let z42:=(L.ar .add .i64 z35 1,()); .imp (I2 (155,z4.1,()) v4) (.br (L.cmp .lss z35 z7) (.obl (L.inR z35 z6) (.obl (St.mk 19 [(0,V.c
  (C.sl In z37)),(1,V.c (C.fn 157 [2])),(7,V.c (C.int .i64 z39)),(8,V.c (C.int .i64 0))] [(0,Ob.amb),(1,Ob.box 50 [C.sl It z1,C.sl (Ty.sl In) z5,C.int
  .i64 z8]),(2,Ob.box 36 [C.sl In z37])] 3 = St.mk 19 [(0,V.c (C.sl In z37)),(1,V.c (C.fn 157 [2])),(7,V.c (C.int .i64 z39)),(8,V.c (C.int .i64 0))]
  [(0,Ob.amb),(1,Ob.box 50 [C.sl It z1,C.sl (Ty.sl In) z5,C.int .i64 z8]),(2,Ob.box 36 [C.sl In z37])] 3) (.obl (I1 (157,L.get (Ty.sl In) z5 z36,()) (0,()))
  (.all z9 fun (v5:Int × Unit) =>
 let z43:=v5.1;
 let z44:=L.get In z37 (L.toN z43);
 let z45:=z44.2;
 let z46:=z45.2;
 let z47:=z46.2;
 let z48:=z47.2;
 let z49:=L.ar .add .i64 z43 1;
 let z50:=(L.ar .add .i64 z43 1,()); .imp (I1 (157,L.get (Ty.sl In) z5 z36,()) v5) (.br (L.cmp .lss z43 z39) (.obl (L.inR z43 z38) (.obl
  True (.br (BxF.isIns F (Prod.fst z44,z45.1,z46.1,z47.1,z48.1,z48.2) z39) (.ok (St.mk 19 [(0,V.c (C.sl In z37)),(1,V.c (C.fn 157
  [2])),(7,V.c (C.int .i64 z39)),(8,V.c (C.int .i64 z49))] [(0,Ob.amb),(1,Ob.box 50 [C.sl It z1,C.sl (Ty.sl In) z5,C.int .i64 z8]),(2,Ob.box 36
  [C.sl In z37])] 3 = St.mk 19 [(0,V.c (C.sl In z37)),(1,V.c (C.fn 157 [2])),(7,V.c (C.int .i64 z39)),(8,V.c (C.int .i64 z49))] [(0,Ob.amb),(1,Ob.box 50
  [C.sl It z1,C.sl (Ty.sl In) z5,C.int .i64 z8]),(2,Ob.box 36 [C.sl In z37])] 3∧I1 (157,L.get (Ty.sl In) z5 z36,()) z50∧mu1 (157,L.get (Ty.sl In) z5 z36,())
  z50 < mu1 (157,L.get (Ty.sl In) z5 z36,()) v5)) (.br (L.cmp .geq z43 0) (.br z40 (.ok ((4,()) = z3)) (.ok ((0,()) = z3))) (.ok (St.mk 19 [(0,V.c (C.sl
  (Ty.sl In) z5)),(1,V.c (C.fn 155 [])),(7,V.c (C.int .i64 z7)),(8,V.c (C.int .i64 z41))] [(0,Ob.amb),(1,Ob.box 50 [C.sl It z1,C.sl (Ty.sl In) z5,C.int
  .i64 z8])] 2 = St.mk 19 [(0,V.c (C.sl (Ty.sl In) z5)),(1,V.c (C.fn 155 [])),(7,V.c (C.int .i64 z7)),(8,V.c (C.int .i64 z41))] [(0,Ob.amb),(1,Ob.box
  50 [C.sl It z1,C.sl (Ty.sl In) z5,C.int .i64 z8])] 2∧I2 (155,z4.1,()) z42∧mu2 (155,z4.1,()) z42 < mu2 (155,z4.1,()) v4)))))) (.br z15
  (.br z40 (.ok ((4,()) = z3)) (.ok ((0,()) = z3))) (.ok (St.mk 19 [(0,V.c (C.sl (Ty.sl In) z5)),(1,V.c (C.fn 155 [])),(7,V.c (C.int .i64 z7)),(8,V.c (C.int
  .i64 z41))] [(0,Ob.amb),(1,Ob.box 50 [C.sl It z1,C.sl (Ty.sl In) z5,C.int .i64 z8])] 2 = St.mk 19 [(0,V.c (C.sl (Ty.sl In) z5)),(1,V.c (C.fn 155 [])),(7,
  V.c (C.int .i64 z7)),(8,V.c (C.int .i64 z41))] [(0,Ob.amb),(1,Ob.box 50 [C.sl It z1,C.sl (Ty.sl In) z5,C.int .i64 z8])] 2∧I2 (155,z4.1,())
  z42∧mu2 (155,z4.1,()) z42 < mu2 (155,z4.1,()) v4)))))))) (.br z15 (.ok ((4,()) = z3)) (.ok ((0,()) = z3))))))))) (.ok ((3,()) = z3)))) (.ok ((3,
  ()) = z3))))))))))
theorem n38_go (L:Lv) (F:BxF) (I1:Int × List InD × Unit→Ds [It]→Prop) (mu1:Int × List InD × Unit→Ds [It]→Nat) (I2:Int × List (List InD) × Unit→Ds [It]→Prop) (mu2:Int × List (List InD) × Unit→Ds [It]→Nat) (p:WkD) (h:VC.holds (n38 L F I1 mu1 I2 mu2 p)):Holds (vcO L F (o38 L I1 mu1 I2 mu2) [154,155,156,157,158,159,151,149,187,189] 9 (D38 a0) (S22 F) (p,())):=Holds.of_eq (by kernel_rfl) h
theorem ok87 (F:BxF) (h:F.nums = numsF) (h1:F.isNum = isNumF) (hp:F.bl = bL) (k1:SpecOk prog 152 (S92 F)):SpecOk prog 149 (S87 F):=by
 refine Zc hm hE D87 fnok87 _ fun (z:List Int × Unit) hpre=>?_
 obtain ⟨l,⟨⟩⟩:=z
 have hpre':F.bl l:=hpre
 rw [hp] at hpre'
 have g:l.length≤1000000:=hpre'
 let I:Int × List Int × Unit→Int × Unit→Prop:=fun _ x=>0≤x.1∧x.1≤l.length∧(l.drop x.1.toNat).all isNumF = numsF l
 let mu:Int × List Int × Unit→Int × Unit→Nat:=fun _ x=>(l.length - x.1).toNat
 refine Yp _ 5 a0 (Zs (T:=tabO (o87 Lv.std I mu) (cT F)) (l:=[152,125,185,180]) (Za (Yh k1 (by kernel_rfl)) (Za (Yy (fnok96 a0) (by kernel_rfl)) (Za (Yy (fnok122 a0) (by kernel_rfl)) (Za (Yy (fnok125 (aIx Lv.std It I mu)) (by kernel_rfl)) Z4))))) ?_
 refine n87_go Lv.std F I mu l ?_
 simp only [n87,VC.holds,ZJ,ZO,Zb,Zh,Zm,Yj,Ym,Z5,ZM,Yl,Yk,Yf,ZX,ZY,ZT,ZR,Ye,ZN,Zz,ZD,Zr,Z1,ZS,Z2,ZK,ZW,Yb,ZV,ZP,ZQ,Zt,ZH,Ya,Z3,ZI,Yd,Yc,Z6,Z7,Zg,ZC,ZL,ZU,Z8,Z9,Zd,Ze,ZA,ZB,Zu,Zv,Zx,Zy,Zk,Zl,Zp,Zq,Zi,Zj,Zn,Zo,ZG,ZF,ZZ,Yg,ZE,h,h1,Prod.mk.injEq,and_true,true_and]
 refine ⟨⟨Int.le_refl 0,by show (0:Int)≤l.length; omega,rfl⟩,?_⟩
 rintro ⟨x,⟨⟩⟩ ⟨i1,i2,i3⟩
 simp only at i1 i2 i3 ⊢
 obtain ⟨k,rfl⟩:=Yq i1
 rw [Int.toNat_natCast] at i3
 refine ⟨fun hlt=>⟨⟨i1,hlt⟩,fun hn=>?_,fun hn=>⟨fun _=>?_,fun hc=>by omega⟩⟩,fun hge=>⟨fun hc=>(by cases hc),fun _=>?_⟩⟩
 ·rw [wr hlt g]
  rw [YF isNumF l k 0 (by omega),Int.toNat_natCast] at *
  rw [hn,Bool.true_and] at i3
  exact ⟨⟨by show (0:Int)≤((k + 1:Nat):Int); omega,by show ((k + 1:Nat):Int)≤l.length; omega,by show (l.drop ((k + 1:Nat):Int).toNat).all isNumF = _; rw [Int.toNat_natCast]; exact i3⟩,by show ((l.length:Int) - ((k + 1:Nat):Int)).toNat < ((l.length:Int) - k).toNat; omega⟩
 ·rw [YF isNumF l k 0 (by omega)] at i3
  rw [Int.toNat_natCast] at hn
  rw [hn,Bool.false_and] at i3
  exact i3
 ·rw [show k = l.length by omega,List.drop_length] at i3
  exact i3
theorem ok38 (F:BxF) (h:F.check = checkF) (h1:F.nums = numsF) (h2:F.within = withinF) (h3:F.isIns = insOkF) (hp:F.bw = bW) (q1:F.bl = bL) (k1:SpecOk prog 158 (S84 F)) (k2:SpecOk prog 151 (S86 F)) (k3:SpecOk prog 149 (S87 F)):SpecOk prog 98 (S22 F):=by
 refine Zc hm hE D38 fnok38 _ fun (z:WkD × Unit) hpre=>?_
 obtain ⟨p,⟨⟩⟩:=z
 have hpre':F.bw p:=hpre
 rw [hp] at hpre'
 obtain ⟨g1,g2,g3⟩:=hpre'
 let I1:Int × List InD × Unit→Int × Unit→Prop:=fun e=>Iv e.2.1.length fun k=>(e.2.1.drop k).all (fun i=>insOkF i e.2.1.length) = listOk e.2.1
 let mu1:Int × List InD × Unit→Int × Unit→Nat:=fun e=>Mu e.2.1.length
 let I2:Int × List (List InD) × Unit→Int × Unit→Prop:=fun e=>Iv p.2.1.length fun k=>if e.1 = 154 then (p.2.1.drop k).any longL = p.2.1.any longL else (p.2.1.drop k).all listOk = p.2.1.all listOk
 let mu2:Int × List (List InD) × Unit→Int × Unit→Nat:=fun e=>Mu p.2.1.length
 refine Yp _ 9 a0 (Zs (T:=tabO (o38 Lv.std I1 mu1 I2 mu2) (cT F)) (l:=[154,155,156,157,158,159,151,149,187,189])
  (Za (Yy (fnok80 a0) (by kernel_rfl)) (Za (Yy (fnok81 a0) (by kernel_rfl)) (Za (Yy (fnok82 a0) (by kernel_rfl)) (Za (Yy (fnok83 a0) (by kernel_rfl)) (Za (Yh k1 (by kernel_rfl)) (Za (Yy (fnok85 a0) (by kernel_rfl)) (Za (Yh k2 (by kernel_rfl)) (Za (Yh k3 (by kernel_rfl)) (Za (Yy (fnok119 (aIx Lv.std In I1 mu1)) (by kernel_rfl)) (Za (Yy (fnok121 (aIx Lv.std (.sl In) I2 mu2)) (by kernel_rfl)) Z4))))))))))) ?_
 refine n38_go Lv.std F I1 mu1 I2 mu2 p ?_
 have eI:∀ (l:List (List InD)) (k:Int),Lv.std.get (.sl In) l k.toNat = (l[k.toNat]?).getD []:=fun _ _=>rfl
 have eJ:∀ (l:List InD) (k:Int),Lv.std.get In l k.toNat = insIn l k:=fun _ _=>rfl
 have ms:∀ k,k < p.2.1.length→((p.2.1[k]?).getD []).length≤1000000:=fun k hk=>by rw [List.getElem?_eq_getElem hk]; exact g3 _ (List.getElem_mem hk)
 have neg1:(Int.negSucc 0:Int) = -1:=rfl
 simp only [n38,VC.holds,ZJ,Zt,Zr,ZH,eI,eJ,ZI,Zb,Zd,Ze,Zu,Zv,Zx,Zy,Zk,Zl,neg1,h,h1,h2,h3,q1,Prod.mk.injEq,and_true,true_and]
 refine ⟨fun c1=>(ck5a p (.inl (by omega))).symm,fun c1=>⟨fun c2=>(ck5a p (.inr (by omega))).symm,fun c2=>⟨Iv.zero (by simp),fun x hx=>?_⟩⟩⟩
 have n1:¬ (64 < p.1.length∨4 < p.2.1.length):=by omega
 obtain ⟨k,rfl,hk,i3⟩:=Iv.elim hx
 simp only [if_true,Int.toNat_natCast] at i3 ⊢
 refine ⟨fun hlt=>⟨⟨by omega,hlt⟩,fun hl=>⟨fun _=>?_,fun hc=>by omega⟩,fun hl=>?_⟩,fun hge=>⟨fun hc=>by omega,fun _=>?_⟩⟩
 ·rw [any_drop longL _ k [] (by omega),show longL ((p.2.1[k]?).getD []) = true from decide_eq_true hl,Bool.true_or] at i3
  exact (ck5b p n1 i3.symm).symm
 ·rw [any_drop longL _ k [] (by omega),show longL ((p.2.1[k]?).getD []) = false from decide_eq_false (by omega),Bool.false_or] at i3
  rw [wr hlt g2]
  exact ⟨Iv.mk (by omega) (by rw [if_pos rfl]; exact i3),Mu.lt (by omega)⟩
 ·rw [show k = p.2.1.length by omega,List.drop_length] at i3
  have n2:p.2.1.any longL = false:=i3.symm
  refine ⟨fun hw=>⟨g1,fun hn=>⟨fun hz=>(ck4a p n1 n2 hw hn (.inl (by omega))).symm,fun hz=>⟨fun hy=>(ck4a p n1 n2 hw hn (.inr (by omega))).symm,fun hy=>⟨Iv.zero (by simp),fun x hx=>?_⟩⟩⟩,fun hn=>(ck3 p n1 n2 (.inr hn)).symm⟩,fun hw=>(ck3 p n1 n2 (.inl hw)).symm⟩
  have hz':¬ (p.1.length = 0∨p.2.1.length = 0):=by omega
  obtain ⟨k,rfl,hk,j3⟩:=Iv.elim hx
  rw [if_neg (show ¬ ((155:Int) = 154) by decide)] at j3
  simp only [Int.toNat_natCast]
  refine ⟨fun hlt=>⟨⟨by omega,hlt⟩,Iv.zero rfl,fun y hy'=>?_⟩,fun hge=>⟨fun hc=>by omega,fun _=>?_⟩⟩
  ·have hk':k < p.2.1.length:=by omega
   obtain ⟨j,rfl,hj,m3⟩:=Iv.elim hy'
   simp only [Int.toNat_natCast] at hj m3 ⊢
   refine ⟨fun hlt2=>⟨⟨by omega,hlt2⟩,fun hi=>?_,fun hi=>⟨fun _=>⟨fun _=>?_,fun hc=>by omega⟩,fun hc=>by omega⟩⟩,fun hge2=>⟨fun hc=>by omega,fun _=>?_⟩⟩
   ·rw [wr hlt2 (ms k hk')]
    rw [YF _ _ j (0,0,0,0,0,0) (by omega)] at m3
    have hi':insOkF (insIn ((p.2.1[k]?).getD []) j) (((p.2.1[k]?).getD []).length:Int) = true:=hi
    rw [show insOkF ((((p.2.1[k]?).getD [])[j]?).getD (0,0,0,0,0,0)) (((p.2.1[k]?).getD []).length:Int) = true from hi',Bool.true_and] at m3
    exact ⟨Iv.mk (by show j + 1≤((p.2.1[k]?).getD []).length; omega) m3,Mu.lt (by show j < ((p.2.1[k]?).getD []).length; omega)⟩
   ·rw [YF _ _ j (0,0,0,0,0,0) (by omega)] at m3
    have hi':insOkF (insIn ((p.2.1[k]?).getD []) j) (((p.2.1[k]?).getD []).length:Int) = false:=hi
    rw [show insOkF ((((p.2.1[k]?).getD [])[j]?).getD (0,0,0,0,0,0)) (((p.2.1[k]?).getD []).length:Int) = false from hi',Bool.false_and] at m3
    rw [YF listOk _ k [] hk',show listOk ((p.2.1[k]?).getD []) = false from m3.symm,Bool.false_and] at j3
    exact (ck4b p n1 n2 hw hn hz' j3.symm).symm
   ·rw [wr hlt g2]
    rw [show j = ((p.2.1[k]?).getD []).length by omega,List.drop_length] at m3
    rw [YF listOk _ k [] hk',show listOk ((p.2.1[k]?).getD []) = true from m3.symm,Bool.true_and] at j3
    exact ⟨Iv.mk (by omega) (by rw [if_neg (show ¬ ((155:Int) = 154) by decide)]; exact j3),Mu.lt (by omega)⟩
  ·rw [show k = p.2.1.length by omega,List.drop_length] at j3
   exact (ck0 p n1 n2 hw hn hz' j3.symm).symm
end Go.Proofs.Tryz
namespace Go.Proofs.Tryz
open Go Go.VM
def tO (L:Lv) (s:StD) (v:MvD):ThD:=Lv.get L Th (Prod.snd s) (Lv.toN L (Prod.fst v))
def iO (L:Lv) (m:McD) (s:StD) (v:MvD):InD:=Lv.get L In (Lv.get L (.sl In) (Prod.fst (Prod.snd (Prod.fst m))) (Lv.toN L (Prod.fst v))) (Lv.toN L (Prod.fst (tO L s v)))
def p1 {α β:Type} (x:α × β):α:=x.1
def p2 {α β:Type} (x:α × β):β:=x.2
def n99 (L:Lv) (F:BxF) (m:McD) (s:StD) (v:MvD)  : VC :=
 let z1:=BxF.pLi F (p1 s);
 let z2:=BxF.pLt F (p2 s);
 let z3:=L.llen Th (p2 s);
 let z4:=L.inR (p1 v) z3;
 let z5:=L.toN (p1 v);
 let z6:=L.ltN z5 z3;
 let z7:=p1 (p2 (tO L s v));
 let z8:=BxF.pLi F z7;
 let z9:=p2 (p2 (tO L s v));
 let z10:=p1 z9;
 let z11:=BxF.pLk F z10;
 let z12:=p2 z9;
 let z13:=p1 z12;
 let z14:=BxF.pLi F z13;
 let z15:=(L.toN (p1 v) = L.toN (p1 v));
 let z16:=L.llen Kp z10;
 let z17:=L.inR 0 z16;
 let z18:=L.ltN (L.toN 0) z16;
 let z19:=L.get Kp z10 (L.toN 0);
 let z20:=p1 z19;
 let z21:=L.llen It (p1 s);
 let z22:=L.toN z20;
 let z23:=L.cast z16;
 let z24:=L.llen It z7;
 let z25:=L.llen It z13;
 let z26:=(BxF.doo F m s v,());
 let z27:=p1 (tO L s v);
 let z28:=iO L m s v;
 let z29:=p1 z28;
 let z30:=p2 z28;
 let z31:=p2 z30;
 let z32:=p2 z31;
 let z33:=p2 z32;
 let z34:=(L.take It (p1 s) z21,L.take Th (L.setl Th (p2 s) z5 (p2 z33,L.take It z7 z24,L.take Kp z10 z16,L.take It z13 z25,p2 z12)) z3);
 let z35:=p1 z30;
 let z36:=L.inR z35 z24;
 let z37:=L.toN z35;
 let z38:=L.ltN z37 z24;
 let z39:=L.get It z7 z37;
 let z40:=(L.setl Th (p2 s) z5 (L.ar .add .i64 z27 1,L.take It z7 z24,L.take Kp z10 z16,L.take It z13 z25,p2 z12));
 let z41:=(L.take It (p1 s) z21,L.take Th z40 z3);
 let z42:=L.take It z13 z25;
 let z43:=L.take It [L.get It z7 z37] 1;
 let z44:=L.add (L.llen It z42) (L.llen It z43);
 let z45:=(L.take It (p1 s) z21,L.take Th (L.setl Th (p2 s) z5 (p1 (tO L s v),L.take It z7 z24,L.take Kp z10 z16,L.take It z13 z25,true)) z3);
 let z46:=L.cmp .eql z29 8;
 let z47:=(p1 (tO L s v),L.take It z7 z24,L.take Kp z10 z16,L.take It z13 z25,p2 z12);
 let z48:=(L.take It (p1 s) z21,L.take Th (L.setl Th (p2 s) z5 z47) z3);
 let z49:=(p1 z28,p1 z30,p1 z31,p1 z32,p1 z33,p2 z33);
 let z50:=BxF.pPlace F z48 z47 z49;
 let z51:=BxF.place F z48 z47 z49;
 let z52:=p2 z51;
 let z53:=p1 z51;
 let z54:=BxF.pSees F z48 z47 z53;
 let z55:=(L.take It (p1 s) z21,L.take Th (L.setl Th (p2 s) z5 (L.ar .add .i64 z27 1,L.take It (L.setl It z7 z37 (BxF.sees F z48 z47 z53)) z24,
  L.take Kp z10 z16,L.take It z13 z25,p2 z12)) z3);
 let z56:=L.cmp .eql z29 9;
 let z57:=L.inR z53 z21;
 let z58:=L.toN z53;
 let z59:=L.ltN z58 z21;
 let z60:=(L.take It (L.setl It (p1 s) z58 z39) z21,L.take Th z40 z3);
 let z61:=L.take Kp z10 z16;
 let z62:=(L.take Kp [(p1 z51,L.get It z7 z37)] 1);
 let z63:=L.add (L.llen Kp z61) (L.llen Kp z62);
 let z64:=L.room z63 16;
 let z65:=(L.take It (p1 s) z21,L.take Th (L.setl Th (p2 s) z5 (L.ar .add .i64 z27 1,L.take It z7 z24,L.take Kp (L.app Kp z61 z62) z63,Lv.take
  L It z13 z25,p2 z12)) z3);
 let z66:=L.cmp .eql z29 10;
 let z67:=p1 z32;
 let z68:=L.inR z67 z24;
 let z69:=L.toN z67;
 let z70:=L.ltN z69 z24;
 let z71:=L.cmp .eql (L.get It (p1 s) z58) (L.get It z7 z69);
 let z72:=p1 z33;
 let z73:=L.inR z72 z24;
 let z74:=L.toN z72;
 let z75:=L.ltN z74 z24;
 let z76:=(L.take It (L.setl It (p1 s) z58 (L.get It z7 z74)) z21,L.take Th (L.setl Th (p2 s) z5 (L.ar .add .i64 z27 1,L.take It (L.setl It
  z7 z37 (BxF.truth F true)) z24,L.take Kp z10 z16,L.take It z13 z25,p2 z12)) z3);
 let z77:=(L.take It (p1 s) z21,L.take Th (L.setl Th (p2 s) z5 (L.ar .add .i64 z27 1,L.take It (L.setl It z7 z37 (BxF.truth F false)) z24,Lv.take
  L Kp z10 z16,L.take It z13 z25,p2 z12)) z3);
 let z78:=L.cmp .eql z29 12;
 let z79:=L.take It z7 z24;
 let z80:=BxF.pRegs F z79 z49;
 let z81:=BxF.worked F z79 z49;
 let z82:=p2 z81;
 let z83:=(L.take It (p1 s) z21,L.take Th (L.setl Th (p2 s) z5 (L.ar .add .i64 z27 1,L.take It (L.setl It z7 z37 (p1 z81)) z24,L.take Kp z10
  z16,L.take It z13 z25,p2 z12)) z3); .obl z1 (.obl z2 (.obl z4 (.obl z6 (.obl z8 (.obl z6 (.obl z11 (.obl z6 (.obl z14 (.obl z6 (.obl z15 (.obl z15
  (.obl z4 (.br (p2 v) (.obl z15 (.obl z17 (.obl z18 (.obl z15 (.obl z17 (.obl z18 (.obl (L.inR z20 z21) (.obl (L.ltN z22 z21) (.obl z15 (.obl (Lv.le3
  L 1 z23 z16) (.obl z15 (.ok (((L.take It (L.setl It (p1 s) z22 (p2 z19)) z21,L.take Th (L.setl Th (p2 s) z5 (p1 (tO L s v),L.take It z7 z24,L.drop Kp
  (L.take Kp z10 (L.toN z23)) (L.toN 1),L.take It z13 z25,p2 z12)) z3),()) = z26))))))))))))) (.obl (L.inR (p1 v) (L.llen (Ty.sl In) (p1 (p2 (p1 m)))))
  (.obl z15 (.obl (L.inR z27 (L.llen In (L.get (Ty.sl In) (p1 (p2 (p1 m))) z5))) (.obl z15 (.br (L.cmp .eql z29 13) (.obl z15 (.ok ((z34,()) = z26)))
  (.br (L.cmp .eql z29 14) (.obl z15 (.obl z36 (.obl z38 (.br (L.cmp .eql z39 0) (.obl z15 (.ok ((z34,()) = z26))) (.obl z15 (.ok ((z41,()) =
  z26))))))) (.br (L.cmp .eql z29 15) (.obl z15 (.obl z15 (.obl z36 (.obl z38 (.obl (L.room z44 8) (.obl z15 (.obl z15 (.br (L.cmp .leq
  (L.cast z44) 20) (.obl z15 (.ok (((L.take It (p1 s) z21,L.take Th (L.setl Th (p2 s) z5 (L.ar .add .i64 z27 1,L.take It z7 z24,L.take Kp
  z10 z16,L.take It (L.app It z42 z43) z44,p2 z12)) z3),()) = z26))) (.obl z1 (.obl z2 (.obl z4 (.obl z6 (.obl z8 (.obl z6 (.obl z11 (.obl z6 (.obl z14
  (.obl z6 (.obl z15 (.obl z15 (.obl z4 (.obl z15 (.ok ((z45,()) = z26)))))))))))))))))))))))) (.br z46 (.obl z15 (.obl z50 (.br z52 (.br z46 (.obl z15
  (.obl z15 (.obl z54 (.obl z36 (.obl z38 (.obl z15 (.ok ((z55,()) = z26)))))))) (.br z56 (.br (p2 m) (.obl z15 (.obl z36 (.obl z38 (.obl z57 (.obl z59
  (.obl z15 (.ok ((z60,()) = z26)))))))) (.obl z15 (.obl z15 (.obl z36 (.obl z38 (.obl z64 (.obl z15 (.obl z15 (.ok ((z65,()) = z26)))))))))) (.br z66
  (.obl z57 (.obl z59 (.obl z15 (.obl z68 (.obl z70 (.br z71 (.obl z15 (.obl z73 (.obl z75 (.obl z57 (.obl z59 (.obl z15 (.obl True (.obl z36 (.obl
  z38 (.obl z15 (.ok ((z76,()) = z26)))))))))))) (.obl z15 (.obl True (.obl z36 (.obl z38 (.obl z15 (.ok ((z77,()) = z26))))))))))))) (.br z78 (.obl z15
  (.ok ((z41,()) = z26))) .bad)))) (.obl z1 (.obl z2 (.obl z4 (.obl z6 (.obl z8 (.obl z6 (.obl z11 (.obl z6 (.obl z14 (.obl z6 (.obl z15 (.obl z15
  (.obl z4 (.obl z15 (.ok ((z45,()) = z26))))))))))))))))))) (.br z56 (.obl z15 (.obl z50 (.br z52 (.br z46 (.obl z15 (.obl z15 (.obl z54 (.obl z36 (.obl
  z38 (.obl z15 (.ok ((z55,()) = z26)))))))) (.br z56 (.br (p2 m) (.obl z15 (.obl z36 (.obl z38 (.obl z57 (.obl z59 (.obl z15 (.ok ((z60,()) = z26))))))))
  (.obl z15 (.obl z15 (.obl z36 (.obl z38 (.obl z64 (.obl z15 (.obl z15 (.ok ((z65,()) = z26)))))))))) (.br z66 (.obl z57 (.obl z59 (.obl z15 (.obl z68
  (.obl z70 (.br z71 (.obl z15 (.obl z73 (.obl z75 (.obl z57 (.obl z59 (.obl z15 (.obl True (.obl z36 (.obl z38 (.obl z15 (.ok ((z76,()) =
  z26)))))))))))) (.obl z15 (.obl True (.obl z36 (.obl z38 (.obl z15 (.ok ((z77,()) = z26))))))))))))) (.br z78 (.obl z15 (.ok ((z41,()) = z26))) .bad))))
  (.obl z1 (.obl z2 (.obl z4 (.obl z6 (.obl z8 (.obl z6 (.obl z11 (.obl z6 (.obl z14 (.obl z6 (.obl z15 (.obl z15 (.obl z4 (.obl z15 (.ok ((z45,()) =
  z26))))))))))))))))))) (.br z66 (.obl z15 (.obl z50 (.br z52 (.br z46 (.obl z15 (.obl z15 (.obl z54 (.obl z36 (.obl z38 (.obl z15 (.ok ((z55,()) =
  z26)))))))) (.br z56 (.br (p2 m) (.obl z15 (.obl z36 (.obl z38 (.obl z57 (.obl z59 (.obl z15 (.ok ((z60,()) = z26)))))))) (.obl z15 (.obl z15 (.obl z36
  (.obl z38 (.obl z64 (.obl z15 (.obl z15 (.ok ((z65,()) = z26)))))))))) (.br z66 (.obl z57 (.obl z59 (.obl z15 (.obl z68 (.obl z70 (.br z71 (.obl z15
  (.obl z73 (.obl z75 (.obl z57 (.obl z59 (.obl z15 (.obl True (.obl z36 (.obl z38 (.obl z15 (.ok ((z76,()) = z26)))))))))))) (.obl z15 (.obl True (.obl
  z36 (.obl z38 (.obl z15 (.ok ((z77,()) = z26))))))))))))) (.br z78 (.obl z15 (.ok ((z41,()) = z26))) .bad)))) (.obl z1 (.obl z2 (.obl z4 (.obl z6 (.obl
  z8 (.obl z6 (.obl z11 (.obl z6 (.obl z14 (.obl z6 (.obl z15 (.obl z15 (.obl z4 (.obl z15 (.ok ((z45,()) = z26))))))))))))))))))) (.br z78 (.obl z15
  (.obl z50 (.br z52 (.br z46 (.obl z15 (.obl z15 (.obl z54 (.obl z36 (.obl z38 (.obl z15 (.ok ((z55,()) = z26)))))))) (.br z56 (.br (p2 m) (.obl z15
  (.obl z36 (.obl z38 (.obl z57 (.obl z59 (.obl z15 (.ok ((z60,()) = z26)))))))) (.obl z15 (.obl z15 (.obl z36 (.obl z38 (.obl z64 (.obl z15 (.obl z15
  (.ok ((z65,()) = z26)))))))))) (.br z66 (.obl z57 (.obl z59 (.obl z15 (.obl z68 (.obl z70 (.br z71 (.obl z15 (.obl z73 (.obl z75 (.obl z57 (.obl z59
  (.obl z15 (.obl True (.obl z36 (.obl z38 (.obl z15 (.ok ((z76,()) = z26)))))))))))) (.obl z15 (.obl True (.obl z36 (.obl z38 (.obl z15 (.ok ((z77,()) =
  z26))))))))))))) (.br z78 (.obl z15 (.ok ((z41,()) = z26))) .bad)))) (.obl z1 (.obl z2 (.obl z4 (.obl z6 (.obl z8 (.obl z6 (.obl z11 (.obl z6 (.obl z14
  (.obl z6 (.obl z15 (.obl z15 (.obl z4 (.obl z15 (.ok ((z45,()) = z26))))))))))))))))))) (.br (L.cmp .eql z29 1) (.obl z15 (.obl z80 (.br z82 (.obl
  z15 (.obl z36 (.obl z38 (.obl z15 (.ok ((z83,()) = z26)))))) (.obl z15 (.obl z36 (.obl z38 (.obl z1 (.obl z2 (.obl z4 (.obl z6 (.obl z8 (.obl z6
  (.obl z11 (.obl z6 (.obl z14 (.obl z6 (.obl z15 (.obl z15 (.obl z4 (.obl z15 (.ok ((z45,()) = z26)))))))))))))))))))))) (.br (L.cmp .eql z29 2)
  (.obl z15 (.obl z80 (.br z82 (.obl z15 (.obl z36 (.obl z38 (.obl z15 (.ok ((z83,()) = z26)))))) (.obl z15 (.obl z36 (.obl z38 (.obl z1 (.obl z2 (.obl
  z4 (.obl z6 (.obl z8 (.obl z6 (.obl z11 (.obl z6 (.obl z14 (.obl z6 (.obl z15 (.obl z15 (.obl z4 (.obl z15 (.ok ((z45,()) = z26))))))))))))))))))))))
  (.br (L.cmp .eql z29 3) (.obl z15 (.obl z80 (.br z82 (.obl z15 (.obl z36 (.obl z38 (.obl z15 (.ok ((z83,()) = z26)))))) (.obl z15 (.obl z36 (.obl
  z38 (.obl z1 (.obl z2 (.obl z4 (.obl z6 (.obl z8 (.obl z6 (.obl z11 (.obl z6 (.obl z14 (.obl z6 (.obl z15 (.obl z15 (.obl z4 (.obl z15 (.ok ((z45,
  ()) = z26)))))))))))))))))))))) (.br (L.cmp .eql z29 4) (.obl z15 (.obl z80 (.br z82 (.obl z15 (.obl z36 (.obl z38 (.obl z15 (.ok ((z83,()) = z26))))))
  (.obl z15 (.obl z36 (.obl z38 (.obl z1 (.obl z2 (.obl z4 (.obl z6 (.obl z8 (.obl z6 (.obl z11 (.obl z6 (.obl z14 (.obl z6 (.obl z15 (.obl z15
  (.obl z4 (.obl z15 (.ok ((z45,()) = z26)))))))))))))))))))))) (.br (L.cmp .eql z29 5) (.obl z15 (.obl z80 (.br z82 (.obl z15 (.obl z36 (.obl z38
  (.obl z15 (.ok ((z83,()) = z26)))))) (.obl z15 (.obl z36 (.obl z38 (.obl z1 (.obl z2 (.obl z4 (.obl z6 (.obl z8 (.obl z6 (.obl z11 (.obl z6 (.obl z14
  (.obl z6 (.obl z15 (.obl z15 (.obl z4 (.obl z15 (.ok ((z45,()) = z26)))))))))))))))))))))) (.br (L.cmp .eql z29 6) (.obl z15 (.obl z80 (.br z82
  (.obl z15 (.obl z36 (.obl z38 (.obl z15 (.ok ((z83,()) = z26)))))) (.obl z15 (.obl z36 (.obl z38 (.obl z1 (.obl z2 (.obl z4 (.obl z6 (.obl z8 (.obl
  z6 (.obl z11 (.obl z6 (.obl z14 (.obl z6 (.obl z15 (.obl z15 (.obl z4 (.obl z15 (.ok ((z45,()) = z26)))))))))))))))))))))) (.br (L.cmp .eql z29 7)
  (.obl z15 (.obl z80 (.br z82 (.obl z15 (.obl z36 (.obl z38 (.obl z15 (.ok ((z83,()) = z26)))))) (.obl z15 (.obl z36 (.obl z38 (.obl z1 (.obl z2 (.obl
  z4 (.obl z6 (.obl z8 (.obl z6 (.obl z11 (.obl z6 (.obl z14 (.obl z6 (.obl z15 (.obl z15 (.obl z4 (.obl z15 (.ok ((z45,()) = z26))))))))))))))))))))))
  (.obl z15 (.ok ((z41,()) = z26))))))))))))))))))))))))))))))))))
theorem n99_go (L:Lv) (F:BxF) (m:McD) (s:StD) (v:MvD) (h:VC.holds (n99 L F m s v)):Holds (vcB L F [113,151,152,233,163,164,212,193,194,195,196,197,215,216,217,218] (D99 a0) (S99 F) (m,s,v,())):=Holds.of_eq (by kernel_rfl) h
def insAt (m:McD) (v t:Int):InD:=(((m.1.2.1[v.toNat]?).getD [])[t.toNat]?).getD (0,0,0,0,0,0)
def stepF (strong:Bool) (s:StD) (t:ThD) (i:InD):Option (List Int × ThD) :=
 let next:=IntKind.i64.wrap (t.1 + 1)
 if i.1 = 13 then some (s.1,i.2.2.2.2.2,t.2)
 else if i.1 = 14 then some (s.1,if regF t.2.1 i.2.1 = 0 then i.2.2.2.2.2 else next,t.2)
 else if i.1 = 15 then (if t.2.2.2.1.length + 1≤20 then some (s.1,next,t.2.1,t.2.2.1,t.2.2.2.1 ++ [regF t.2.1 i.2.1],t.2.2.2.2) else none)
 else if i.1 = 8∨i.1 = 9∨i.1 = 10∨i.1 = 12 then
  (let q:=placeF s t i
  if q.2 = false then none
  else if i.1 = 8 then some (s.1,next,t.2.1.set i.2.1.toNat (seesF s t q.1),t.2.2)
  else if i.1 = 9 then (if strong then some (s.1.set q.1.toNat (regF t.2.1 i.2.1),next,t.2) else some (s.1,next,t.2.1,t.2.2.1 ++ [(q.1,regF t.2.1 i.2.1)],t.2.2.2))
  else if i.1 = 10 then (if regF s.1 q.1 = regF t.2.1 i.2.2.2.1 then some (s.1.set q.1.toNat (regF t.2.1 i.2.2.2.2.1),next,t.2.1.set i.2.1.toNat 1,t.2.2) else some (s.1,next,t.2.1.set i.2.1.toNat 0,t.2.2))
  else some (s.1,next,t.2))
 else if i.1 = 1∨i.1 = 2∨i.1 = 3∨i.1 = 4∨i.1 = 5∨i.1 = 6∨i.1 = 7 then
  (let q:=workedF t.2.1 i
  if q.2 = false then none else some (s.1,next,t.2.1.set i.2.1.toNat q.1,t.2.2))
 else some (s.1,next,t.2)
def doF (m:McD) (s:StD) (v:MvD):StD :=
 let t:=thAt s v.1
 if v.2 then (s.1.set (kpAt t.2.2.1 0).1.toNat (kpAt t.2.2.1 0).2,s.2.set v.1.toNat (t.1,t.2.1,t.2.2.1.drop 1,t.2.2.2))
 else match stepF m.2 s t (insAt m v.1 t.1) with
  | some x=>(x.1,s.2.set v.1.toNat x.2)
  | none=>(s.1,s.2.set v.1.toNat (t.1,t.2.1,t.2.2.1,t.2.2.2.1,true))
def pDoF (m:McD) (s:StD) (v:MvD):Prop :=
 let t:=thAt s v.1
 let i:=insAt m v.1 t.1
 (0≤v.1∧v.1 < s.2.length)∧(s.1.length≤1000000∧s.2.length≤1000000∧t.2.1.length≤1000000∧t.2.2.1.length≤100000∧t.2.2.2.1.length≤100000) ∧
 (v.2 = true→0 < t.2.2.1.length∧inReg s.1 (kpAt t.2.2.1 0).1) ∧
 (v.2 = false→v.1 < m.1.2.1.length∧(0≤t.1∧t.1 < ((m.1.2.1[v.1.toNat]?).getD []).length)∧inReg t.2.1 i.2.1∧inReg t.2.1 i.2.2.1∧inReg t.2.1 i.2.2.2.1∧inReg t.2.1 i.2.2.2.2.1)
end Go.Proofs.Tryz
