/- What functions of the weak memory compute, proved through the condition generator, and plain facts of it. Conditions: none of ours. -/
import Derived.Test.YtljepnnnjfalcaaGreatC16
import Derived.Test.YtljepnnnjfalcaaGreatC13
set_option autoImplicit false
set_option maxRecDepth 100000
set_option linter.all false
namespace Go.Proofs.Tryz
open Go Go.VM
def a75 (L:Lv) (I:Ds [It]→Prop) (mu:Ds [It]→Nat):Nat→LAnn
 | 0=>anH L [0,1,5] [] [.s 5 It] I mu
 | _=>.no
def a74 (L:Lv) (I:Ds [It]→Prop) (mu:Ds [It]→Nat):Nat→LAnn
 | 0=>anH L [2,3,6] [] [.s 6 It] I mu
 | _=>.no
def a118 (L:Lv) (I:Ds [.sl It,It]→Prop) (mu:Ds [.sl It,It]→Nat):Nat→LAnn
 | 0=>anH L [1,3,4] [] [.r 3 It,.s 4 It] I mu
 | _=>.no
def n75 (L:Lv) (F:BxF) (I:Ds [It]→Prop) (mu:Ds [It]→Nat) (a b:List Int)  : VC :=
 let z1:=L.llen It a;
 let z2:=L.cast z1;
 let z3:=L.llen It b;
 let z4:=L.cast z3;
 let z5:=(BxF.cmpR F a b,());
 let z6:=(L.ar .sub .i64 z2 z4,()); .obl (St.mk 41 [(0,V.c (C.sl It a)),(1,V.c (C.sl It b)),(5,V.c (C.int .i64 0))] [(0,Ob.amb)] 1 = St.mk 41 [(0,
  V.c (C.sl It a)),(1,V.c (C.sl It b)),(5,V.c (C.int .i64 0))] [(0,Ob.amb)] 1) (.obl (I (0,())) (.all (Int × Unit) fun (v1:Int × Unit) =>
 let z7:=v1.1;
 let z8:=L.inR z7 z1;
 let z9:=L.inR z7 z3;
 let z10:=L.toN z7;
 let z11:=L.get It a z10;
 let z12:=L.get It b z10;
 let z13:=L.ar .add .i64 z7 1;
 let z14:=(L.ar .add .i64 z7 1,()); .imp (I v1) (.br (L.cmp .lss z7 z2) (.br (L.cmp .lss z7 z4) (.obl z8 (.obl z9 (.br (L.cmp
  .lss z11 z12) (.ok ((Int.negSucc 0,()) = z5)) (.obl z8 (.obl z9 (.br (L.cmp .gtr z11 z12) (.ok ((1,()) = z5)) (.ok (St.mk 41 [(0,V.c (C.sl It a)),(1,
  V.c (C.sl It b)),(5,V.c (C.int .i64 z13))] [(0,Ob.amb)] 1 = St.mk 41 [(0,V.c (C.sl It a)),(1,V.c (C.sl It b)),(5,V.c (C.int .i64 z13))] [(0,Ob.amb)] 1∧I
  z14∧mu z14 < mu v1)))))))) (.ok (z6 = z5))) (.ok (z6 = z5)))))
theorem n75_go (L:Lv) (F:BxF) (I:Ds [It]→Prop) (mu:Ds [It]→Nat) (a b:List Int) (h:VC.holds (n75 L F I mu a b)):Holds (vcC L F [] (D75 (a75 L I mu)) (S75 F) (a,b,())):=Holds.of_eq (by kernel_rfl) h
def n74 (L:Lv) (F:BxF) (I:Ds [It]→Prop) (mu:Ds [It]→Nat) (a b:EnD)  : VC :=
 let z1:=a.1;
 let z2:=b.1;
 let z3:=(BxF.cmpRE F a b,());
 let z4:=a.2;
 let z5:=z4.1;
 let z6:=Ty.int .u8;
 let z7:=z4.2;
 let z8:=b.2;
 let z9:=z8.1;
 let z10:=z8.2;
 let z11:=L.llen (Ty.sl It) z5;
 let z12:=L.cast z11;
 let z13:=L.llen (Ty.sl It) z9;
 let z14:=L.cast z13;
 let z15:=L.cmp .neq z12 z14;
 let z16:=(L.ar .sub .i64 z12 z14,());
 let z17:=(Prod.fst a,z4.1,z4.2);
 let z18:=BxF.be F z17;
 let z19:=(Prod.fst b,z8.1,z8.2);
 let z20:=BxF.be F z19;
 let z21:=BxF.hows F z17;
 let z22:=BxF.hows F z19;
 let z23:=(BxF.bl F z21∧BxF.bl F z22);
 let z24:=(BxF.cmpR F z21 z22,()); .obl (BxF.bl F z1∧BxF.bl F z2) (.br (L.cmp .neq (BxF.cmpR F z1 z2) 0) (.ok ((BxF.cmpR F z1 z2,()) = z3)) (.obl (St.mk 63
  [(2,V.c (C.ptr 1 0)),(3,V.c (C.ptr 2 0)),(6,V.c (C.int .i64 0))] [(0,Ob.amb),(1,Ob.box 114 [C.sl It z1,C.sl (Ty.sl It) z5,C.sl z6 z7]),(2,Ob.box 114 [C.sl It z2,
  C.sl (Ty.sl It) z9,C.sl z6 z10])] 3 = St.mk 63 [(2,V.c (C.ptr 1 0)),(3,V.c (C.ptr 2 0)),(6,V.c (C.int .i64 0))] [(0,Ob.amb),(1,Ob.box 114 [C.sl It z1,C.sl (Ty.sl
  It) z5,C.sl z6 z7]),(2,Ob.box 114 [C.sl It z2,C.sl (Ty.sl It) z9,C.sl z6 z10])] 3) (.obl (I (0,())) (.all (Int × Unit) fun (v1:Int × Unit) =>
 let z25:=v1.1;
 let z26:=L.toN z25;
 let z27:=L.get (Ty.sl It) z5 z26;
 let z28:=L.get (Ty.sl It) z9 z26;
 let z29:=L.ar .add .i64 z25 1;
 let z30:=(L.ar .add .i64 z25 1,()); .imp (I v1) (.br (L.cmp .lss z25 z12) (.br (L.cmp .lss z25 z14) (.obl (L.inR z25 z11) (.obl
  (L.inR z25 z13) (.obl (BxF.bl F z27∧BxF.bl F z28) (.br (L.cmp .neq (BxF.cmpR F z27 z28) 0) (.ok ((BxF.cmpR F z27 z28,()) = z3)) (.ok (St.mk 63 [(2,V.c
  (C.ptr 1 0)),(3,V.c (C.ptr 2 0)),(6,V.c (C.int .i64 z29))] [(0,Ob.amb),(1,Ob.box 114 [C.sl It z1,C.sl (Ty.sl It) z5,C.sl z6 z7]),(2,Ob.box 114 [C.sl It z2,C.sl
  (Ty.sl It) z9,C.sl z6 z10])] 3 = St.mk 63 [(2,V.c (C.ptr 1 0)),(3,V.c (C.ptr 2 0)),(6,V.c (C.int .i64 z29))] [(0,Ob.amb),(1,Ob.box 114 [C.sl It z1,C.sl (Ty.sl It)
  z5,C.sl z6 z7]),(2,Ob.box 114 [C.sl It z2,C.sl (Ty.sl It) z9,C.sl z6 z10])] 3∧I z30∧mu z30 < mu v1)))))) (.br z15 (.ok (z16 = z3)) (.obl z18 (.obl z20 (.obl z23
  (.ok (z24 = z3))))))) (.br z15 (.ok (z16 = z3)) (.obl z18 (.obl z20 (.obl z23 (.ok (z24 = z3)))))))))))
theorem n74_go (L:Lv) (F:BxF) (I:Ds [It]→Prop) (mu:Ds [It]→Nat) (a b:EnD) (h:VC.holds (n74 L F I mu a b)):Holds (vcC L F [110,171] (D74 (a74 L I mu)) (S74 F) (a,b,())):=Holds.of_eq (by kernel_rfl) h
def n118 (L:Lv) (F:BxF) (I:Ds [.sl It,It]→Prop) (mu:Ds [.sl It,It]→Nat) (e:EnD)  : VC :=
 let z1:=e.1;
 let z2:=e.2.1;
 let z3:=Ty.int .u8;
 let z4:=e.2.2;
 let z5:=L.llen z3 z4; .obl (St.mk 23 [(1,V.c (C.ptr 1 0)),(3,V.c (C.own 3 0)),(4,V.c (C.int .i64 0))] [(0,Ob.amb),(1,Ob.box 114 [C.sl It z1,C.sl (Ty.sl It)
  z2,C.sl z3 z4]),(3,Ob.row 3 It [])] 4 = St.mk 23 [(1,V.c (C.ptr 1 0)),(3,V.c (C.own 3 (L.llen It []))),(4,V.c (C.int .i64 0))] [(0,Ob.amb),(1,Ob.box 114 [C.sl
  It z1,C.sl (Ty.sl It) z2,C.sl z3 z4]),(3,Ob.row 3 It [])] 4) (.obl (I ([],0,())) (.all (List Int × Int × Unit) fun (v1:List Int × Int × Unit) =>
 let z6:=v1.2.1;
 let z7:=v1.1;
 let z8:=L.llen It z7;
 let z9:=L.take It z7 z8;
 let z10:=L.take It [L.conv .i64 (L.get z3 z4 (L.toN z6))] 1;
 let z11:=L.add (L.llen It z9) (L.llen It z10);
 let z12:=L.ar .add .i64 z6 1;
 let z13:=L.app It z9 z10;
 let z14:=(L.app It z9 z10,L.ar .add .i64 z6 1,()); .imp (I v1) (.br (L.cmp .lss z6 (L.cast z5)) (.obl (L.inR z6 z5) (.obl (L.room z11
  8) (.ok (St.mk 23 [(1,V.c (C.ptr 1 0)),(3,V.c (C.own 3 z11)),(4,V.c (C.int .i64 z12))] [(0,Ob.amb),(1,Ob.box 114 [C.sl It z1,C.sl (Ty.sl It) z2,C.sl z3 z4]),
  (3,Ob.row 3 It z13)] 4 = St.mk 23 [(1,V.c (C.ptr 1 0)),(3,V.c (C.own 3 (L.llen It z13))),(4,V.c (C.int .i64 z12))] [(0,Ob.amb),(1,Ob.box 114 [C.sl It z1,C.sl
  (Ty.sl It) z2,C.sl z3 z4]),(3,Ob.row 3 It z13)] 4∧I z14∧mu z14 < mu v1)))) (.ok ((L.take It z7 z8,()) = (BxF.hows F e,()))))))
theorem n118_go (L:Lv) (F:BxF) (I:Ds [.sl It,It]→Prop) (mu:Ds [.sl It,It]→Nat) (e:EnD) (h:VC.holds (n118 L F I mu e)):Holds (vcC L F [] (D118 (a118 L I mu)) (S118 F) (e,())):=Holds.of_eq (by kernel_rfl) h
def n46 (L:Lv) (F:BxF) (a b:EnD)  : VC :=
 let z1:=(Prod.fst a,a.2.1,a.2.2);
 let z2:=(Prod.fst b,b.2.1,b.2.2);
 let z3:=(BxF.sameE F a b,()); .obl (BxF.be F z1∧BxF.be F z2) (.br (L.cmp .eql (BxF.cmpRE F z1 z2) 0) (.ok ((true,()) = z3)) (.ok ((false,()) = z3)))
theorem n46_go (L:Lv) (F:BxF) (a b:EnD) (h:VC.holds (n46 L F a b)):Holds (vcC L F [109] (D46 a0) (S46 F) (a,b,())):=Holds.of_eq (by kernel_rfl) h
theorem ok75 (F:BxF) (h:F.cmpR = lexR) (hp:F.bl = bL):SpecOk prog 110 (S75 F):=by
 refine Zc hm hE D75 fnok75 _ fun (z:List Int × List Int × Unit) hpre=>?_
 obtain ⟨a,b,⟨⟩⟩:=z
 have hpre':F.bl a∧F.bl b:=hpre
 rw [hp] at hpre'
 have g:a.length≤1000000:=hpre'.1
 have g2:b.length≤1000000:=hpre'.2
 let I:Int × Unit→Prop:=Iv a.length fun k=>lexR (a.drop k) (b.drop k) = lexR a b∧k≤b.length
 refine Yp _ 3 (a75 Lv.std I (Mu a.length)) (Zs (T:=cT F) (l:=[]) Z4) ?_
 refine n75_go Lv.std F I (Mu a.length) a b ?_
 have neg1:(Int.negSucc 0:Int) = -1:=rfl
 have ew:IntKind.i64.wrap ((a.length:Int) - b.length) = (a.length:Int) - b.length:=Yn (by omega) (by omega)
 simp only [n75,VC.holds,ZJ,Zt,Zr,ZH,Z1,ZG,ZI,Zb,Zh,neg1,ew,Zd,Ze,Zu,Zv,h,Prod.mk.injEq,and_true,true_and]
 refine ⟨Iv.zero ⟨rfl,Nat.zero_le _⟩,fun x hx=>?_⟩
 obtain ⟨k,rfl,hk,i3,hkb⟩:=Iv.elim hx
 simp only [Int.toNat_natCast]
 have dr:k < a.length→k < b.length→lexR (a.drop k) (b.drop k) = if (a[k]?).getD 0 < (b[k]?).getD 0 then -1 else if (b[k]?).getD 0 < (a[k]?).getD 0 then 1 else lexR (a.drop (k + 1)) (b.drop (k + 1)):=fun h1 h2=>by
  rw [List.drop_eq_getElem_cons h1,List.drop_eq_getElem_cons h2,List.getElem?_eq_getElem h1,List.getElem?_eq_getElem h2]; rfl
 have dl:k = a.length∨k = b.length→lexR (a.drop k) (b.drop k) = (a.length:Int) - b.length:=fun h1=>by
  by_cases ha:k < a.length
  ·have hb:k = b.length:=by omega
   rw [List.drop_eq_getElem_cons ha,List.drop_eq_nil_of_le (by omega:b.length≤k)]
   show ((List.length (_ :: _):Nat):Int) = _
   rw [List.length_cons,List.length_drop]; omega
  ·rw [List.drop_eq_nil_of_le (by omega:a.length≤k)]
   cases hd:b.drop k with
   | nil=>have:=congrArg List.length hd; rw [List.length_drop] at this; show -((List.length ([]:List Int):Nat):Int) = _; simp at this ⊢; omega
   | cons y r=>have:=congrArg List.length hd; rw [List.length_drop] at this; show -((List.length (y :: r):Nat):Int) = _; rw [← this]; omega
 refine ⟨fun hlt=>⟨fun hb=>⟨⟨by omega,hlt⟩,⟨by omega,hb⟩,fun h1=>?_,fun h1=>⟨⟨by omega,hlt⟩,⟨by omega,hb⟩,fun h2=>?_,fun h2=>?_⟩⟩,fun hb=>?_⟩,fun hge=>?_⟩
 ·rw [dr (by omega) (by omega),if_pos h1] at i3; exact i3
 ·rw [dr (by omega) (by omega),if_neg (by omega),if_pos h2] at i3; exact i3
 ·rw [dr (by omega) (by omega),if_neg (by omega),if_neg (by omega)] at i3
  rw [wr hlt g]
  exact ⟨Iv.mk (by omega) ⟨i3,by omega⟩,Mu.lt (by omega)⟩
 ·rw [dl (.inr (by omega))] at i3; exact i3
 ·rw [dl (.inl (by omega))] at i3; exact i3
theorem ok118 (F:BxF) (h:F.hows = fun e=>e.2.2) (hp:F.be = sEn):SpecOk prog 171 (S118 F):=by
 refine Zc hm hE D118 fnok118 _ fun (z:EnD × Unit) hpre=>?_
 obtain ⟨e,⟨⟩⟩:=z
 have hpre':F.be e:=hpre
 rw [hp] at hpre'
 obtain ⟨_,_,g,_,g5⟩:=hpre'
 let I:List Int × Int × Unit→Prop:=fun x=>(0≤x.2.1∧x.2.1≤e.2.2.length)∧x.1 = e.2.2.take x.2.1.toNat
 let mu:List Int × Int × Unit→Nat:=fun x=>(e.2.2.length - x.2.1).toNat
 refine Yp _ 3 (a118 Lv.std I mu) (Zs (T:=cT F) (l:=[]) Z4) ?_
 refine n118_go Lv.std F I mu e ?_
 simp only [n118,VC.holds,ZJ,ZO,Zb,Zh,Zm,Yj,Ym,Z5,ZM,Yl,Yk,Yf,ZX,ZY,ZT,ZR,Ye,ZN,Zz,ZD,Zr,Z1,ZS,Z2,ZK,ZW,Yb,ZV,ZP,ZQ,Zt,ZH,Ya,Z3,ZI,Yd,Yc,Z6,Z7,Zg,ZC,ZL,ZU,Z8,Z9,Zd,Ze,ZA,ZB,Zu,Zv,Zx,Zy,Zk,Zl,Zp,Zq,Zi,Zj,Zn,Zo,ZG,ZF,ZZ,Yg,ZE,h,List.take_length,List.take_succ_cons,List.take_zero,List.take_nil,List.nil_append,List.length_append,List.length_cons,List.length_nil,Nat.zero_add,pe5,Prod.mk.injEq,and_true,true_and]
 refine ⟨⟨⟨Int.le_refl 0,by show (0:Int)≤e.2.2.length; omega⟩,rfl⟩,?_⟩
 rintro ⟨l,x,⟨⟩⟩ ⟨⟨i1,i2⟩,i3⟩
 simp only at i1 i2 i3 ⊢
 obtain ⟨k,rfl⟩:=Yq i1
 rw [Int.toNat_natCast] at i3
 subst i3
 have hl:(e.2.2.take k).length = k:=by rw [List.length_take]; omega
 rw [hl,Int.toNat_natCast]
 refine ⟨fun hlt=>?_,fun hge=>?_⟩
 ·have hk:k < e.2.2.length:=by omega
  have hb:=g5 _ (List.getElem_mem hk)
  rw [wr hlt g,List.getElem?_eq_getElem hk,Option.getD_some,Yn (by omega) (by omega)]
  refine ⟨⟨i1,hlt⟩,⟨by omega,by omega⟩,⟨⟨by show (0:Int)≤((k + 1:Nat):Int); omega,by show ((k + 1:Nat):Int)≤_; omega⟩,?_⟩,by show ((e.2.2.length:Int) - ((k + 1:Nat):Int)).toNat < ((e.2.2.length:Int) - k).toNat; omega⟩
  show e.2.2.take k ++ [e.2.2[k]] = e.2.2.take ((k + 1:Nat):Int).toNat
  rw [Int.toNat_natCast,List.take_succ,List.getElem?_eq_getElem hk]; rfl
 ·rw [List.take_of_length_le (by omega)]
theorem ok74 (F:BxF) (h:F.cmpRE = cmpREF) (h1:F.cmpR = lexR) (h2:F.hows = fun e=>e.2.2) (hp:F.be = sEn) (q:F.bl = bL) (k1:SpecOk prog 110 (S75 F)) (k2:SpecOk prog 171 (S118 F)):SpecOk prog 109 (S74 F):=by
 refine Zc hm hE D74 fnok74 _ fun (z:EnD × EnD × Unit) hpre=>?_
 obtain ⟨a,b,⟨⟩⟩:=z
 have hpre':F.be a∧F.be b:=hpre
 rw [hp] at hpre'
 obtain ⟨⟨a1,a2,a3,a4,a5⟩,b1,b2,b3,b4,b5⟩:=hpre'
 let I:Int × Unit→Prop:=Iv a.2.1.length fun k=>lexRR (a.2.1.drop k) (b.2.1.drop k) = lexRR a.2.1 b.2.1∧k≤b.2.1.length
 refine Yp _ 3 (a74 Lv.std I (Mu a.2.1.length)) (Zs (T:=cT F) (l:=[110,171]) (Za (Yh k1 (by kernel_rfl)) (Za (Yh k2 (by kernel_rfl)) Z4))) ?_
 refine n74_go Lv.std F I (Mu a.2.1.length) a b ?_
 have ew:IntKind.i64.wrap ((a.2.1.length:Int) - b.2.1.length) = (a.2.1.length:Int) - b.2.1.length:=Yn (by omega) (by omega)
 have e1:∀ (l:List (List Int)) (k:Int),Lv.std.get (.sl It) l k.toNat = (l[k.toNat]?).getD []:=fun _ _=>rfl
 simp only [n74,VC.holds,ZJ,Zt,Zr,ZH,e1,ZI,Zb,Zh,ew,Zd,Ze,Zp,Zq,h,h1,h2,q,hp,pe5,Prod.mk.injEq,and_true,true_and]
 have bd:∀ (l:List (List Int)) (k:Nat),(∀ x ∈ l,x.length≤1000000)→bL ((l[k]?).getD []):=fun l k hl=>by
  cases hc:l[k]? with
  | none=>exact Nat.zero_le _
  | some x=>exact hl x (List.mem_of_getElem? hc)
 refine ⟨⟨a1,b1⟩,fun c1=>by rw [cmpREF,if_pos c1],fun c1=>⟨Iv.zero ⟨rfl,Nat.zero_le _⟩,fun x hx=>?_⟩⟩
 obtain ⟨k,rfl,hk,i3,hkb⟩:=Iv.elim hx
 simp only [Int.toNat_natCast]
 have e0:cmpREF a b = if lexRR a.2.1 b.2.1 ≠ 0 then lexRR a.2.1 b.2.1 else lexR a.2.2 b.2.2:=by rw [cmpREF,if_neg (fun h=>h c1)]
 have dr:k < a.2.1.length→k < b.2.1.length→lexRR (a.2.1.drop k) (b.2.1.drop k) = if lexR ((a.2.1[k]?).getD []) ((b.2.1[k]?).getD []) ≠ 0 then lexR ((a.2.1[k]?).getD []) ((b.2.1[k]?).getD []) else lexRR (a.2.1.drop (k + 1)) (b.2.1.drop (k + 1)):=fun h1 h2=>by
  rw [List.drop_eq_getElem_cons h1,List.drop_eq_getElem_cons h2,List.getElem?_eq_getElem h1,List.getElem?_eq_getElem h2]; rfl
 have dl:k = a.2.1.length∨k = b.2.1.length→lexRR (a.2.1.drop k) (b.2.1.drop k) = (a.2.1.length:Int) - b.2.1.length:=fun h1=>by
  by_cases ha:k < a.2.1.length
  ·rw [List.drop_eq_getElem_cons ha,List.drop_eq_nil_of_le (by omega:b.2.1.length≤k)]
   show ((List.length (_ :: _):Nat):Int) = _
   rw [List.length_cons,List.length_drop]; omega
  ·rw [List.drop_eq_nil_of_le (by omega:a.2.1.length≤k)]
   cases hd:b.2.1.drop k with
   | nil=>have:=congrArg List.length hd; rw [List.length_drop] at this; show -((List.length ([]:List (List Int)):Nat):Int) = _; simp at this ⊢; omega
   | cons y r=>have:=congrArg List.length hd; rw [List.length_drop] at this; show -((List.length (y :: r):Nat):Int) = _; rw [← this]; omega
 have fin:k = a.2.1.length∨k = b.2.1.length→(((a.2.1.length:Int) ≠ b.2.1.length→(a.2.1.length:Int) - b.2.1.length = cmpREF a b)∧((a.2.1.length:Int) = b.2.1.length→sEn a∧sEn b∧(bL a.2.2∧bL b.2.2)∧lexR a.2.2 b.2.2 = cmpREF a b)):=fun h1=>by
  rw [dl h1] at i3
  refine ⟨fun hn=>?_,fun he=>⟨⟨a1,a2,a3,a4,a5⟩,⟨b1,b2,b3,b4,b5⟩,⟨a3,b3⟩,?_⟩⟩
  ·rw [e0,← i3,if_pos (by omega)]
  ·rw [e0,← i3,if_neg (by omega)]
 refine ⟨fun hlt=>⟨fun hb=>⟨⟨by omega,hlt⟩,⟨by omega,hb⟩,⟨bd _ _ a4,bd _ _ b4⟩,fun h1=>?_,fun h1=>?_⟩,fun hb=>fin (.inr (by omega))⟩,fun hge=>fin (.inl (by omega))⟩
 ·rw [dr (by omega) (by omega),if_pos h1] at i3
  rw [e0,← i3,if_pos h1]
 ·rw [dr (by omega) (by omega),if_neg (fun h=>h h1)] at i3
  rw [wr hlt a2]
  exact ⟨Iv.mk (by omega) ⟨i3,by omega⟩,Mu.lt (by omega)⟩
theorem ok46 (F:BxF) (h:F.sameE = fun a b=>decide (a = b)) (h1:F.cmpRE = cmpREF) (k1:SpecOk prog 109 (S74 F)):SpecOk prog 71 (S46 F):=by
 refine Zc hm hE D46 fnok46 _ fun (z:EnD × EnD × Unit) hpre=>?_
 obtain ⟨a,b,⟨⟩⟩:=z
 have hpre':F.be a∧F.be b:=hpre
 refine Yp _ 3 a0 (Zs (T:=cT F) (l:=[109]) (Za (Yh k1 (by kernel_rfl)) Z4)) ?_
 refine n46_go Lv.std F a b ?_
 simp only [n46,VC.holds,ZJ,ZO,Zb,Zh,Zm,Yj,Ym,Z5,ZM,Yl,Yk,Yf,ZX,ZY,ZT,ZR,Ye,ZN,Zz,ZD,Zr,Z1,ZS,Z2,ZK,ZW,Yb,ZV,ZP,ZQ,Zt,ZH,Ya,Z3,ZI,Yd,Yc,Z6,Z7,Zg,ZC,ZL,ZU,Z8,Z9,Zd,Ze,ZA,ZB,Zu,Zv,Zx,Zy,Zk,Zl,Zp,Zq,Zi,Zj,Zn,Zo,ZG,ZF,ZZ,Yg,ZE,h,h1,pe5,Prod.mk.injEq,and_true,true_and]
 exact ⟨hpre',fun e=>(decide_eq_true ((cmpRE_eq _ _).1 e)).symm,fun e=>(decide_eq_false (fun e'=>e ((cmpRE_eq _ _).2 e'))).symm⟩
end Go.Proofs.Tryz
namespace Go.Proofs.Tryz
open Go Go.VM
instance decTh5:DecidableEq ThD:=inferInstance
instance decSt5:DecidableEq StD:=inferInstance
instance decIn5:DecidableEq InD:=inferInstance
instance decWk5:DecidableEq WkD:=inferInstance
def a39 (L:Lv) (I:Ds [It]→Prop) (mu:Ds [It]→Nat) (I2:Int × Unit→Ds [It]→Prop) (m2:Int × Unit→Ds [It]→Nat):Nat→LAnn
 | 0=>anH L [2,3,5] [] [.s 5 It] I mu
 | 2=>anE L [2,3,5,6,7,8] [] [.h (.s 5 It)] [.s 8 It] I2 m2
 | _=>.no
end Go.Proofs.Tryz
namespace Go.Proofs.Tryz
open Go Go.VM
def a98 (L:Lv) (I:Ds [.sl It,.sl Th,It]→Prop) (mu:Ds [.sl It,.sl Th,It]→Nat):Nat→LAnn
 | 0=>anH L [1,2,6,7] [] [.b 1 0 (.sl It),.b 1 1 (.sl Th),.s 7 It] I mu
 | _=>.no
def n126 (L:Lv) (F:BxF) (s:StD) (k:Int)  : VC :=
 let z1:=s.1;
 let z2:=s.2;
 let z3:=L.llen Th z2;
 let z4:=L.toN k;
 let z5:=L.ltN z4 z3;
 let z6:=L.get Th z2 z4;
 let z7:=z6.2;
 let z8:=z7.1;
 let z9:=z7.2;
 let z10:=z9.1;
 let z11:=z9.2;
 let z12:=z11.1;
 let z13:=(L.toN k = L.toN k); .obl (BxF.pLi F z1) (.obl (BxF.pLt F z2) (.obl (L.inR k z3) (.obl z5 (.obl (BxF.pLi F z8) (.obl z5 (.obl (BxF.pLk F z10)
  (.obl z5 (.obl (BxF.pLi F z12) (.obl z5 (.obl z13 (.obl z13 (.ok (((L.take It z1 (L.llen It z1),L.take Th (L.setl Th z2 z4 (Prod.fst z6,L.take It z8
  (L.llen It z8),L.take Kp z10 (L.llen Kp z10),L.take It z12 (L.llen It z12),z11.2)) z3),()) = (s,()))))))))))))))
theorem n126_go (L:Lv) (F:BxF) (s:StD) (k:Int) (h:VC.holds (n126 L F s k)):Holds (vcC L F [113,193,194] (D126 a0) (S126 F) (s,k,())):=Holds.of_eq (by kernel_rfl) h
def n98 (L:Lv) (F:BxF) (I:Ds [.sl It,.sl Th,It]→Prop) (mu:Ds [.sl It,.sl Th,It]→Nat) (s:StD)  : VC :=
 let z1:=s.2;
 let z2:=L.cast (L.llen Th z1);
 let z3:=Int × List Int × List (Int × Int) × List Int × Bool; .obl (St.mk 15 [(1,V.c (C.ptr 1 0)),(2,V.c (C.ptr 2 0)),(6,V.c (C.int .i64 z2)),(7,V.c (C.int
  .i64 0))] [(0,Ob.amb),(1,Ob.box 45 [C.sl It s.1,C.sl Th z1]),(2,Ob.box 45 [C.nils,C.nils])] 3 = St.mk 15 [(1,V.c (C.ptr 1 0)),(2,V.c (C.ptr 2 0)),(6,
  V.c (C.int .i64 z2)),(7,V.c (C.int .i64 0))] [(0,Ob.amb),(1,Ob.box 45 [C.sl It s.1,C.sl Th z1]),(2,Ob.box 45 [C.nils,C.nils])] 3) (.obl (I
  (Prod.fst s,s.2,0,())) (.all (List Int × List z3 × Int × Unit) fun (v1:List Int × List (Int × List Int × List (Int × Int) × List Int × Bool) × Int × Unit) =>
 let z4:=v1.2;
 let z5:=z4.2.1;
 let z6:=(Prod.fst v1,z4.1);
 let z7:=L.ar .add .i64 z5 1;
 let z8:=z4.1;
 let z9:=(Prod.fst v1,z4.1,L.ar .add .i64 z5 1,()); .imp (I v1) (.br (L.cmp .lss z5 z2) (.obl (BxF.pCl F z6 z5) (.ok (St.mk 15 [(1,V.c
  (C.ptr 1 0)),(2,V.c (C.ptr 2 0)),(6,V.c (C.int .i64 z2)),(7,V.c (C.int .i64 z7))] [(0,Ob.amb),(1,Ob.box 45 [C.sl It v1.1,C.sl Th z8]),(2,Ob.box
  45 [C.nils,C.nils])] 3 = St.mk 15 [(1,V.c (C.ptr 1 0)),(2,V.c (C.ptr 2 0)),(6,V.c (C.int .i64 z2)),(7,V.c (C.int .i64 z7))] [(0,Ob.amb),(1,Ob.box 45
  [C.sl It v1.1,C.sl Th z8]),(2,Ob.box 45 [C.nils,C.nils])] 3∧I z9∧mu z9 < mu v1))) (.ok ((z6,()) = (s,()))))))
theorem n98_go (L:Lv) (F:BxF) (I:Ds [.sl It,.sl Th,It]→Prop) (mu:Ds [.sl It,.sl Th,It]→Nat) (s:StD) (h:VC.holds (n98 L F I mu s)):Holds (vcC L F [163] (D98 (a98 L I mu)) (S43 F) (s,())):=Holds.of_eq (by kernel_rfl) h
theorem ok126 (F:BxF) (hp:F.pCl = fun s (k:Int)=>(0≤k∧k < s.2.length)∧bS s) (q1:F.pLi = fun l=>l.length≤1000000) (q2:F.pLt = fun l=>l.length≤1000000) (q3:F.pLk = fun l=>l.length≤1000000) (k1:XOk prog 113 (R76 F).x) (k2:XOk prog 193 (R141 F).x) (k3:XOk prog 194 (R142 F).x):SpecOk prog 163 (S126 F):=by
 refine Zc hm hE D126 fnok126 _ fun (z:StD × Int × Unit) hpre=>?_
 obtain ⟨s,k,⟨⟩⟩:=z
 have hpre':F.pCl s k:=hpre
 rw [hp] at hpre'
 obtain ⟨g1,g2,g3,g4⟩:=hpre'
 refine Yp _ 3 a0 (Zs (T:=cT F) (l:=[113,193,194]) (Za (XB k1 (by kernel_rfl)) (Za (XB k2 (by kernel_rfl)) (Za (XB k3 (by kernel_rfl)) Z4)))) ?_
 refine n126_go Lv.std F s k ?_
 simp only [n126,VC.holds,ZJ,ZO,Zb,Zh,Zm,Yj,Ym,Z5,ZM,Yl,Yk,Yf,ZX,ZY,ZT,ZR,Ye,ZN,Zz,ZD,Zr,Z1,ZS,Z2,ZK,ZW,Yb,ZV,ZP,ZQ,Zt,ZH,Ya,Z3,ZI,Yd,Yc,Z6,Z7,Zg,ZC,ZL,ZU,Z8,Z9,Zd,Ze,ZA,ZB,Zu,Zv,Zx,Zy,Zk,Zl,Zp,Zq,Zi,Zj,Zn,Zo,ZG,ZF,ZZ,Yg,ZE,q1,q2,q3,List.take_length,List.set_set,pe5,Prod.mk.injEq,and_true,true_and]
 obtain ⟨k,rfl⟩:=Yq g1.1
 have hk:k < s.2.length:=by omega
 simp only [Int.toNat_natCast,List.getElem?_eq_getElem hk,Option.getD_some]
 obtain ⟨b1,b2,b3⟩:=g4 _ (List.getElem_mem hk)
 refine ⟨g2,g3,g1,hk,b1,hk,b2,hk,b3,hk,?_⟩
 rw [List.set_getElem_self,List.take_length]
theorem ok98 (F:BxF) (hp:F.bs = bS) (q:F.pCl = fun s (k:Int)=>(0≤k∧k < s.2.length)∧bS s) (k1:SpecOk prog 163 (S126 F)):SpecOk prog 103 (S43 F):=by
 refine Zc hm hE D98 fnok98 _ fun (z:StD × Unit) hpre=>?_
 obtain ⟨s,⟨⟩⟩:=z
 have hpre':F.bs s:=hpre
 rw [hp] at hpre'
 have g2:=hpre'.2.1
 let I:List Int × List ThD × Int × Unit→Prop:=fun x=>(0≤x.2.2.1∧x.2.2.1≤s.2.length)∧(x.1,x.2.1) = s
 let mu:List Int × List ThD × Int × Unit→Nat:=fun x=>(s.2.length - x.2.2.1).toNat
 refine Yp _ 3 (a98 Lv.std I mu) (Zs (T:=cT F) (l:=[163]) (Za (Yh k1 (by kernel_rfl)) Z4)) ?_
 refine n98_go Lv.std F I mu s ?_
 simp only [n98,VC.holds,ZJ,ZO,Zb,Zh,Zm,Yj,Ym,Z5,ZM,Yl,Yk,Yf,ZX,ZY,ZT,ZR,Ye,ZN,Zz,ZD,Zr,Z1,ZS,Z2,ZK,ZW,Yb,ZV,ZP,ZQ,Zt,ZH,Ya,Z3,ZI,Yd,Yc,Z6,Z7,Zg,ZC,ZL,ZU,Z8,Z9,Zd,Ze,ZA,ZB,Zu,Zv,Zx,Zy,Zk,Zl,Zp,Zq,Zi,Zj,Zn,Zo,ZG,ZF,ZZ,Yg,ZE,q,pe5,Prod.mk.injEq,and_true,true_and]
 refine ⟨⟨⟨Int.le_refl 0,by show (0:Int)≤s.2.length; omega⟩,rfl⟩,?_⟩
 rintro ⟨a,b,x,⟨⟩⟩ ⟨⟨i1,i2⟩,i3⟩
 simp only at i1 i2 i3 ⊢
 obtain ⟨k,rfl⟩:=Yq i1
 rw [i3]
 refine ⟨fun hlt=>⟨⟨⟨i1,by rw [← i3] at hlt; exact by have:b = s.2:=congrArg Prod.snd i3; rw [this]; rw [← i3]; exact hlt⟩,hpre'⟩,?_⟩,fun _=>rfl⟩
 rw [wr hlt g2]
 exact ⟨⟨⟨by show (0:Int)≤((k + 1:Nat):Int); omega,by show ((k + 1:Nat):Int)≤(s.2.length:Int); omega⟩,i3⟩,by show ((s.2.length:Int) - ((k + 1:Nat):Int)).toNat < ((s.2.length:Int) - (k:Int)).toNat; omega⟩
def begF (p:WkD):StD × Int:=if checkF p ≠ 0 then (([],[]),checkF p) else (firstF p,0)
def mvsF (p:WkD) (s:StD):List MvD × Int:=if ckStF p s ≠ 0 then ([],ckStF p s) else (movesF (p,false) s,0)
end Go.Proofs.Tryz
namespace Go.Proofs.Tryz
open Go Go.VM
def bsTF (s:StD):Prop:=s.1.length≤9223372036854775807∧s.2.length≤9223372036854775807
def thinT (t:ThD):Bool:=!(decide (12 < (t.2.1.length:Int)) || decide (25 < (t.2.2.1.length:Int)) || decide (25 < (t.2.2.2.1.length:Int)))
def thinSF (s:StD):Bool:=!(decide (70 < (s.1.length:Int)) || decide (5 < (s.2.length:Int))) && s.2.all thinT
end Go.Proofs.Tryz
