/- What functions of the weak memory compute, proved through the condition generator, and plain facts of it. Conditions: none of ours. -/
import Derived.Test.YtljepnnnjfalcaaGreatC27
import Derived.Test.YtljepnnnjfalcaaGreatC26
import Derived.Test.YtljepnnnjfalcaaGreatC19
import Derived.Test.YtljepnnnjfalcaaGreatC24
set_option autoImplicit false
set_option maxRecDepth 100000
set_option linter.all false
namespace Go.Proofs.Tryz
open Go Go.VM
def plb75x:Nat→Plan
 | 4=>[(17,[17]),(0,[]),(1,[0]),(2,[0]),(3,[0]),(4,[0,1,2,3]),(5,[0,1,2,3]),(6,[0,1,2,3]),(7,[0,1,2,3,4,5,6]),(8,[0,1,2,3]),(9,[0,1,2,3]),(10,[0]),(11,[0]),(12,[0]),(13,[0,1,2,3,4,5,6,7,8,9,10,11,12]),(14,[0,1,2,3,4,5,6,7,8,9,10,11,12,13]),(15,[0]),(16,[0])]
 | _=>[]
noncomputable def Db75x (ann:Nat→LAnn):FnD:=⟨f75.body.getD .skip,f75.ntmps,f75.results.toList,plb75x,ann⟩
theorem fnokb75x (ann:Nat→LAnn):FnOk prog 75 (Db75x ann):=⟨f75,atb75,by kernel_rfl,by kernel_rfl,rfl,rfl,by kernel_rfl⟩
def ab77 (L:Lv) (I:Ds [.sl In,It,It]→Prop) (mu:Ds [.sl In,It,It]→Nat):Nat→LAnn
 | 0=>anH L [5,19,20,21] [] [.br 5 0 In,.b 5 1 It,.s 21 It] I mu
 | _=>.no
def nb128 (L:Lv) (F:BxF) (M:BeF) (a b:Int)  : VC :=
 .ok (((1,a,0,0,0,b),()) = (BeF.iset M a b,()))
theorem nb128_go (L:Lv) (F:BxF) (M:BeF) (a b:Int) (h:VC.holds (nb128 L F M a b)):Holds (vcE L F M [] [] 3 (Db128 a0) (Sb128 M) (a,b,())):=Holds.of_eq (by kernel_rfl) h
def nb129 (L:Lv) (F:BxF) (M:BeF) (a b:Int)  : VC :=
 .ok (((8,a,0,0,0,b),()) = (BeF.ilod M a b,()))
theorem nb129_go (L:Lv) (F:BxF) (M:BeF) (a b:Int) (h:VC.holds (nb129 L F M a b)):Holds (vcE L F M [] [] 3 (Db129 a0) (Sb129 M) (a,b,())):=Holds.of_eq (by kernel_rfl) h
def nb130 (L:Lv) (F:BxF) (M:BeF) (o a b c:Int)  : VC :=
 .ok (((o,a,b,c,0,0),()) = (BeF.icalc M o a b c,()))
theorem nb130_go (L:Lv) (F:BxF) (M:BeF) (o a b c:Int) (h:VC.holds (nb130 L F M o a b c)):Holds (vcE L F M [] [] 3 (Db130 a0) (Sb130 M) (o,a,b,c,())):=Holds.of_eq (by kernel_rfl) h
def nb132 (L:Lv) (F:BxF) (M:BeF) (a b:Int)  : VC :=
 .ok (((9,a,0,0,0,b),()) = (BeF.isto M a b,()))
theorem nb132_go (L:Lv) (F:BxF) (M:BeF) (a b:Int) (h:VC.holds (nb132 L F M a b)):Holds (vcE L F M [] [] 3 (Db132 a0) (Sb132 M) (a,b,())):=Holds.of_eq (by kernel_rfl) h
def nb133 (L:Lv) (F:BxF) (M:BeF) (a:Int)  : VC :=
 .ok ((L.ar .add .i64 2 (L.ar .mul .i64 2 a),()) = (BeF.bef M a,()))
theorem nb133_go (L:Lv) (F:BxF) (M:BeF) (a:Int) (h:VC.holds (nb133 L F M a)):Holds (vcE L F M [] [] 3 (Db133 a0) (Sb133 M) (a,())):=Holds.of_eq (by kernel_rfl) h
def nb134 (L:Lv) (F:BxF) (M:BeF) (a b c:Int)  : VC :=
 .ok (((10,5,0,b,c,a),()) = (BeF.iswap M a b c,()))
theorem nb134_go (L:Lv) (F:BxF) (M:BeF) (a b c:Int) (h:VC.holds (nb134 L F M a b c)):Holds (vcE L F M [] [] 3 (Db134 a0) (Sb134 M) (a,b,c,())):=Holds.of_eq (by kernel_rfl) h
def nb135 (L:Lv) (F:BxF) (M:BeF) (a:Int)  : VC :=
 .obl (BeF.pBf M a) (.ok ((L.ar .add .i64 (BeF.bef M a) 1,()) = (BeF.bel M a,())))
theorem nb135_go (L:Lv) (F:BxF) (M:BeF) (a:Int) (h:VC.holds (nb135 L F M a)):Holds (vcE L F M [] [133] 3 (Db135 a0) (Sb135 M) (a,())):=Holds.of_eq (by kernel_rfl) h
def nb75 (L:Lv) (F:BxF) (M:BeF) (b:BlD) (i:Int)  : VC :=
 let z1:=b.2.2;
 let z2:=z1.1;
 let z3:=z1.2.1;
 let z4:=L.inR i (L.llen It z3);
 let z5:=L.ar .add .i64 i 1;
 let z6:=Prod.snd (BeF.iset M 8 z5);
 let z7:=z6.2;
 let z8:=z7.2;
 let z9:=z8.2;
 let z10:=(Prod.fst (BeF.iset M 8 z5),z6.1,z7.1,z8.1,z9.1,z9.2);
 let z11:=L.get It z3 (L.toN i);
 let z12:=Prod.snd (BeF.iset M 9 z11);
 let z13:=z12.2;
 let z14:=z13.2;
 let z15:=z14.2;
 let z16:=(Prod.fst (BeF.iset M 9 z11),z12.1,z13.1,z14.1,z15.1,z15.2);
 let z17:=Prod.snd (BeF.ilod M 1 0);
 let z18:=z17.2;
 let z19:=z18.2;
 let z20:=z19.2;
 let z21:=(Prod.fst (BeF.ilod M 1 0),z17.1,z18.1,z19.1,z20.1,z20.2);
 let z22:=Prod.snd (BeF.icalc M 6 5 9 1);
 let z23:=z22.2;
 let z24:=z23.2;
 let z25:=z24.2;
 let z26:=(Prod.fst (BeF.icalc M 6 5 9 1),z22.1,z23.1,z24.1,z25.1,z25.2);
 let z27:=(L.take In [z10,z16,z21,z26,(14,5,0,0,0,L.ar .add .i64 0 12)] 5);
 let z28:=L.add (L.llen In []) (L.llen In z27);
 let z29:=L.take In (L.app In [] z27) z28;
 let z30:=Prod.snd (BeF.ilod M 2 1);
 let z31:=z30.2;
 let z32:=z31.2;
 let z33:=z32.2;
 let z34:=Prod.snd (BeF.isto M 2 (BeF.bef M i));
 let z35:=z34.2;
 let z36:=z35.2;
 let z37:=z36.2;
 let z38:=Prod.snd (BeF.iswap M 1 2 8);
 let z39:=z38.2;
 let z40:=z39.2;
 let z41:=z40.2;
 let z42:=(L.take In [(Prod.fst (BeF.ilod M 2 1),z30.1,z31.1,z32.1,z33.1,z33.2),(Prod.fst (BeF.isto M 2 (BeF.bef M i)),z34.1,
  Prod.fst z35,z36.1,z37.1,z37.2),(Prod.fst (BeF.iswap M 1 2 8),z38.1,z39.1,z40.1,z41.1,z41.2),(14,5,0,0,0,
  L.ar .add .i64 0 5)] 4);
 let z43:=L.llen In z42;
 let z44:=L.add (L.llen In z29) z43;
 let z45:=L.take In (L.app In z29 z42) z44;
 let z46:=L.llen In z45;
 let z47:=Prod.snd (BeF.isto M 0 (BeF.bel M i));
 let z48:=z47.2;
 let z49:=z48.2;
 let z50:=z49.2;
 let z51:=(L.take In [(12,0,0,0,0,BeF.bel M i),(Prod.fst (BeF.isto M 0 (BeF.bel M i)),z47.1,z48.1,z49.1,z50.1,z50.2),(13,0,0,
  0,0,L.ar .add .i64 0 2),(15,1,0,0,0,0)] 4);
 let z52:=L.llen In z51;
 let z53:=L.add z46 z52;
 let z54:=(L.take In [z21,z26,(14,5,0,0,0,L.ar .add .i64 0 12)] 3);
 let z55:=L.add z46 (L.llen In z54);
 let z56:=L.take In (L.app In z45 z54) z55;
 let z57:=L.add (L.llen In z56) z52;
 let z58:=(L.take In [z10,z16,z21,z26,(14,5,0,0,0,L.ar .add .i64 0 15)] 5);
 let z59:=L.add (L.llen In []) (L.llen In z58);
 let z60:=L.take In (L.app In [] z58) z59;
 let z61:=L.add (L.llen In z60) z43;
 let z62:=L.take In (L.app In z60 z42) z61;
 let z63:=L.llen In z62;
 let z64:=L.add z63 z52;
 let z65:=(L.take In [z21,z26,(14,5,0,0,0,L.ar .add .i64 0 15)] 3);
 let z66:=L.add z63 (L.llen In z65);
 let z67:=L.take In (L.app In z62 z65) z66;
 let z68:=L.add (L.llen In z67) z52; .br z2 (.obl True (.obl z4 (.obl True (.obl True (.obl True (.obl (L.room z28 48) (.obl True (.obl (BeF.pBf M i)
  (.obl True (.obl True (.obl (L.room z44 48) (.br z2 (.obl (BeF.pBf M i) (.obl (BeF.pBf M i) (.obl True (.obl (L.room z53 48) (.ok ((L.take In (L.app
  In z45 z51) z53,()) = (BeF.wtr M b i,()))))))) (.obl True (.obl True (.obl (L.room z55 48) (.obl (BeF.pBf M i) (.obl (BeF.pBf M i) (.obl True (.obl (L.room
  z57 48) (.ok ((L.take In (L.app In z56 z51) z57,()) = (BeF.wtr M b i,())))))))))))))))))))))) (.obl True (.obl z4 (.obl True (.obl True (.obl True (.obl
  (L.room z59 48) (.obl True (.obl (BeF.pBf M i) (.obl True (.obl True (.obl (L.room z61 48) (.br z2 (.obl (BeF.pBf M i) (.obl (BeF.pBf M i) (.obl True
  (.obl (L.room z64 48) (.ok ((L.take In (L.app In z62 z51) z64,()) = (BeF.wtr M b i,()))))))) (.obl True (.obl True (.obl (L.room z66 48) (.obl (BeF.pBf
  M i) (.obl (BeF.pBf M i) (.obl True (.obl (L.room z68 48) (.ok ((L.take In (L.app In z67 z51) z68,()) = (BeF.wtr M b i,()))))))))))))))))))))))
theorem nb75_go (L:Lv) (F:BxF) (M:BeF) (b:BlD) (i:Int) (h:VC.holds (nb75 L F M b i)):Holds (vcE L F M [] [127,128,129,130,131,132,133,134,135,136] 3 (Db75x a0) (Sb75 M) (b,i,())):=Holds.of_eq (by kernel_rfl) h
def nb77 (L:Lv) (F:BxF) (M:BeF) (I:Ds [.sl In,It,It]→Prop) (mu:Ds [.sl In,It,It]→Nat) (b:BlD) (i:Int)  : VC :=
 let z1:=Prod.snd (BeF.iset M 7 1);
 let z2:=z1.2;
 let z3:=z2.2;
 let z4:=z3.2;
 let z5:=(Prod.fst (BeF.iset M 7 1),z1.1,z2.1,z3.1,z4.1,z4.2);
 let z6:=L.take In [z5] 1;
 let z7:=L.add (L.llen In []) (L.llen In z6);
 let z8:=b.2.2;
 let z9:=z8.2;
 let z10:=z9.2;
 let z11:=L.get (Ty.sl It) z10 (L.toN i);
 let z12:=L.llen It z11;
 let z13:=L.cast z12;
 let z14:=b.1;
 let z15:=b.2.1;
 let z16:=z8.1;
 let z17:=z9.1;
 let z18:=L.app In [] z6;
 let z19:=Int × Int × Int × Int × Int × Int;
 let z20:=Prod.snd (BeF.ilod M 1 0);
 let z21:=z20.2;
 let z22:=z21.2;
 let z23:=z22.2;
 let z24:=(Prod.fst (BeF.ilod M 1 0),z20.1,z21.1,z22.1,z23.1,z23.2);
 let z25:=Prod.snd (BeF.icalc M 6 5 3 1);
 let z26:=z25.2;
 let z27:=z26.2;
 let z28:=z27.2;
 let z29:=(Prod.fst (BeF.icalc M 6 5 3 1),z25.1,z26.1,z27.1,z28.1,z28.2);
 let z30:=Prod.snd (BeF.iswap M 0 1 3);
 let z31:=z30.2;
 let z32:=z31.2;
 let z33:=z32.2;
 let z34:=(Prod.fst (BeF.iswap M 0 1 3),z30.1,z31.1,z32.1,z33.1,z33.2);
 let z35:=Prod.snd (BeF.ilod M 2 1);
 let z36:=z35.2;
 let z37:=z36.2;
 let z38:=z37.2;
 let z39:=(Prod.fst (BeF.ilod M 2 1),z35.1,z36.1,z37.1,z38.1,z38.2);
 let z40:=Prod.snd (BeF.iswap M 1 2 0);
 let z41:=z40.2;
 let z42:=z41.2;
 let z43:=z42.2;
 let z44:=(Prod.fst (BeF.iswap M 1 2 0),z40.1,z41.1,z42.1,z43.1,z43.2);
 let z45:=Prod.snd (BeF.icalc M 2 4 2 2);
 let z46:=z45.2;
 let z47:=z46.2;
 let z48:=z47.2;
 let z49:=(L.take In [(Prod.fst (BeF.icalc M 2 4 2 2),z45.1,z46.1,z47.1,z48.1,z48.2),(8,6,4,0,0,0),(9,7,4,0,0,1)] 3);
 let z50:=L.llen In z49;
 let z51:=Prod.snd (BeF.icalc M 2 2 6 0);
 let z52:=z51.2;
 let z53:=z52.2;
 let z54:=z53.2;
 let z55:=(Prod.fst (BeF.icalc M 2 2 6 0),z51.1,z52.1,z53.1,z54.1,z54.2); .obl True (.obl (L.room z7 48) (.obl (L.inR i
  (L.llen (Ty.sl It) z10)) (.obl (St.mk 33 [(5,V.c (C.ptr 2 0)),(19,V.c (C.sl It z11)),(20,V.c (C.int .i64 z13)),(21,V.c (C.int .i64 0))] [(0,Ob.amb),
  (1,Ob.box 106 [C.int .i64 z14,C.int .i64 z15,C.sym z16,C.sl It z17,C.sl (Ty.sl It) z10]),(2,Ob.box 182 [C.own 5 z7,C.int .i64 0]),(3,Ob.row 140 In
  [z5]),(5,Ob.row 140 In z18)] 6 = St.mk 33 [(5,V.c (C.ptr 2 0)),(19,V.c (C.sl It z11)),(20,V.c (C.int .i64 z13)),(21,V.c (C.int .i64 0))] [(0,Ob.amb),(1,
  Ob.box 106 [C.int .i64 z14,C.int .i64 z15,C.sym z16,C.sl It z17,C.sl (Ty.sl It) z10]),(2,Ob.box 182 [C.own 5 (L.llen In z18),C.int .i64 0]),(3,
  Ob.row 140 In [z5]),(5,Ob.row 140 In z18)] 6) (.obl (I (L.app In [] z6,0,0,())) (.all (List z19 × Int × Int × Unit) fun (v1:List (Int × Int × Int × Int × Int × Int)
  × Int × Int × Unit) =>
 let z56:=v1.2.2.1;
 let z57:=v1.1;
 let z58:=L.llen In z57;
 let z59:=L.take In z57 z58;
 let z60:=L.get It z11 (L.toN z56);
 let z61:=Prod.snd (BeF.iset M 3 z60);
 let z62:=z61.2;
 let z63:=z62.2;
 let z64:=z63.2;
 let z65:=L.cast z58;
 let z66:=(L.take In [(Prod.fst (BeF.iset M 3 z60),z61.1,z62.1,z63.1,z64.1,z64.2),z24,z29,(14,5,0,0,0,L.ar .add
  .i64 z65 17),z34,(14,5,0,0,0,L.ar .add .i64 z65 1)] 6);
 let z67:=L.add (L.llen In z59) (L.llen In z66);
 let z68:=L.take In (L.app In z59 z66) z67;
 let z69:=(L.take In [z39,(14,2,0,0,0,L.ar .add .i64 z65 17),z44,(14,5,0,0,0,L.ar .add .i64 z65 6),(14,2,0,0,0,L.ar
  .add .i64 z65 17)] 5);
 let z70:=L.add (L.llen In z68) (L.llen In z69);
 let z71:=L.take In (L.app In z68 z69) z70;
 let z72:=L.add (L.llen In z71) z50;
 let z73:=L.take In (L.app In z71 z49) z72;
 let z74:=(L.take In [z55,(14,2,0,0,0,L.ar .add .i64 z65 17),(13,0,0,0,0,L.ar .add .i64 z65 11)] 3);
 let z75:=L.add (L.llen In z73) (L.llen In z74);
 let z76:=L.ar .add .i64 z56 1;
 let z77:=L.app In z73 z74;
 let z78:=(L.app In z73 z74,L.cast z58,L.ar .add .i64 z56 1,()); .imp (I v1) (.br (L.cmp .lss z56 z13) (.obl (L.inR z56 z12) (.obl True
  (.obl True (.obl True (.obl True (.obl (L.room z67 48) (.obl True (.obl True (.obl (L.room z70 48) (.obl True (.obl (L.room z72 48) (.obl True
  (.obl (L.room z75 48) (.ok (St.mk 33 [(5,V.c (C.ptr 2 0)),(19,V.c (C.sl It z11)),(20,V.c (C.int .i64 z13)),(21,V.c (C.int .i64 z76))] [(0,Ob.amb),
  (1,Ob.box 106 [C.int .i64 z14,C.int .i64 z15,C.sym z16,C.sl It z17,C.sl (Ty.sl It) z10]),(2,Ob.box 182 [C.own 5 z75,C.int .i64 z65]),(3,Ob.row 140
  In [z5]),(5,Ob.row 140 In z77)] 6 = St.mk 33 [(5,V.c (C.ptr 2 0)),(19,V.c (C.sl It z11)),(20,V.c (C.int .i64 z13)),(21,V.c (C.int .i64 z76))] [(0,Ob.amb),
  (1,Ob.box 106 [C.int .i64 z14,C.int .i64 z15,C.sym z16,C.sl It z17,C.sl (Ty.sl It) z10]),(2,Ob.box 182 [C.own 5 (L.llen In z77),C.int .i64 z65]),
  (3,Ob.row 140 In [z5]),(5,Ob.row 140 In z77)] 6∧I z78∧mu z78 < mu v1))))))))))))))) (.ok ((L.take In z57 z58,()) = (BeF.wrt M b i,())))))))))
theorem nb77_go (L:Lv) (F:BxF) (M:BeF) (I:Ds [.sl In,It,It]→Prop) (mu:Ds [.sl In,It,It]→Nat) (b:BlD) (i:Int) (h:VC.holds (nb77 L F M I mu b i)):Holds (vcE L F M [] [127,128,129,130,131,134,136,137] 4 (Db77 (ab77 L I mu)) (Sb77 M) (b,i,())):=Holds.of_eq (by kernel_rfl) h
theorem okb128 (F:BxF) (M:BeF) (h:M.iset = fun a n=>(1,a,0,0,0,n)):SpecOk prog 128 (Sb128 M):=by
 refine Zc hm hE Db128 fnokb128 _ fun (z:Int × Int × Unit) hpre=>?_
 obtain ⟨a,b,⟨⟩⟩:=z
 refine Yp _ 3 a0 (Zs (T:=tabO [] (eT F M)) (l:=[]) Z4) ?_
 refine nb128_go Lv.std F M a b ?_
 simp only [nb128,VC.holds,ZJ,ZO,Zb,Zh,Zm,Yj,Ym,Z5,ZM,Yl,Yk,Yf,ZX,ZY,ZT,ZR,Ye,ZN,Zz,ZD,Zr,Z1,ZS,Z2,ZK,ZW,Yb,ZV,ZP,ZQ,Zt,ZH,Ya,Z3,ZI,Yd,Yc,Z6,Z7,Zg,ZC,ZL,ZU,Z8,Z9,Zd,Ze,ZA,ZB,Zu,Zv,Zx,Zy,Zk,Zl,Zp,Zq,Zi,Zj,Zn,Zo,ZG,ZF,ZZ,Yg,ZE,h]
theorem okb129 (F:BxF) (M:BeF) (h:M.ilod = fun a n=>(8,a,0,0,0,n)):SpecOk prog 129 (Sb129 M):=by
 refine Zc hm hE Db129 fnokb129 _ fun (z:Int × Int × Unit) hpre=>?_
 obtain ⟨a,b,⟨⟩⟩:=z
 refine Yp _ 3 a0 (Zs (T:=tabO [] (eT F M)) (l:=[]) Z4) ?_
 refine nb129_go Lv.std F M a b ?_
 simp only [nb129,VC.holds,ZJ,ZO,Zb,Zh,Zm,Yj,Ym,Z5,ZM,Yl,Yk,Yf,ZX,ZY,ZT,ZR,Ye,ZN,Zz,ZD,Zr,Z1,ZS,Z2,ZK,ZW,Yb,ZV,ZP,ZQ,Zt,ZH,Ya,Z3,ZI,Yd,Yc,Z6,Z7,Zg,ZC,ZL,ZU,Z8,Z9,Zd,Ze,ZA,ZB,Zu,Zv,Zx,Zy,Zk,Zl,Zp,Zq,Zi,Zj,Zn,Zo,ZG,ZF,ZZ,Yg,ZE,h]
theorem okb130 (F:BxF) (M:BeF) (h:M.icalc = fun o a b c=>(o,a,b,c,0,0)):SpecOk prog 130 (Sb130 M):=by
 refine Zc hm hE Db130 fnokb130 _ fun (z:Int × Int × Int × Int × Unit) hpre=>?_
 obtain ⟨o,a,b,c,⟨⟩⟩:=z
 refine Yp _ 3 a0 (Zs (T:=tabO [] (eT F M)) (l:=[]) Z4) ?_
 refine nb130_go Lv.std F M o a b c ?_
 simp only [nb130,VC.holds,ZJ,ZO,Zb,Zh,Zm,Yj,Ym,Z5,ZM,Yl,Yk,Yf,ZX,ZY,ZT,ZR,Ye,ZN,Zz,ZD,Zr,Z1,ZS,Z2,ZK,ZW,Yb,ZV,ZP,ZQ,Zt,ZH,Ya,Z3,ZI,Yd,Yc,Z6,Z7,Zg,ZC,ZL,ZU,Z8,Z9,Zd,Ze,ZA,ZB,Zu,Zv,Zx,Zy,Zk,Zl,Zp,Zq,Zi,Zj,Zn,Zo,ZG,ZF,ZZ,Yg,ZE,h]
theorem okb132 (F:BxF) (M:BeF) (h:M.isto = fun a n=>(9,a,0,0,0,n)):SpecOk prog 132 (Sb132 M):=by
 refine Zc hm hE Db132 fnokb132 _ fun (z:Int × Int × Unit) hpre=>?_
 obtain ⟨a,b,⟨⟩⟩:=z
 refine Yp _ 3 a0 (Zs (T:=tabO [] (eT F M)) (l:=[]) Z4) ?_
 refine nb132_go Lv.std F M a b ?_
 simp only [nb132,VC.holds,ZJ,ZO,Zb,Zh,Zm,Yj,Ym,Z5,ZM,Yl,Yk,Yf,ZX,ZY,ZT,ZR,Ye,ZN,Zz,ZD,Zr,Z1,ZS,Z2,ZK,ZW,Yb,ZV,ZP,ZQ,Zt,ZH,Ya,Z3,ZI,Yd,Yc,Z6,Z7,Zg,ZC,ZL,ZU,Z8,Z9,Zd,Ze,ZA,ZB,Zu,Zv,Zx,Zy,Zk,Zl,Zp,Zq,Zi,Zj,Zn,Zo,ZG,ZF,ZZ,Yg,ZE,h]
theorem okb133 (F:BxF) (M:BeF) (h:M.bef = fun i=>2 + 2 * i) (hp:M.pBf = pBfF):SpecOk prog 133 (Sb133 M):=by
 refine Zc hm hE Db133 fnokb133 _ fun (z:Int × Unit) hpre=>?_
 obtain ⟨a,⟨⟩⟩:=z
 refine Yp _ 3 a0 (Zs (T:=tabO [] (eT F M)) (l:=[]) Z4) ?_
 refine nb133_go Lv.std F M a ?_
 have hpre':M.pBf a:=hpre
 rw [hp] at hpre'
 obtain ⟨g1,g2⟩:=hpre'
 simp only [nb133,VC.holds,ZJ,ZO,Zb,Zh,Zm,Yj,Ym,Z5,ZM,Yl,Yk,Yf,ZX,ZY,ZT,ZR,Ye,ZN,Zz,ZD,Zr,Z1,ZS,Z2,ZK,ZW,Yb,ZV,ZP,ZQ,Zt,ZH,Ya,Z3,ZI,Yd,Yc,Z6,Z7,Zg,ZC,ZL,ZU,Z8,Z9,Zd,Ze,ZA,ZB,Zu,Zv,Zx,Zy,Zk,Zl,Zp,Zq,Zi,Zj,Zn,Zo,ZG,ZF,ZZ,Yg,ZE,h,Prod.mk.injEq,and_true]
 rw [Yn (x:=2 * a) (by omega) (by omega),Yn (by omega) (by omega)]
theorem okb134 (F:BxF) (M:BeF) (h:M.iswap = fun a b c=>(10,5,0,b,c,a)):SpecOk prog 134 (Sb134 M):=by
 refine Zc hm hE Db134 fnokb134 _ fun (z:Int × Int × Int × Unit) hpre=>?_
 obtain ⟨a,b,c,⟨⟩⟩:=z
 refine Yp _ 3 a0 (Zs (T:=tabO [] (eT F M)) (l:=[]) Z4) ?_
 refine nb134_go Lv.std F M a b c ?_
 simp only [nb134,VC.holds,ZJ,ZO,Zb,Zh,Zm,Yj,Ym,Z5,ZM,Yl,Yk,Yf,ZX,ZY,ZT,ZR,Ye,ZN,Zz,ZD,Zr,Z1,ZS,Z2,ZK,ZW,Yb,ZV,ZP,ZQ,Zt,ZH,Ya,Z3,ZI,Yd,Yc,Z6,Z7,Zg,ZC,ZL,ZU,Z8,Z9,Zd,Ze,ZA,ZB,Zu,Zv,Zx,Zy,Zk,Zl,Zp,Zq,Zi,Zj,Zn,Zo,ZG,ZF,ZZ,Yg,ZE,h]
theorem okb135 (F:BxF) (M:BeF) (h:M.bel = fun i=>2 + 2 * i + 1) (hp:M.pBf = pBfF) (h1:M.bef = fun i=>2 + 2 * i) (k1:SpecOk prog 133 (Sb133 M)):SpecOk prog 135 (Sb135 M):=by
 refine Zc hm hE Db135 fnokb135 _ fun (z:Int × Unit) hpre=>?_
 obtain ⟨a,⟨⟩⟩:=z
 refine Yp _ 3 a0 (Zs (T:=tabO [] (eT F M)) (l:=[133]) (Za (Yh k1 (by kernel_rfl)) Z4)) ?_
 refine nb135_go Lv.std F M a ?_
 have hpre':M.pBf a:=hpre
 rw [hp] at hpre'
 obtain ⟨g1,g2⟩:=hpre'
 simp only [nb135,VC.holds,ZJ,ZO,Zb,Zh,Zm,Yj,Ym,Z5,ZM,Yl,Yk,Yf,ZX,ZY,ZT,ZR,Ye,ZN,Zz,ZD,Zr,Z1,ZS,Z2,ZK,ZW,Yb,ZV,ZP,ZQ,Zt,ZH,Ya,Z3,ZI,Yd,Yc,Z6,Z7,Zg,ZC,ZL,ZU,Z8,Z9,Zd,Ze,ZA,ZB,Zu,Zv,Zx,Zy,Zk,Zl,Zp,Zq,Zi,Zj,Zn,Zo,ZG,ZF,ZZ,Yg,ZE,h,h1,hp,Prod.mk.injEq,and_true]
 rw [Yn (by omega) (by omega)]
 exact ⟨⟨g1,g2⟩,rfl⟩
theorem w0 (n:Int) (h0:0≤n) (h1:n≤1000000000):IntKind.i64.wrap (0 + n) = n:=by rw [Yn (by omega) (by omega)]; omega
theorem okb75 (F:BxF) (M:BeF) (h:M.wtr = wtrF) (hp:M.pWt = pWtF) (hp1:M.pBf = pBfF) (e1:M.iset = fun a n=>(1,a,0,0,0,n)) (e2:M.ilod = fun a n=>(8,a,0,0,0,n)) (e3:M.icalc = fun o a b c=>(o,a,b,c,0,0)) (e4:M.isto = fun a n=>(9,a,0,0,0,n)) (e5:M.iswap = fun a b c=>(10,5,0,b,c,a)) (e6:M.bef = fun i=>2 + 2 * i) (e7:M.bel = fun i=>2 + 2 * i + 1)
  (k1:SpecOk prog 128 (Sb128 M)) (k2:SpecOk prog 129 (Sb129 M)) (k3:SpecOk prog 130 (Sb130 M)) (k4:XOk prog 131 zeroX) (k5:SpecOk prog 132 (Sb132 M)) (k6:SpecOk prog 133 (Sb133 M)) (k7:SpecOk prog 134 (Sb134 M)) (k8:SpecOk prog 135 (Sb135 M)):SpecOk prog 75 (Sb75 M):=by
 refine Zc hm hE Db75x fnokb75x _ fun (z:BlD × Int × Unit) hpre=>?_
 obtain ⟨b,i,⟨⟩⟩:=z
 have hpre':M.pWt b i:=hpre
 rw [hp] at hpre'
 obtain ⟨⟨g1,g2,g3⟩,g4,g5⟩:=hpre'
 refine Yp _ 3 a0 (Zs (T:=tabO [] (eT F M)) (l:=[127,128,129,130,131,132,133,134,135,136]) (Za (Yy (fnokb127 a0) (by kernel_rfl)) (Za (Yh k1 (by kernel_rfl)) (Za (Yh k2 (by kernel_rfl)) (Za (Yh k3 (by kernel_rfl)) (Za (XB k4 (by kernel_rfl)) (Za (Yh k5 (by kernel_rfl)) (Za (Yh k6 (by kernel_rfl)) (Za (Yh k7 (by kernel_rfl)) (Za (Yh k8 (by kernel_rfl)) (Za (Yy (fnokb136 a0) (by kernel_rfl)) Z4))))))))))) ?_
 refine nb75_go Lv.std F M b i ?_
 have wi:IntKind.i64.wrap (i + 1) = i + 1:=Yn (by omega) (by omega)
 simp only [nb75,VC.holds,ZJ,ZO,Zb,Zh,Zm,Yj,Ym,Z5,ZM,Yl,Yk,Yf,ZX,ZY,ZT,ZR,Ye,ZN,Zz,ZD,Zr,Z1,ZS,Z2,ZK,ZW,Yb,ZV,ZP,ZQ,Zt,ZH,Ya,Z3,ZI,Yd,Yc,Z6,Z7,Zg,ZC,ZL,ZU,Z8,Z9,Zd,Ze,ZA,ZB,Zu,Zv,Zx,Zy,Zk,Zl,Zp,Zq,Zi,Zj,Zn,Zo,ZG,ZF,ZZ,Yg,ZE,h,hp1,e1,e2,e3,e4,e5,e6,e7,wi,w0 12 (by omega) (by omega),w0 5 (by omega) (by omega),w0 15 (by omega) (by omega),w0 2 (by omega) (by omega),List.take_succ_cons,List.take_zero,List.take_nil,List.nil_append,List.cons_append,List.append_nil,List.length_cons,List.length_nil,Nat.zero_add,Nat.reduceAdd,Nat.reduceMul,Nat.reduceLeDiff,Prod.mk.injEq,and_true,true_and,wtrF]
 have hb:pBfF i:=⟨g4,by omega⟩
 exact ⟨fun c=>⟨⟨g4,g5⟩,hb,fun _=>⟨hb,hb,by rw [c]; rfl⟩,fun d=>by rw [c] at d; cases d⟩,fun c=>⟨⟨g4,g5⟩,hb,(fun d=>by rw [c] at d; cases d),fun _=>⟨hb,hb,by rw [c]; rfl⟩⟩⟩
theorem tkI (a b:List InD) (n:Nat) (h:b.length = n):List.take (a.length + n) (a ++ b) = a ++ b:=List.take_of_length_le (by rw [List.length_append,h]; exact Nat.le_refl _)
theorem okb77 (F:BxF) (M:BeF) (h:M.wrt = wrtF) (hp:M.pWr = pWrF) (e1:M.iset = fun a n=>(1,a,0,0,0,n)) (e2:M.ilod = fun a n=>(8,a,0,0,0,n)) (e3:M.icalc = fun o a b c=>(o,a,b,c,0,0)) (e5:M.iswap = fun a b c=>(10,5,0,b,c,a))
  (k1:SpecOk prog 128 (Sb128 M)) (k2:SpecOk prog 129 (Sb129 M)) (k3:SpecOk prog 130 (Sb130 M)) (k4:XOk prog 131 zeroX) (k7:SpecOk prog 134 (Sb134 M)):SpecOk prog 77 (Sb77 M):=by
 refine Zc hm hE Db77 fnokb77 _ fun (z:BlD × Int × Unit) hpre=>?_
 obtain ⟨b,i,⟨⟩⟩:=z
 have hpre':M.pWr b i:=hpre
 rw [hp] at hpre'
 obtain ⟨⟨g1,g2,g3⟩,g4,g5⟩:=hpre'
 obtain ⟨k,rfl⟩:=Yq g4
 have hk:k < b.2.2.2.2.length:=by omega
 obtain ⟨row,hrow⟩:∃ r,r = (b.2.2.2.2[k]?).getD []:=⟨_,rfl⟩
 have g6:row.length≤1000:=by rw [hrow,List.getElem?_eq_getElem hk]; exact g3 _ (List.getElem_mem hk)
 let I:List InD × Int × Int × Unit→Prop:=fun x=>(0≤x.2.2.1∧x.2.2.1≤row.length)∧x.1 = ringsF (row.take x.2.2.1.toNat)
 let mu:List InD × Int × Int × Unit→Nat:=fun x=>(row.length - x.2.2.1).toNat
 refine Yp _ 4 (ab77 Lv.std I mu) (Zs (T:=tabO [] (eT F M)) (l:=[127,128,129,130,131,134,136,137]) (Za (Yy (fnokb127 a0) (by kernel_rfl)) (Za (Yh k1 (by kernel_rfl)) (Za (Yh k2 (by kernel_rfl)) (Za (Yh k3 (by kernel_rfl)) (Za (XB k4 (by kernel_rfl)) (Za (Yh k7 (by kernel_rfl)) (Za (Yy (fnokb136 a0) (by kernel_rfl)) (Za (Yy (fnokb137 a0) (by kernel_rfl)) Z4))))))))) ?_
 refine nb77_go Lv.std F M I mu b k ?_
 simp only [nb77,VC.holds,ZJ,ZO,Zb,Zh,Zm,Yj,Ym,Z5,ZM,Yl,Yk,Yf,ZX,ZY,ZT,ZR,Ye,ZN,Zz,ZD,Zr,Z1,ZS,Z2,ZK,ZW,Yb,ZV,ZP,ZQ,Zt,ZH,Ya,Z3,ZI,Yd,Yc,Z6,Z7,Zg,ZC,ZL,ZU,Z8,Z9,Zd,Ze,ZA,ZB,Zu,Zv,Zx,Zy,Zk,Zl,Zp,Zq,Zi,Zj,Zn,Zo,ZG,ZF,ZZ,Yg,ZE,h,tkI,e1,e2,e3,e5,Int.toNat_natCast,← hrow,List.take_succ_cons,List.take_zero,List.take_nil,List.take_length,List.nil_append,List.cons_append,List.append_nil,List.length_cons,List.length_nil,Nat.zero_add,Nat.reduceAdd,Nat.reduceMul,Nat.reduceLeDiff,Prod.mk.injEq,and_true,true_and]
 refine ⟨⟨g4,by omega⟩,⟨⟨Int.le_refl 0,by show (0:Int)≤row.length; omega⟩,rfl⟩,?_⟩
 rintro ⟨l,a,x,⟨⟩⟩ ⟨⟨i1,i2⟩,i3⟩
 simp only at i1 i2 i3 ⊢
 obtain ⟨j,rfl⟩:=Yq i1
 rw [Int.toNat_natCast] at i3 ⊢
 have hl:l.length = 1 + 17 * j:=by rw [i3,rings_len,List.length_take]; omega
 have wl:∀ n:Int,0≤n→n≤100→IntKind.i64.wrap ((l.length:Int) + n) = (l.length:Int) + n:=fun n h0 h1=>Yn (by omega) (by omega)
 rw [wl 17 (by omega) (by omega),wl 1 (by omega) (by omega),wl 6 (by omega) (by omega),wl 11 (by omega) (by omega)]
 refine ⟨fun hlt=>?_,fun hge=>?_⟩
 ·have hj:j < row.length:=by omega
  rw [wr hlt (by omega)]
  refine ⟨⟨by omega,hlt⟩,⟨by omega,by omega⟩,?_,?_,?_,?_,⟨⟨by show (0:Int)≤((j + 1:Nat):Int); omega,by show ((j + 1:Nat):Int)≤row.length; omega⟩,?_⟩,by show ((row.length:Int) - ((j + 1:Nat):Int)).toNat < ((row.length:Int) - j).toNat; omega⟩
  ·simp only [List.length_append,List.length_cons,List.length_nil]; omega
  ·simp only [List.length_append,List.length_cons,List.length_nil]; omega
  ·simp only [List.length_append,List.length_cons,List.length_nil]; omega
  ·simp only [List.length_append,List.length_cons,List.length_nil]
  ·show _ = ringsF (row.take ((j + 1:Nat):Int).toNat)
   rw [Int.toNat_natCast,rings_take row j hj,← i3]
   simp only [List.append_assoc,List.cons_append,List.nil_append]
   rfl
 ·rw [i3,List.take_of_length_le (by omega),hrow]
  unfold wrtF
  rw [Int.toNat_natCast]
end Go.Proofs.Tryz
namespace Go.Proofs.Tryz
open Go Go.VM
def lstN (m:Nat) (ws:List Int):Nat→Int→List (Int × Unit)
 | 0,_=>[]
 | k + 1,n=>if n < 1∨(m:Int) < n then [] else (n - 1,()) :: lstN m ws k ((ws[(2 + 2 * (n - 1)).toNat]?).getD 0)
def lstF (b:BlD) (ws:List Int):List (Int × Unit):=lstN b.2.2.2.1.length ws b.2.2.2.1.length ((ws[1]?).getD 0)
theorem lstN_len (m:Nat) (ws:List Int):∀ k n,(lstN m ws k n).length≤k
 | 0,_=>Nat.le_refl _
 | k + 1,n=>by
   unfold lstN; split
   ·exact Nat.zero_le _
   ·exact Nat.succ_le_succ (lstN_len m ws k _)
def pItF (b:BlD) (ws:List Int):Prop:=bBF b∧2 + 2 * b.2.2.2.1.length≤ws.length
def pVF (b:BlD) (ws:List Int) (t:List (List Int)):Prop:=pItF b ws∧b.2.2.2.1.length≤t.length∧∀ x ∈ t,x.length≤1000000
def viewF (b:BlD) (ws:List Int) (t:List (List Int)):BeD:=((ws[0]?).getD 0,(List.range b.2.2.2.1.length).map (fun (i:Nat)=>(t[i]?).getD []),(lstF b ws).map Prod.fst)
theorem view_bE {b:BlD} {ws:List Int} {t:List (List Int)} (h:pVF b ws t):bEF (viewF b ws t):=by
 obtain ⟨⟨⟨h1,h2,h3⟩,h4⟩,h5,h6⟩:=h
 refine ⟨by show ((List.range _).map _).length≤_; rw [List.length_map,List.length_range]; omega,?_,fun l hl=>?_⟩
 ·show ((lstF b ws).map Prod.fst).length≤_
  rw [List.length_map]
  have:=lstN_len b.2.2.2.1.length ws b.2.2.2.1.length ((ws[1]?).getD 0)
  unfold lstF; omega
 ·obtain ⟨i,hi,rfl⟩:=List.mem_map.1 hl
  have hi':i < t.length:=by have:=List.mem_range.1 hi; omega
  rw [List.getElem?_eq_getElem hi']
  exact h6 _ (List.getElem_mem hi')
theorem prg_len1 (b:BlD):(prgF b).1.length = 2 + 2 * b.2.2.2.1.length:=by show ((List.replicate _ _).set _ _).length = _; rw [List.length_set,List.length_replicate]
theorem prg_len2 (b:BlD):(prgF b).2.1.length = b.2.2.2.1.length + b.2.2.2.2.length:=by show (List.map _ _ ++ List.map _ _).length = _; rw [List.length_append,List.length_map,List.length_map,List.length_range,List.length_range]
theorem wtr_len (b:BlD) (i:Int):(wtrF b i).length≤16:=by unfold wtrF; cases b.2.2.1 <;> simp
theorem prg_bW {b:BlD} (h:bBF b):bW (prgF b):=by
 obtain ⟨h1,h2,h3⟩:=h
 refine ⟨by rw [prg_len1]; omega,by rw [prg_len2]; omega,fun l hl=>?_⟩
 have hl':l ∈ (List.range b.2.2.2.1.length).map (fun (i:Nat)=>wtrF b (i:Int)) ++ (List.range b.2.2.2.2.length).map (fun (k:Nat)=>wrtF b (k:Int)):=hl
 rcases List.mem_append.1 hl' with h | h
 ·obtain ⟨i,_,rfl⟩:=List.mem_map.1 h
  have:=wtr_len b i; omega
 ·obtain ⟨k,hk,rfl⟩:=List.mem_map.1 h
  have hk':=List.mem_range.1 hk
  unfold wrtF
  rw [rings_len,Int.toNat_natCast,List.getElem?_eq_getElem hk']
  have:=h3 _ (List.getElem_mem hk')
  show 1 + 17 * (b.2.2.2.2[k]).length≤_
  omega
theorem okS_view {b:BlD} {s:StD} (hb:bBF b) (h:OkS (prgF b) s):pVF b s.1 (toldF s):=by
 refine ⟨⟨hb,by rw [h.wl,prg_len1]; exact Nat.le_refl _⟩,by unfold toldF; rw [List.length_map,h.tl,prg_len2]; omega,fun x hx=>?_⟩
 obtain ⟨t,ht,rfl⟩:=List.mem_map.1 hx
 obtain ⟨k,hk,rfl⟩:=List.mem_iff_getElem.1 ht
 have:=(h.th k hk).t20
 have e:thAt s k = s.2[k]:=by show (s.2[((k:Nat):Int).toNat]?).getD _ = _; rw [Int.toNat_natCast,List.getElem?_eq_getElem hk]; rfl
 rw [e] at this
 omega
theorem compL_mem' (l:List EnD) (e:EnD):e ∈ compL l→e ∈ l:=by
 have:∀ (q:List EnD) (a:List EnD),e ∈ q.foldl pushE a→e ∈ a∨e ∈ q:=fun q=>by
  induction q with
  | nil=>intro a h; exact .inl h
  | cons x q ih =>
    intro a h
    rcases ih _ h with h | h
    ·unfold pushE at h
     split at h
     ·exact .inl h
     ·rcases List.mem_append.1 h with h | h
      ·exact .inl h
      ·rw [List.mem_singleton.1 h]; exact .inr (List.mem_cons_self ..)
    ·exact .inr (List.mem_cons_of_mem _ h)
 intro h
 rcases this l [] h with h | h
 ·cases h
 ·exact h
theorem endsG_mem {b:Bool} {p:WkD} {sort:List EnD→List EnD} (hs:∀ l,(sort l).Perm l) {e:EnD} (h:e ∈ (endsG sort compL (p,b)).1):∃ s,OkS p s∧e = endOfF (p,b) s:=by
 unfold endsG at h
 split at h
 ·cases h
 rename_i hc
 split at h
 ·cases h
 rename_i ha
 have hP:OkP p:=(okP_iff p).1 (by simpa using hc)
 have hM:=all_ok (b:=b) hP (by simpa using ha)
 have h1:=(hs _).mem_iff.1 (compL_mem' _ _ h)
 obtain ⟨x,hx,rfl⟩:=List.mem_map.1 h1
 exact ⟨x.1,hM.ok x (List.mem_filter.1 hx).1,rfl⟩
theorem compL_len (l:List EnD):(compL l).length≤l.length:=by
 have:∀ (q:List EnD) (a:List EnD),(q.foldl pushE a).length≤a.length + q.length:=fun q=>by
  induction q with
  | nil=>intro a; simp
  | cons x q ih =>
    intro a
    have:=ih (pushE a x)
    have h2:(pushE a x).length≤a.length + 1:=by unfold pushE; split <;> simp
    rw [List.foldl_cons,List.length_cons]; omega
 have:=this l []
 rw [List.length_nil,Nat.zero_add] at this
 exact this
theorem endsG_len {b:Bool} {p:WkD} {sort:List EnD→List EnD} (hs:∀ l,(sort l).Perm l):(endsG sort compL (p,b)).1.length≤20000:=by
 unfold endsG
 split
 ·exact Nat.zero_le _
 rename_i hc
 split
 ·exact Nat.zero_le _
 rename_i ha
 have hP:OkP p:=(okP_iff p).1 (by simpa using hc)
 have hM:=all_ok (b:=b) hP (by simpa using ha)
 have h1:=compL_len (sort (endsOf (p,b) (allF (p,b)).1))
 have h2:=(hs (endsOf (p,b) (allF (p,b)).1)).length_eq
 have h3:(endsOf (p,b) (allF (p,b)).1).length≤(allF (p,b)).1.length:=by unfold endsOf; rw [List.length_map]; exact List.length_filter_le _ _
 have:=hM.len
 show (compL _).length≤_
 omega
theorem end_view {b:BlD} {q:Bool} {s:StD} (hb:bBF b) (h:OkS (prgF b) s):pVF b (endOfF (prgF b,q) s).1 (endOfF (prgF b,q) s).2.1:=by
 have h0:=okS_view hb h
 refine ⟨h0.1,by show _≤((List.range s.2.length).map _).length; rw [List.length_map,List.length_range,h.tl,prg_len2]; omega,fun x hx=>?_⟩
 obtain ⟨k,hk,rfl⟩:=List.mem_map.1 (show x ∈ (List.range s.2.length).map (fun (k:Nat)=>(thAt s k).2.2.2.1) from hx)
 have:=(h.th k (List.mem_range.1 hk)).t20
 omega
theorem pick_mem' {m:McD} {s:StD} {l:List Int} {n:Nat} (hn:movesF m s ≠ []) (hl:∀ x ∈ l,0≤x):pickF m s l n ∈ movesF m s:=by
 have hml:(movesF m s).length ≠ 0:=fun e=>hn (List.eq_nil_of_length_eq_zero e)
 unfold pickF
 split
 ·rename_i h
  have h0:0≤(l[n]?).getD 0:=by rw [List.getElem?_eq_getElem h]; exact hl _ (List.getElem_mem h)
  have e:remF ((l[n]?).getD 0) (movesF m s).length = ((l[n]?).getD 0).tmod (movesF m s).length:=rfl
  have h1:=Int.tmod_nonneg (movesF m s).length h0
  have h2:=Int.tmod_lt_of_pos ((l[n]?).getD 0) (Int.natCast_pos.2 (Nat.pos_of_ne_zero hml))
  rw [e,List.getElem?_eq_getElem (by omega)]; exact List.getElem_mem _
 ·rw [List.getElem?_eq_getElem (by show (0:Nat) < _; omega)]; exact List.getElem_mem _
theorem runN_okS {p:WkD} {l:List Int} (hp:OkP p) (hl:∀ x ∈ l,0≤x):∀ (f:Nat) (s:StD),OkS p s→(runN (p,false) l f s).2.2 = 0→OkS p (runN (p,false) l f s).1
 | 0,s,hs,h=>by
   unfold runN at h ⊢
   split
   ·exact hs
   ·rename_i hc; rw [if_neg hc] at h; cases h
 | f + 1,s,hs,h=>by
   unfold runN at h ⊢
   split
   ·exact hs
   ·rename_i hc
    rw [if_neg hc] at h
    exact runN_okS hp hl f _ (do_ok hp hs (pick_mem' hc hl)) h
theorem runF_okS {p:WkD} {l:List Int} (h:(runF p l).2.2 = 0):OkS p (runF p l).1:=by
 unfold runF at h ⊢
 split
 ·rename_i hc; rw [if_pos hc] at h; exact absurd h hc
 rename_i hc
 rw [if_neg hc] at h
 have hP:OkP p:=(okP_iff p).1 (by simpa using hc)
 split
 ·rename_i ha; rw [if_pos ha] at h; cases h
 rename_i ha
 rw [if_neg ha] at h
 refine runN_okS hP (fun x hx=>?_) _ _ (first_ok hP) h
 have:=List.any_eq_false.1 (by simpa using ha) x hx
 have:¬ (x < 0):=fun e=>this (decide_eq_true e)
 omega
theorem dropC {α:Type} {L:List α} {j:Nat} {x:α} {r:List α} (h:L.drop j = x :: r):L[j]? = some x∧L.drop (j + 1) = r∧j + 1≤L.length:=by
 have hj:j < L.length:=by
  rcases Nat.lt_or_ge j L.length with h' | h'
  ·exact h'
  ·rw [List.drop_eq_nil_of_le h'] at h; cases h
 rw [List.drop_eq_getElem_cons hj] at h
 injection h with h1 h2
 exact ⟨by rw [List.getElem?_eq_getElem hj,h1],h2,hj⟩
theorem dropN {α:Type} {L:List α} {j:Nat} (h:L.drop j = []) (hj:j≤L.length):j = L.length:=by
 have:=List.drop_eq_nil_iff.1 h; omega
def runBF (b:BlD) (l:List Int):BeD × Int × Int :=
 if chkB b ≠ 0 then ((0,[],[]),0,chkB b)
 else if (runF (prgF b) l).2.2 ≠ 0 then ((0,[],[]),0,(runF (prgF b) l).2.2)
 else (viewF b (runF (prgF b) l).1.1 (toldF (runF (prgF b) l).1),(runF (prgF b) l).2.1,0)
def endsBG (ends:McD→List EnD × Int × Int) (sort comp:List BeD→List BeD) (b:BlD):List BeD × Int :=
 if chkB b ≠ 0 then ([],chkB b)
 else if (ends (prgF b,false)).2.2 ≠ 0 then ([],(ends (prgF b,false)).2.2)
 else (comp (sort ((ends (prgF b,false)).1.map fun e=>viewF b e.1 e.2.1)),0)
end Go.Proofs.Tryz
