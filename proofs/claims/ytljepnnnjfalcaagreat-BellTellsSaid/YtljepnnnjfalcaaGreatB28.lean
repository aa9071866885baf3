/- What functions of the weak memory compute, proved through the condition generator, and plain facts of it. Conditions: none of ours. -/
import Derived.Test.YtljepnnnjfalcaaGreatB27
set_option autoImplicit false
set_option maxRecDepth 100000
set_option linter.all false
namespace Go.Proofs.Tryz
open Go Go.VM
def ab63 (L:Lv) (I:Ds [.sl (.sl In),It]→Prop) (mu:Ds [.sl (.sl In),It]→Nat) (I2:Ds [.sl (.sl In),It]→Prop) (m2:Ds [.sl (.sl In),It]→Nat):Nat→LAnn
 | 0=>anH L [1,2,3,26,27] [(3,some 1,36,.sl In)] [.br 3 1 (.sl In),.s 27 It] I mu
 | 2=>anH L [1,2,3,42,43] [] [.br 3 1 (.sl In),.s 43 It] I2 m2
 | _=>.no
def ab24 (L:Lv) (I:Ds [It]→Prop) (mu:Ds [It]→Nat):Nat→LAnn
 | 0=>anH L [1,3] [] [.s 3 It] I mu
 | _=>.no
def ab83 (L:Lv) (I:List (List Int) × Unit→Ds [.sl It,It]→Prop) (mu:List (List Int) × Unit→Ds [.sl It,It]→Nat):Nat→LAnn
 | 0=>anE L [1,3,4] [] [.h (.b 1 4 (.sl (.sl It)))] [.r 3 It,.s 4 It] I mu
 | _=>.no
def ab25 (L:Lv) (I:Ds [.sl (.sl It),It]→Prop) (mu:Ds [.sl (.sl It),It]→Nat):Nat→LAnn
 | 0=>anH L [1,2,3,4] [(3,some 4,22,.sl It)] [.br 3 4 (.sl It),.s 4 It] I mu
 | _=>.no
def nb63 (L:Lv) (F:BxF) (M:BeF) (I:Ds [.sl (.sl In),It]→Prop) (mu:Ds [.sl (.sl In),It]→Nat) (I2:Ds [.sl (.sl In),It]→Prop) (m2:Ds [.sl (.sl In),It]→Nat) (b:BlD)  : VC :=
 let z1:=b.2;
 let z2:=z1.2;
 let z3:=z2.2;
 let z4:=z3.1;
 let z5:=L.cast (L.llen It z4);
 let z6:=L.ar .add .i64 2 (L.ar .mul .i64 2 z5);
 let z7:=L.toN z6;
 let z8:=L.rep It z7 0;
 let z9:=b.1;
 let z10:=z1.1;
 let z11:=z2.1;
 let z12:=z3.2;
 let z13:=L.setl It z8 (L.toN 0) z9;
 let z14:=List (Int × Int × Int × Int × Int × Int);
 let z15:=List z14 × Int × Unit;
 let z16:=(Prod.fst b,z1.1,z2.1,z3.1,z3.2);
 let z17:=L.cast (L.llen (Ty.sl It) z12); .obl (L.mkOk z6 z6 8) (.obl (L.inR 0 z7) (.obl (L.ltN (L.toN 0) (L.llen It z8)) (.obl (St.mk 56 [(1,V.c
  (C.ptr 1 0)),(2,V.c (C.ptr 2 0)),(3,V.c (C.ptr 3 0)),(26,V.c (C.int .i64 z5)),(27,V.c (C.int .i64 0))] [(0,Ob.amb),(1,Ob.box 106 [C.int .i64 z9,
  C.int .i64 z10,C.sym z11,C.sl It z4,C.sl (Ty.sl It) z12]),(2,Ob.box 50 [C.nils,C.nils,C.int .i64 0]),(3,Ob.box 50 [C.own 4 z7,C.own 6 0,C.int .i64
  z10]),(4,Ob.row 3 It z13),(6,Ob.row 36 (Ty.sl In) [])] 7 = St.mk 56 [(1,V.c (C.ptr 1 0)),(2,V.c (C.ptr 2 0)),(3,V.c (C.ptr 3 0)),(26,V.c (C.int .i64 z5)),(27,
  V.c (C.int .i64 0))] [(0,Ob.amb),(1,Ob.box 106 [C.int .i64 z9,C.int .i64 z10,C.sym z11,C.sl It z4,C.sl (Ty.sl It) z12]),(2,Ob.box 50 [C.nils,
  C.nils,C.int .i64 0]),(3,Ob.box 50 [C.own 4 z7,C.own 6 (L.llen (Ty.sl In) []),C.int .i64 z10]),(4,Ob.row 3 It z13),(6,Ob.row 36 (Ty.sl In) [])] 7)
  (.obl (I ([],0,())) (.all z15 fun (v1:List (List (Int × Int × Int × Int × Int × Int)) × Int × Unit) =>
 let z18:=v1.2.1;
 let z19:=v1.1;
 let z20:=L.llen (Ty.sl In) z19;
 let z21:=L.take (Ty.sl In) z19 z20;
 let z22:=L.take (Ty.sl In) [BeF.wtr M z16 z18] 1;
 let z23:=L.add (L.llen (Ty.sl In) z21) (L.llen (Ty.sl In) z22);
 let z24:=L.ar .add .i64 z18 1;
 let z25:=L.app (Ty.sl In) z21 z22;
 let z26:=(L.app (Ty.sl In) z21 z22,L.ar .add .i64 z18 1,()); .imp (I v1) (.br (L.cmp .lss z18 z5) (.obl (BeF.pWt M z16 z18) (.obl (L.room
  z23 24) (.ok (St.mk 56 [(1,V.c (C.ptr 1 0)),(2,V.c (C.ptr 2 0)),(3,V.c (C.ptr 3 0)),(26,V.c (C.int .i64 z5)),(27,V.c (C.int .i64 z24))] [(0,Ob.amb),(1,
  Ob.box 106 [C.int .i64 z9,C.int .i64 z10,C.sym z11,C.sl It z4,C.sl (Ty.sl It) z12]),(2,Ob.box 50 [C.nils,C.nils,C.int .i64 0]),(3,Ob.box 50 [C.own
  4 z7,C.own 6 z23,C.int .i64 z10]),(4,Ob.row 3 It z13),(6,Ob.row 36 (Ty.sl In) z25)] 7 = St.mk 56 [(1,V.c (C.ptr 1 0)),(2,V.c (C.ptr 2 0)),(3,V.c (C.ptr 3 0)),
  (26,V.c (C.int .i64 z5)),(27,V.c (C.int .i64 z24))] [(0,Ob.amb),(1,Ob.box 106 [C.int .i64 z9,C.int .i64 z10,C.sym z11,C.sl It z4,C.sl (Ty.sl
  It) z12]),(2,Ob.box 50 [C.nils,C.nils,C.int .i64 0]),(3,Ob.box 50 [C.own 4 z7,C.own 6 (L.llen (Ty.sl In) z25),C.int .i64 z10]),(4,Ob.row 3 It z13),(6,
  Ob.row 36 (Ty.sl In) z25)] 7∧I z26∧mu z26 < mu v1)))) (.obl (St.mk 56 [(1,V.c (C.ptr 1 0)),(2,V.c (C.ptr 2 0)),(3,V.c (C.ptr 3 0)),(42,V.c (C.int .i64 z17)),
  (43,V.c (C.int .i64 0))] [(0,Ob.amb),(1,Ob.box 106 [C.int .i64 z9,C.int .i64 z10,C.sym z11,C.sl It z4,C.sl (Ty.sl It) z12]),(2,Ob.box 50 [C.nils,
  C.nils,C.int .i64 0]),(3,Ob.box 50 [C.own 4 z7,C.own 7 z20,C.int .i64 z10]),(4,Ob.row 3 It z13),(7,Ob.row 36 (Ty.sl In) z19)] 8 = St.mk 56 [(1,V.c (C.ptr
  1 0)),(2,V.c (C.ptr 2 0)),(3,V.c (C.ptr 3 0)),(42,V.c (C.int .i64 z17)),(43,V.c (C.int .i64 0))] [(0,Ob.amb),(1,Ob.box 106 [C.int .i64 z9,C.int
  .i64 z10,C.sym z11,C.sl It z4,C.sl (Ty.sl It) z12]),(2,Ob.box 50 [C.nils,C.nils,C.int .i64 0]),(3,Ob.box 50 [C.own 4 z7,C.own 7 z20,C.int .i64
  z10]),(4,Ob.row 3 It z13),(7,Ob.row 36 (Ty.sl In) z19)] 8) (.obl (I2 (Prod.fst v1,0,())) (.all z15 fun (v2:List (List (Int × Int × Int × Int × Int × Int)) × Int ×
  Unit) =>
 let z27:=v2.2.1;
 let z28:=v2.1;
 let z29:=L.llen (Ty.sl In) z28;
 let z30:=L.take (Ty.sl In) z28 z29;
 let z31:=L.take (Ty.sl In) [BeF.wrt M z16 z27] 1;
 let z32:=L.add (L.llen (Ty.sl In) z30) (L.llen (Ty.sl In) z31);
 let z33:=L.ar .add .i64 z27 1;
 let z34:=L.app (Ty.sl In) z30 z31;
 let z35:=(L.app (Ty.sl In) z30 z31,L.ar .add .i64 z27 1,()); .imp (I2 v2) (.br (L.cmp .lss z27 z17) (.obl (BeF.pWr M z16 z27) (.obl (L.room
  z32 24) (.ok (St.mk 56 [(1,V.c (C.ptr 1 0)),(2,V.c (C.ptr 2 0)),(3,V.c (C.ptr 3 0)),(42,V.c (C.int .i64 z17)),(43,V.c (C.int .i64 z33))] [(0,Ob.amb),
  (1,Ob.box 106 [C.int .i64 z9,C.int .i64 z10,C.sym z11,C.sl It z4,C.sl (Ty.sl It) z12]),(2,Ob.box 50 [C.nils,C.nils,C.int .i64 0]),(3,Ob.box 50
  [C.own 4 z7,C.own 7 z32,C.int .i64 z10]),(4,Ob.row 3 It z13),(7,Ob.row 36 (Ty.sl In) z34)] 8 = St.mk 56 [(1,V.c (C.ptr 1 0)),(2,V.c (C.ptr 2 0)),(3,V.c (C.ptr 3
  0)),(42,V.c (C.int .i64 z17)),(43,V.c (C.int .i64 z33))] [(0,Ob.amb),(1,Ob.box 106 [C.int .i64 z9,C.int .i64 z10,C.sym z11,C.sl It z4,C.sl
  (Ty.sl It) z12]),(2,Ob.box 50 [C.nils,C.nils,C.int .i64 0]),(3,Ob.box 50 [C.own 4 z7,C.own 7 (L.llen (Ty.sl In) z34),C.int .i64 z10]),(4,Ob.row 3 It
  z13),(7,Ob.row 36 (Ty.sl In) z34)] 8∧I2 z35∧m2 z35 < m2 v2)))) (.ok (((L.take It z13 z7,L.take (Ty.sl In) z28 z29,z1.1),()) = (BeF.prg M b,
  ())))))))))))))
theorem nb63_go (L:Lv) (F:BxF) (M:BeF) (I:Ds [.sl (.sl In),It]→Prop) (mu:Ds [.sl (.sl In),It]→Nat) (I2:Ds [.sl (.sl In),It]→Prop) (m2:Ds [.sl (.sl In),It]→Nat) (b:BlD) (h:VC.holds (nb63 L F M I mu I2 m2 b)):Holds (vcE L F M [] [75,77] 3 (Db63 (ab63 L I mu I2 m2)) (Sb63 M) (b,())):=Holds.of_eq (by kernel_rfl) h
def nb80 (L:Lv) (F:BxF) (M:BeF) (n:Int)  : VC :=
 let z1:=(BxF.isNum F n,()); .br (L.cmp .geq n (Int.negSucc 999999999)) (.br (L.cmp .leq n 1000000000) (.ok ((true,()) = z1)) (.ok ((false,()) = z1)))
  (.ok ((false,()) = z1))
theorem nb80_go (L:Lv) (F:BxF) (M:BeF) (n:Int) (h:VC.holds (nb80 L F M n)):Holds (vcE L F M [] [] 3 (Db80 a0) (S92 F) (n,())):=Holds.of_eq (by kernel_rfl) h
def nb24 (L:Lv) (F:BxF) (M:BeF) (I:Ds [It]→Prop) (mu:Ds [It]→Nat) (b:BlD)  : VC :=
 let z1:=b.2.2;
 let z2:=z1.2;
 let z3:=z2.1;
 let z4:=z2.2;
 let z5:=L.llen (Ty.sl It) z4;
 let z6:=L.cast z5;
 let z7:=b.1;
 let z8:=b.2.1;
 let z9:=z1.1; .br (L.cmp .gtr (L.cast (L.llen It z3)) 8) (.ok ((false,()) = (BeF.thin M b,()))) (.br (L.cmp .gtr z6 8) (.ok ((false,()) =
  (BeF.thin M b,()))) (.obl (St.mk 28 [(1,V.c (C.ptr 1 0)),(3,V.c (C.int .i64 0))] [(0,Ob.amb),(1,Ob.box 28 [C.int .i64 z7,C.int .i64 z8,C.sym z9,
  C.sl It z3,C.sl (Ty.sl It) z4])] 2 = St.mk 28 [(1,V.c (C.ptr 1 0)),(3,V.c (C.int .i64 0))] [(0,Ob.amb),(1,Ob.box 28 [C.int .i64 z7,C.int .i64 z8,
  C.sym z9,C.sl It z3,C.sl (Ty.sl It) z4])] 2) (.obl (I (0,())) (.all (Int × Unit) fun (v1:Int × Unit) =>
 let z10:=v1.1;
 let z11:=L.ar .add .i64 z10 1;
 let z12:=(L.ar .add .i64 z10 1,()); .imp (I v1) (.br (L.cmp .lss z10 z6) (.obl (L.inR z10 z5) (.br (L.cmp .gtr (L.cast (L.llen It
  (L.get (Ty.sl It) z4 (L.toN z10)))) 8) (.ok ((false,()) = (BeF.thin M b,()))) (.ok (St.mk 28 [(1,V.c (C.ptr 1 0)),(3,V.c (C.int .i64 z11))] [(0,Ob.amb),
  (1,Ob.box 28 [C.int .i64 z7,C.int .i64 z8,C.sym z9,C.sl It z3,C.sl (Ty.sl It) z4])] 2 = St.mk 28 [(1,V.c (C.ptr 1 0)),(3,V.c (C.int .i64 z11))] [(0,
  Ob.amb),(1,Ob.box 28 [C.int .i64 z7,C.int .i64 z8,C.sym z9,C.sl It z3,C.sl (Ty.sl It) z4])] 2∧I z12∧mu z12 < mu v1)))) (.ok ((true,()) = (BeF.thin M b,
  ()))))))))
theorem nb24_go (L:Lv) (F:BxF) (M:BeF) (I:Ds [It]→Prop) (mu:Ds [It]→Nat) (b:BlD) (h:VC.holds (nb24 L F M I mu b)):Holds (vcE L F M [] [] 3 (Db24 (ab24 L I mu)) (Sb24 M) (b,())):=Holds.of_eq (by kernel_rfl) h
def rb83 (L:Lv) (F:BxF) (M:BeF) (I:List (List Int) × Unit→Ds [.sl It,It]→Prop) (mu:List (List Int) × Unit→Ds [.sl It,It]→Nat) (b:BlD)  : VC :=
 let z1:=b.1;
 let z2:=b.2.1;
 let z3:=b.2.2;
 let z4:=z3.1;
 let z5:=z3.2;
 let z6:=z5.1;
 let z7:=z5.2;
 let z8:=(Prod.snd z5,());
 let z9:=L.llen (Ty.sl It) z7; .obl (St.mk 21 [(1,V.c (C.ptr 1 0)),(3,V.c (C.own 3 0)),(4,V.c (C.int .i64 0))] [(0,Ob.amb),(1,Ob.box 28 [C.int .i64 z1,
  C.int .i64 z2,C.sym z4,C.sl It z6,C.sl (Ty.sl It) z7]),(3,Ob.row 3 It [])] 4 = St.mk 21 [(1,V.c (C.ptr 1 0)),(3,V.c (C.own 3 (L.llen It []))),(4,V.c (C.int
  .i64 0))] [(0,Ob.amb),(1,Ob.box 28 [C.int .i64 z1,C.int .i64 z2,C.sym z4,C.sl It z6,C.sl (Ty.sl It) z7]),(3,Ob.row 3 It [])] 4) (.obl (I z8 ([],
  0,())) (.all (List Int × Int × Unit) fun (v1:List Int × Int × Unit) =>
 let z10:=v1.2.1;
 let z11:=v1.1;
 let z12:=L.take It z11 (L.llen It z11);
 let z13:=L.get (Ty.sl It) z7 (L.toN z10);
 let z14:=L.add (L.llen It z12) (L.llen It z13);
 let z15:=L.ar .add .i64 z10 1;
 let z16:=L.app It z12 z13;
 let z17:=(L.app It z12 z13,L.ar .add .i64 z10 1,()); .imp (I z8 v1) (.br (L.cmp .lss z10 (L.cast z9)) (.obl (L.inR z10 z9) (.obl
  (L.room z14 8) (.ok (St.mk 21 [(1,V.c (C.ptr 1 0)),(3,V.c (C.own 3 z14)),(4,V.c (C.int .i64 z15))] [(0,Ob.amb),(1,Ob.box 28 [C.int .i64 z1,C.int
  .i64 z2,C.sym z4,C.sl It z6,C.sl (Ty.sl It) z7]),(3,Ob.row 3 It z16)] 4 = St.mk 21 [(1,V.c (C.ptr 1 0)),(3,V.c (C.own 3 (L.llen It z16))),(4,V.c (C.int
  .i64 z15))] [(0,Ob.amb),(1,Ob.box 28 [C.int .i64 z1,C.int .i64 z2,C.sym z4,C.sl It z6,C.sl (Ty.sl It) z7]),(3,Ob.row 3 It z16)] 4∧I z8 z17∧mu z8
  z17 < mu z8 v1)))) (.ok (3 = 3∧Prod.fst v1 = BeF.nums M b∧L.llen It z11 = L.llen It z11)))))
theorem rb83_go (L:Lv) (F:BxF) (M:BeF) (I:List (List Int) × Unit→Ds [.sl It,It]→Prop) (mu:List (List Int) × Unit→Ds [.sl It,It]→Nat) (b:BlD) (h:VC.holds (rb83 L F M I mu b)):Holds (vcER L F M [] [] 3 (Db83 (ab83 L I mu)) (Rb83 M) (b,())):=Holds.of_eq (by kernel_rfl) h
def nb25 (L:Lv) (F:BxF) (M:BeF) (I:Ds [.sl (.sl It),It]→Prop) (mu:Ds [.sl (.sl It),It]→Nat) (b:BlD)  : VC :=
 let z1:=b.2;
 let z2:=z1.2;
 let z3:=z2.1;
 let z4:=L.take It [] 0;
 let z5:=L.llen It z4;
 let z6:=z2.2;
 let z7:=z6.1;
 let z8:=L.add z5 (L.llen It z7);
 let z9:=L.room z8 8;
 let z10:=b.1;
 let z11:=z1.1;
 let z12:=z6.2;
 let z13:=L.app It z4 z7;
 let z14:=L.llen (Ty.sl It) [];
 let z15:=List (List Int) × Int × Unit;
 let z16:=L.llen (Ty.sl It) z12;
 let z17:=L.cast z16; .br z3 (.obl z9 (.obl (St.mk 36 [(1,V.c (C.ptr 1 0)),(2,V.c (C.ptr 2 0)),(3,V.c (C.ptr 3 0)),(4,V.c (C.int .i64 0))] [(0,Ob.amb),(1,
  Ob.box 28 [C.int .i64 z10,C.int .i64 z11,C.sym z3,C.sl It z7,C.sl (Ty.sl It) z12]),(2,Ob.box 28 [C.int .i64 0,C.int .i64 0,C.sym false,
  C.nils,C.nils]),(3,Ob.box 28 [C.int .i64 z10,C.int .i64 z11,C.sym true,C.own 5 z8,C.own 7 0]),(5,Ob.row 3 It z13),(7,Ob.row 22 (Ty.sl It) [])] 8 = St.mk
  36 [(1,V.c (C.ptr 1 0)),(2,V.c (C.ptr 2 0)),(3,V.c (C.ptr 3 0)),(4,V.c (C.int .i64 0))] [(0,Ob.amb),(1,Ob.box 28 [C.int .i64 z10,C.int .i64 z11,
  C.sym z3,C.sl It z7,C.sl (Ty.sl It) z12]),(2,Ob.box 28 [C.int .i64 0,C.int .i64 0,C.sym false,C.nils,C.nils]),(3,Ob.box 28 [C.int .i64 z10,C.int
  .i64 z11,C.sym true,C.own 5 z8,C.own 7 z14]),(5,Ob.row 3 It z13),(7,Ob.row 22 (Ty.sl It) [])] 8) (.obl (I ([],0,())) (.all z15 fun (v1:List (List Int) × Int
  × Unit) =>
 let z18:=v1.2.1;
 let z19:=L.get (Ty.sl It) z12 (L.toN z18);
 let z20:=L.add z5 (L.llen It z19);
 let z21:=v1.1;
 let z22:=L.llen (Ty.sl It) z21;
 let z23:=L.take (Ty.sl It) z21 z22;
 let z24:=L.take (Ty.sl It) [L.take It (L.app It z4 z19) z20] 1;
 let z25:=L.add (L.llen (Ty.sl It) z23) (L.llen (Ty.sl It) z24);
 let z26:=L.ar .add .i64 z18 1;
 let z27:=L.app (Ty.sl It) z23 z24;
 let z28:=(L.app (Ty.sl It) z23 z24,L.ar .add .i64 z18 1,()); .imp (I v1) (.br (L.cmp .lss z18 z17) (.obl (L.inR z18 z16) (.obl (L.room
  z20 8) (.obl (L.room z25 24) (.ok (St.mk 36 [(1,V.c (C.ptr 1 0)),(2,V.c (C.ptr 2 0)),(3,V.c (C.ptr 3 0)),(4,V.c (C.int .i64 z26))] [(0,Ob.amb),(1,Ob.box
  28 [C.int .i64 z10,C.int .i64 z11,C.sym z3,C.sl It z7,C.sl (Ty.sl It) z12]),(2,Ob.box 28 [C.int .i64 0,C.int .i64 0,C.sym false,C.nils,
  C.nils]),(3,Ob.box 28 [C.int .i64 z10,C.int .i64 z11,C.sym true,C.own 5 z8,C.own 7 z25]),(5,Ob.row 3 It z13),(7,Ob.row 22 (Ty.sl It) z27)] 8 = St.mk 36
  [(1,V.c (C.ptr 1 0)),(2,V.c (C.ptr 2 0)),(3,V.c (C.ptr 3 0)),(4,V.c (C.int .i64 z26))] [(0,Ob.amb),(1,Ob.box 28 [C.int .i64 z10,C.int .i64 z11,
  C.sym z3,C.sl It z7,C.sl (Ty.sl It) z12]),(2,Ob.box 28 [C.int .i64 0,C.int .i64 0,C.sym false,C.nils,C.nils]),(3,Ob.box 28 [C.int .i64 z10,C.int
  .i64 z11,C.sym true,C.own 5 z8,C.own 7 (L.llen (Ty.sl It) z27)]),(5,Ob.row 3 It z13),(7,Ob.row 22 (Ty.sl It) z27)] 8∧I z28∧mu z28 < mu v1))))) (.ok
  (((Prod.fst b,z1.1,true,L.take It z13 z8,L.take (Ty.sl It) z21 z22),()) = (b,())))))))) (.obl z9 (.obl (St.mk 36 [(1,V.c (C.ptr 1 0)),(2,V.c (C.ptr 2
  0)),(3,V.c (C.ptr 3 0)),(4,V.c (C.int .i64 0))] [(0,Ob.amb),(1,Ob.box 28 [C.int .i64 z10,C.int .i64 z11,C.sym z3,C.sl It z7,C.sl (Ty.sl It) z12]),
  (2,Ob.box 28 [C.int .i64 0,C.int .i64 0,C.sym false,C.nils,C.nils]),(3,Ob.box 28 [C.int .i64 z10,C.int .i64 z11,C.sym false,C.own 5 z8,
  C.own 7 0]),(5,Ob.row 3 It z13),(7,Ob.row 22 (Ty.sl It) [])] 8 = St.mk 36 [(1,V.c (C.ptr 1 0)),(2,V.c (C.ptr 2 0)),(3,V.c (C.ptr 3 0)),(4,V.c (C.int .i64 0))]
  [(0,Ob.amb),(1,Ob.box 28 [C.int .i64 z10,C.int .i64 z11,C.sym z3,C.sl It z7,C.sl (Ty.sl It) z12]),(2,Ob.box 28 [C.int .i64 0,C.int .i64 0,
  C.sym false,C.nils,C.nils]),(3,Ob.box 28 [C.int .i64 z10,C.int .i64 z11,C.sym false,C.own 5 z8,C.own 7 z14]),(5,Ob.row 3 It z13),(7,Ob.row 22 (Ty.sl It)
  [])] 8) (.obl (I ([],0,())) (.all z15 fun (v2:List (List Int) × Int × Unit) =>
 let z29:=v2.2.1;
 let z30:=L.get (Ty.sl It) z12 (L.toN z29);
 let z31:=L.add z5 (L.llen It z30);
 let z32:=v2.1;
 let z33:=L.llen (Ty.sl It) z32;
 let z34:=L.take (Ty.sl It) z32 z33;
 let z35:=L.take (Ty.sl It) [L.take It (L.app It z4 z30) z31] 1;
 let z36:=L.add (L.llen (Ty.sl It) z34) (L.llen (Ty.sl It) z35);
 let z37:=L.ar .add .i64 z29 1;
 let z38:=L.app (Ty.sl It) z34 z35;
 let z39:=(L.app (Ty.sl It) z34 z35,L.ar .add .i64 z29 1,()); .imp (I v2) (.br (L.cmp .lss z29 z17) (.obl (L.inR z29 z16) (.obl (L.room
  z31 8) (.obl (L.room z36 24) (.ok (St.mk 36 [(1,V.c (C.ptr 1 0)),(2,V.c (C.ptr 2 0)),(3,V.c (C.ptr 3 0)),(4,V.c (C.int .i64 z37))] [(0,Ob.amb),(1,Ob.box
  28 [C.int .i64 z10,C.int .i64 z11,C.sym z3,C.sl It z7,C.sl (Ty.sl It) z12]),(2,Ob.box 28 [C.int .i64 0,C.int .i64 0,C.sym false,C.nils,
  C.nils]),(3,Ob.box 28 [C.int .i64 z10,C.int .i64 z11,C.sym false,C.own 5 z8,C.own 7 z36]),(5,Ob.row 3 It z13),(7,Ob.row 22 (Ty.sl It) z38)] 8 = St.mk 36
  [(1,V.c (C.ptr 1 0)),(2,V.c (C.ptr 2 0)),(3,V.c (C.ptr 3 0)),(4,V.c (C.int .i64 z37))] [(0,Ob.amb),(1,Ob.box 28 [C.int .i64 z10,C.int .i64 z11,
  C.sym z3,C.sl It z7,C.sl (Ty.sl It) z12]),(2,Ob.box 28 [C.int .i64 0,C.int .i64 0,C.sym false,C.nils,C.nils]),(3,Ob.box 28 [C.int .i64 z10,C.int
  .i64 z11,C.sym false,C.own 5 z8,C.own 7 (L.llen (Ty.sl It) z38)]),(5,Ob.row 3 It z13),(7,Ob.row 22 (Ty.sl It) z38)] 8∧I z39∧mu z39 < mu v2))))) (.ok
  (((Prod.fst b,z1.1,false,L.take It z13 z8,L.take (Ty.sl It) z32 z33),()) = (b,()))))))))
theorem nb25_go (L:Lv) (F:BxF) (M:BeF) (I:Ds [.sl (.sl It),It]→Prop) (mu:Ds [.sl (.sl It),It]→Nat) (b:BlD) (h:VC.holds (nb25 L F M I mu b)):Holds (vcE L F M [] [] 3 (Db25 (ab25 L I mu)) (Sb25 M) (b,())):=Holds.of_eq (by kernel_rfl) h
theorem okb63 (F:BxF) (M:BeF) (h:M.prg = prgF) (h1:M.wtr = wtrF) (h2:M.wrt = wrtF) (q:M.pP = bBF) (q1:M.pWt = pWtF) (q2:M.pWr = pWrF) (k1:SpecOk prog 75 (Sb75 M)) (k2:SpecOk prog 77 (Sb77 M)):SpecOk prog 63 (Sb63 M):=by
 refine Zc hm hE Db63 fnokb63 _ fun (z:BlD × Unit) hpre=>?_
 obtain ⟨b,⟨⟩⟩:=z
 have hpre':M.pP b:=hpre
 rw [q] at hpre'
 obtain ⟨g1,g2,g3⟩:=hpre'
 have w1:IntKind.i64.wrap (2 + IntKind.i64.wrap (2 * (b.2.2.2.1.length:Int))) = ((2 + 2 * b.2.2.2.1.length:Nat):Int):=by rw [Yn (x:=2 * (b.2.2.2.1.length:Int)) (by omega) (by omega),Yn (by omega) (by omega)]; omega
 have w2:IntKind.i64.wrap (IntKind.i64.wrap (2 * (b.2.2.2.1.length:Int)) + 2) = ((2 + 2 * b.2.2.2.1.length:Nat):Int):=by rw [Yn (x:=2 * (b.2.2.2.1.length:Int)) (by omega) (by omega),Yn (by omega) (by omega)]; omega
 have w3:IntKind.i64.wrap (2 * (b.2.2.2.1.length:Int)) = 2 * (b.2.2.2.1.length:Int):=Yn (by omega) (by omega)
 let f1:Nat→List InD:=fun i=>wtrF b (i:Int)
 let f2:Nat→List InD:=fun k=>wrtF b (k:Int)
 let I:List (List InD) × Int × Unit→Prop:=fun x=>(0≤x.2.1∧x.2.1≤b.2.2.2.1.length)∧x.1 = (List.range x.2.1.toNat).map f1
 let mu:List (List InD) × Int × Unit→Nat:=fun x=>(b.2.2.2.1.length - x.2.1).toNat
 let I2:List (List InD) × Int × Unit→Prop:=fun x=>(0≤x.2.1∧x.2.1≤b.2.2.2.2.length)∧x.1 = (List.range b.2.2.2.1.length).map f1 ++ (List.range x.2.1.toNat).map f2
 let m2:List (List InD) × Int × Unit→Nat:=fun x=>(b.2.2.2.2.length - x.2.1).toNat
 refine Yq _ 3 (ab63 Lv.std I mu I2 m2) (Zn (T:=tabO [] (eT F M)) (l:=[75,77]) (Za (Yh k1 (by kernel_rfl)) (Za (Yh k2 (by kernel_rfl)) Z2))) ?_
 refine nb63_go Lv.std F M I mu I2 m2 b ?_
 simp only [nb63,VC.holds,ZJ,ZO,Zb,Zh,Zp,Yj,Ym,Z6,ZM,Yl,Yk,Yf,ZX,ZY,ZT,ZR,Ye,ZN,ZB,ZD,Zm,Z1,ZS,Z5,ZK,ZW,Yb,ZV,ZP,ZQ,Zo,ZH,Ya,Z3,ZI,Yd,Yc,Z4,Z7,Zg,ZC,ZL,ZU,Z8,Z9,Zd,Ze,Zz,ZA,Zu,Zv,Zw,Zx,Zj,Zk,Zs,Zt,Zi,Zl,Zq,Zr,ZG,ZF,ZZ,Yg,ZE,w1,w2,Int.toNat_natCast,h,h1,h2,q1,q2,pe5,List.length_set,List.length_replicate,List.take_length,List.take_succ_cons,List.take_zero,List.take_nil,List.nil_append,List.length_append,List.length_cons,List.length_nil,Nat.zero_add,Prod.mk.injEq,and_true,true_and]
 refine ⟨⟨by omega,by omega,by omega,by omega⟩,⟨by omega,by omega⟩,by show (0:Nat) < _; omega,⟨⟨Int.le_refl 0,by show (0:Int)≤b.2.2.2.1.length; omega⟩,rfl⟩,?_⟩
 rintro ⟨l,x,⟨⟩⟩ ⟨⟨i1,i2⟩,i3⟩
 simp only at i1 i2 i3 ⊢
 obtain ⟨j,rfl⟩:=Yp i1
 rw [Int.toNat_natCast] at i3
 have hl:l.length = j:=by rw [i3,List.length_map,List.length_range]
 refine ⟨fun hlt=>?_,fun hge=>⟨⟨⟨Int.le_refl 0,by show (0:Int)≤b.2.2.2.2.length; omega⟩,?_⟩,?_⟩⟩
 ·rw [wr hlt (by omega)]
  refine ⟨⟨⟨g1,g2,g3⟩,i1,hlt⟩,⟨by omega,by omega⟩,⟨⟨by show (0:Int)≤((j + 1:Nat):Int); omega,by show ((j + 1:Nat):Int)≤b.2.2.2.1.length; omega⟩,?_⟩,by show ((b.2.2.2.1.length:Int) - ((j + 1:Nat):Int)).toNat < ((b.2.2.2.1.length:Int) - j).toNat; omega⟩
  show l ++ [wtrF b j] = (List.range ((j + 1:Nat):Int).toNat).map f1
  rw [Int.toNat_natCast,range_map,i3]
 ·show l = (List.range b.2.2.2.1.length).map f1 ++ []
  rw [List.append_nil,i3,show j = b.2.2.2.1.length by omega]
 ·rintro ⟨r,x,⟨⟩⟩ ⟨⟨j1,j2⟩,j3⟩
  simp only at j1 j2 j3 ⊢
  obtain ⟨k,rfl⟩:=Yp j1
  rw [Int.toNat_natCast] at j3
  have hr:r.length = b.2.2.2.1.length + k:=by rw [j3,List.length_append,List.length_map,List.length_range,List.length_map,List.length_range]
  refine ⟨fun hlt=>?_,fun hge=>?_⟩
  ·rw [wr hlt (by omega)]
   refine ⟨⟨⟨g1,g2,g3⟩,j1,hlt⟩,⟨by omega,by omega⟩,⟨⟨by show (0:Int)≤((k + 1:Nat):Int); omega,by show ((k + 1:Nat):Int)≤b.2.2.2.2.length; omega⟩,?_⟩,by show ((b.2.2.2.2.length:Int) - ((k + 1:Nat):Int)).toNat < ((b.2.2.2.2.length:Int) - k).toNat; omega⟩
   show r ++ [wrtF b k] = (List.range b.2.2.2.1.length).map f1 ++ (List.range ((k + 1:Nat):Int).toNat).map f2
   rw [Int.toNat_natCast,range_map,j3,List.append_assoc]
  ·rw [List.take_of_length_le (by rw [List.length_set,List.length_replicate]; omega),j3,show k = b.2.2.2.2.length by omega]
   rfl
theorem okb80 (F:BxF) (M:BeF) (h:F.isNum = isNumF):SpecOk prog 80 (S92 F):=by
 refine Zc hm hE Db80 fnokb80 _ fun (z:Int × Unit) hpre=>?_
 obtain ⟨n,⟨⟩⟩:=z
 refine Yq _ 3 a0 (Zn (T:=tabO [] (eT F M)) (l:=[]) Z2) ?_
 refine nb80_go Lv.std F M n ?_
 simp only [nb80,VC.holds,ZJ,ZO,Zb,Zh,Zp,Yj,Ym,Z6,ZM,Yl,Yk,Yf,ZX,ZY,ZT,ZR,Ye,ZN,ZB,ZD,Zm,Z1,ZS,Z5,ZK,ZW,Yb,ZV,ZP,ZQ,Zo,ZH,Ya,Z3,ZI,Yd,Yc,Z4,Z7,Zg,ZC,ZL,ZU,Z8,Z9,Zd,Ze,Zz,ZA,Zu,Zv,Zw,Zx,Zj,Zk,Zs,Zt,Zi,Zl,Zq,Zr,ZG,ZF,ZZ,Yg,ZE,h,isNumF,withinF,Prod.mk.injEq,and_true,true_and]
 have e:(Int.negSucc 999999999) = -1000000000:=rfl
 rw [e]
 refine ⟨fun h=>⟨fun h1=>by rw [decide_eq_true h,decide_eq_true h1]; rfl,fun h1=>by rw [decide_eq_true h,decide_eq_false (by omega)]; rfl⟩,fun h=>by rw [decide_eq_false (by omega)]; rfl⟩
theorem okb83 (F:BxF) (M:BeF) (h:M.nums = numsBF) (q:M.bB = bBF):XOk prog 83 (Rb83 M).x:=by
 let I:List (List Int) × Unit→List Int × Int × Unit→Prop:=fun e x=>(0≤x.2.1∧x.2.1≤e.1.length)∧x.1 = (e.1.take x.2.1.toNat).flatten
 let mu:List (List Int) × Unit→List Int × Int × Unit→Nat:=fun e x=>(e.1.length - x.2.1).toNat
 refine rowX_ok hm hE 3 (fns:=only (tabO [] (eT F M)) []) (Zn Z2) (fnokb83 (ab83 Lv.std I mu)) (Rb83 M) fun (z:BlD × Unit) hpre=>?_
 obtain ⟨b,⟨⟩⟩:=z
 have hpre':M.bB b:=hpre
 rw [q] at hpre'
 obtain ⟨g1,g2,g3⟩:=hpre'
 refine rb83_go Lv.std F M I mu b ?_
 simp only [rb83,VC.holds,ZJ,ZO,Zb,Zh,Zp,Yj,Ym,Z6,ZM,Yl,Yk,Yf,ZX,ZY,ZT,ZR,Ye,ZN,ZB,ZD,Zm,Z1,ZS,Z5,ZK,ZW,Yb,ZV,ZP,ZQ,Zo,ZH,Ya,Z3,ZI,Yd,Yc,Z4,Z7,Zg,ZC,ZL,ZU,Z8,Z9,Zd,Ze,Zz,ZA,Zu,Zv,Zw,Zx,Zj,Zk,Zs,Zt,Zi,Zl,Zq,Zr,ZG,ZF,ZZ,Yg,ZE,h,List.take_length,List.take_nil,List.length_nil,Prod.mk.injEq,and_true,true_and]
 refine ⟨⟨⟨Int.le_refl 0,by show (0:Int)≤b.2.2.2.2.length; omega⟩,rfl⟩,?_⟩
 rintro ⟨r,x,⟨⟩⟩ ⟨⟨j1,j2⟩,j3⟩
 simp only at j1 j2 j3 ⊢
 obtain ⟨j,rfl⟩:=Yp j1
 rw [Int.toNat_natCast] at j3 ⊢
 refine ⟨fun hlt=>?_,fun hge=>?_⟩
 ·have hj:j < b.2.2.2.2.length:=by omega
  rw [wr hlt (by omega)]
  have f1:r.length≤(b.2.2.2.2.take j).length * 1000:=by rw [j3]; exact flat_len _ _ fun y hy=>g3 y (List.mem_of_mem_take hy)
  have f2:(b.2.2.2.2.take j).length≤1000:=by rw [List.length_take]; omega
  have f3:(b.2.2.2.2.take j).length * 1000≤1000 * 1000:=Nat.mul_le_mul_right _ f2
  have b1:((b.2.2.2.2[j]?).getD []).length≤1000:=by rw [List.getElem?_eq_getElem hj]; exact g3 _ (List.getElem_mem hj)
  refine ⟨⟨by omega,hlt⟩,⟨by omega,by omega⟩,by rw [List.length_append],⟨⟨by show (0:Int)≤((j + 1:Nat):Int); omega,by show ((j + 1:Nat):Int)≤b.2.2.2.2.length; omega⟩,?_⟩,by show ((b.2.2.2.2.length:Int) - ((j + 1:Nat):Int)).toNat < ((b.2.2.2.2.length:Int) - j).toNat; omega⟩
  show r ++ (b.2.2.2.2[j]?).getD [] = (b.2.2.2.2.take ((j + 1:Nat):Int).toNat).flatten
  rw [Int.toNat_natCast,flat_take _ j hj,j3]
 ·rw [j3,List.take_of_length_le (by omega)]; rfl
theorem okb24 (F:BxF) (M:BeF) (h:M.thin = thinB) (q:M.bT = bTF):SpecOk prog 24 (Sb24 M):=by
 refine Zc hm hE Db24 fnokb24 _ fun (z:BlD × Unit) hpre=>?_
 obtain ⟨b,⟨⟩⟩:=z
 have hpre':M.bT b:=hpre
 rw [q] at hpre'
 obtain ⟨g1,g2,g3⟩:=hpre'
 let I:Int × Unit→Prop:=Iv b.2.2.2.2.length fun k=>(b.2.2.2.2.drop k).all (fun l=>decide ((l.length:Int)≤8)) = b.2.2.2.2.all fun l=>decide ((l.length:Int)≤8)
 refine Yq _ 3 (ab24 Lv.std I (Mu b.2.2.2.2.length)) (Zn (T:=tabO [] (eT F M)) (l:=[]) Z2) ?_
 refine nb24_go Lv.std F M I (Mu b.2.2.2.2.length) b ?_
 have e2:∀ (l:List (List Int)) (k:Int),Lv.std.get (.sl It) l k.toNat = (l[k.toNat]?).getD []:=fun _ _=>rfl
 simp only [nb24,VC.holds,ZJ,Zo,Zm,ZH,e2,ZI,Zb,Zd,Ze,Zu,Zv,h,and_true,true_and]
 have et:thinB b = true↔(b.2.2.2.1.length:Int)≤8∧(b.2.2.2.2.length:Int)≤8∧(b.2.2.2.2.all fun l=>decide ((l.length:Int)≤8)) = true:=by
  unfold thinB; simp only [Bool.and_eq_true,decide_eq_true_eq,and_assoc]
 have fls:¬ (thinB b = true)→(false,()) = (thinB b,()):=fun h=>by rw [Bool.not_eq_true] at h; rw [h]
 refine ⟨fun c=>fls fun e=>by have:=(et.1 e).1; omega,fun c1=>⟨fun c=>fls fun e=>by have:=(et.1 e).2.1; omega,fun c2=>⟨Iv.zero rfl,fun x hx=>?_⟩⟩⟩
 obtain ⟨k,rfl,hk,i3⟩:=Iv.elim hx
 simp only [Int.toNat_natCast]
 refine ⟨fun hlt=>⟨⟨by omega,hlt⟩,fun hl=>fls fun e=>?_,fun hl=>?_⟩,fun hge=>?_⟩
 ·rw [(et.1 e).2.2,Yt _ _ k [] (by omega),Bool.and_eq_true,decide_eq_true_eq] at i3
  have:=i3.1; omega
 ·rw [wr hlt (by omega)]
  rw [Yt _ _ k [] (by omega),decide_eq_true hl,Bool.true_and] at i3
  exact ⟨Iv.mk (by omega) i3,Mu.lt (by omega)⟩
 ·rw [show k = b.2.2.2.2.length by omega,List.drop_length] at i3
  rw [et.2 ⟨c1,c2,i3.symm⟩]
theorem okb25 (F:BxF) (M:BeF) (q:M.bB = bBF):SpecOk prog 25 (Sb25 M):=by
 refine Zc hm hE Db25 fnokb25 _ fun (z:BlD × Unit) hpre=>?_
 obtain ⟨e,⟨⟩⟩:=z
 have hpre':M.bB e:=hpre
 rw [q] at hpre'
 obtain ⟨g1,g2,g3⟩:=hpre'
 let I:List (List Int) × Int × Unit→Prop:=fun x=>(0≤x.2.1∧x.2.1≤e.2.2.2.2.length)∧x.1 = e.2.2.2.2.take x.2.1.toNat
 let mu:List (List Int) × Int × Unit→Nat:=fun x=>(e.2.2.2.2.length - x.2.1).toNat
 refine Yq _ 3 (ab25 Lv.std I mu) (Zn (T:=tabO [] (eT F M)) (l:=[]) Z2) ?_
 refine nb25_go Lv.std F M I mu e ?_
 simp only [nb25,VC.holds,ZJ,ZO,Zb,Zh,Zp,Yj,Ym,Z6,ZM,Yl,Yk,Yf,ZX,ZY,ZT,ZR,Ye,ZN,ZB,ZD,Zm,Z1,ZS,Z5,ZK,ZW,Yb,ZV,ZP,ZQ,Zo,ZH,Ya,Z3,ZI,Yd,Yc,Z4,Z7,Zg,ZC,ZL,ZU,Z8,Z9,Zd,Ze,Zz,ZA,Zu,Zv,Zw,Zx,Zj,Zk,Zs,Zt,Zi,Zl,Zq,Zr,ZG,ZF,ZZ,Yg,ZE,List.take_length,List.take_succ_cons,List.take_zero,List.take_nil,List.nil_append,List.length_append,List.length_cons,List.length_nil,Nat.zero_add,pe5,Prod.mk.injEq,and_true,true_and]
 refine ⟨fun c=>⟨⟨by omega,by omega⟩,⟨⟨Int.le_refl 0,by show (0:Int)≤e.2.2.2.2.length; omega⟩,rfl⟩,?_⟩,fun c=>⟨⟨by omega,by omega⟩,⟨⟨Int.le_refl 0,by show (0:Int)≤e.2.2.2.2.length; omega⟩,rfl⟩,?_⟩⟩
 all_goals
  rintro ⟨l,x,⟨⟩⟩ ⟨⟨i1,i2⟩,i3⟩
  simp only at i1 i2 i3 ⊢
  obtain ⟨k,rfl⟩:=Yp i1
  rw [Int.toNat_natCast] at i3
  have hl:l.length = k:=by rw [i3,List.length_take]; omega
  rw [hl,Int.toNat_natCast]
  refine ⟨fun hlt=>?_,fun hge=>?_⟩
  ·have hk:k < e.2.2.2.2.length:=by omega
   rw [wr hlt (by omega),List.getElem?_eq_getElem hk,Option.getD_some]
   have b1:=g3 _ (List.getElem_mem hk)
   refine ⟨⟨i1,hlt⟩,⟨by omega,by omega⟩,⟨by omega,by omega⟩,⟨⟨by show (0:Int)≤((k + 1:Nat):Int); omega,by show ((k + 1:Nat):Int)≤_; omega⟩,?_⟩,by show ((e.2.2.2.2.length:Int) - ((k + 1:Nat):Int)).toNat < ((e.2.2.2.2.length:Int) - k).toNat; omega⟩
   show l ++ [e.2.2.2.2[k]] = e.2.2.2.2.take ((k + 1:Nat):Int).toNat
   rw [Int.toNat_natCast,List.take_succ,List.getElem?_eq_getElem hk,i3]; rfl
  ·rw [i3,List.take_of_length_le (by omega)]; rw [← c]
end Go.Proofs.Tryz
