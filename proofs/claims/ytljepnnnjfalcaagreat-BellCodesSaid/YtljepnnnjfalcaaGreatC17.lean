/- What functions of the weak memory compute, proved through the condition generator, and plain facts of it. Conditions: none of ours. -/
import Derived.Test.YtljepnnnjfalcaaGreatC16
set_option autoImplicit false
set_option maxRecDepth 100000
set_option linter.all false
namespace Go.Proofs.Tryz
open Go Go.VM
def a133 (L:Lv) (I:List Int × List Int × Unit→Ds [.sl U8,It]→Prop) (mu:List Int × List Int × Unit→Ds [.sl U8,It]→Nat):Nat→LAnn
 | 0=>anE L [0,8,9,10] [] [.h (.r 0 U8),.h (.s 8 (.sl It))] [.r 0 U8,.s 10 It] I mu
 | _=>.no
def a133n (L:Lv) (I:List Int × List Int × Unit→Ds [.sl U8,It]→Prop) (mu:List Int × List Int × Unit→Ds [.sl U8,It]→Nat):Nat→LAnn
 | 0=>anE L [0,8,9,10] [(0,none,5,U8)] [.h (.r 0 U8),.h (.s 8 (.sl It))] [.r 0 U8,.s 10 It] I mu
 | _=>.no
def a109 (L:Lv) (I:Ds [.sl U8,It]→Prop) (mu:Ds [.sl U8,It]→Nat) (I2:List Int × Int × Unit→Ds [.sl U8,It]→Prop) (m2:List Int × Int × Unit→Ds [.sl U8,It]→Nat):Nat→LAnn
 | 0=>anH L [3,12,13,14] [] [.r 3 U8,.s 14 It] I mu
 | 2=>anE L [3,5,12,13,14,37,38,39] [] [.h (.r 3 U8),.h (.s 14 It)] [.r 3 U8,.s 39 It] I2 m2
 | _=>.no
def n133 (L:Lv) (F:BxF) (I:List Int × List Int × Unit→Ds [.sl U8,It]→Prop) (mu:List Int × List Int × Unit→Ds [.sl U8,It]→Nat) (a l:List Int)  : VC :=
 let z1:=Ty.int .u8;
 let z2:=L.llen z1 a;
 let z3:=L.cast (L.llen It l); .obl (St.mk 33 [(0,V.c (C.own 2 z2)),(8,V.c (C.sl It l)),(9,V.c (C.int .i64 z3)),(10,V.c (C.int .i64 0))] [(0,Ob.amb),
  (2,Ob.row 5 z1 a)] 3 = St.mk 33 [(0,V.c (C.own 2 z2)),(8,V.c (C.sl It l)),(9,V.c (C.int .i64 z3)),(10,V.c (C.int .i64 0))] [(0,Ob.amb),(2,Ob.row 5 z1 a)]
  3) (.obl (I (a,l,()) (a,0,())) (.all (List Int × Int × Unit) fun (v1:List Int × Int × Unit) =>
 let z4:=v1.2.1;
 let z5:=v1.1;
 let z6:=L.llen z1 z5;
 let z7:=L.take z1 z5 z6;
 let z8:=L.conv .u32 (L.conv .i32 (L.get It l (L.toN z4)));
 let z9:=(L.take z1 [L.conv .u8 z8,L.conv .u8 (L.shf .shr .u32 z8 8),L.conv .u8 (L.shf .shr .u32 z8 16),L.conv
  .u8 (L.shf .shr .u32 z8 24)] 4);
 let z10:=L.add (L.llen z1 z7) (L.llen z1 z9);
 let z11:=L.ar .add .i64 z4 1;
 let z12:=L.app z1 z7 z9;
 let z13:=(L.app z1 z7 z9,L.ar .add .i64 z4 1,()); .imp (I (a,l,()) v1) (.br (L.cmp .lss z4 z3) (.obl (L.inR z4 (L.llen It l)) (.obl
  (L.nonneg 8) (.obl (L.nonneg 16) (.obl (L.nonneg 24) (.obl (L.room z10 1) (.ok (St.mk 33 [(0,V.c (C.own 2 z10)),(8,V.c (C.sl It l)),(9,V.c (C.int
  .i64 z3)),(10,V.c (C.int .i64 z11))] [(0,Ob.amb),(2,Ob.row 5 z1 z12)] 3 = St.mk 33 [(0,V.c (C.own 2 (L.llen z1 z12))),(8,V.c (C.sl It l)),(9,V.c (C.int
  .i64 z3)),(10,V.c (C.int .i64 z11))] [(0,Ob.amb),(2,Ob.row 5 z1 z12)] 3∧I (a,l,()) z13∧mu (a,l,()) z13 < mu (a,l,()) v1))))))) (.ok (5 = 5 ∧
  L.take z1 z5 z6 = BxF.put F a l)))))
theorem n133_go (L:Lv) (F:BxF) (I:List Int × List Int × Unit→Ds [.sl U8,It]→Prop) (mu:List Int × List Int × Unit→Ds [.sl U8,It]→Nat) (a l:List Int) (h:VC.holds (n133 L F I mu a l)):Holds (vcT L F [] [] (D133 (a133 L I mu)) (R133 F) a (l,())):=Holds.of_eq (by kernel_rfl) h
def n133n (L:Lv) (F:BxF) (I:List Int × List Int × Unit→Ds [.sl U8,It]→Prop) (mu:List Int × List Int × Unit→Ds [.sl U8,It]→Nat) (l:List Int)  : VC :=
 let z1:=Lv.cast L (Lv.llen L It l);
 let z2:=Ty.int IntKind.u8; VC.obl (St.mk 33 [(0,V.c (C.own 2 0)),(8,V.c (C.sl It l)),(9,V.c (C.int IntKind.i64 z1)),(10,V.c (C.int IntKind.i64 0))] [(0,Ob.amb),(2,
  Ob.row 5 z2 [])] 3 = St.mk 33 [(0,V.c (C.own 2 (Lv.llen L z2 []))),(8,V.c (C.sl It l)),(9,V.c (C.int IntKind.i64 z1)),(10,V.c (C.int IntKind.i64 0))] [(0,Ob.amb),(2,
  Ob.row 5 z2 [])] 3) (VC.obl (I ([],l,()) ([],0,())) (VC.all (List Int × Int × Unit) fun (v1:List Int × Int × Unit) =>
 let z3:=Prod.fst (Prod.snd v1);
 let z4:=Prod.fst v1;
 let z5:=Lv.llen L z2 z4;
 let z6:=Lv.take L z2 z4 z5;
 let z7:=Lv.conv L IntKind.u32 (Lv.conv L IntKind.i32 (Lv.get L It l (Lv.toN L z3)));
 let z8:=(Lv.take L z2 [Lv.conv L IntKind.u8 z7,Lv.conv L IntKind.u8 (Lv.shf L BinOp.shr IntKind.u32 z7 8),Lv.conv L IntKind.u8 (Lv.shf L BinOp.shr IntKind.u32 z7 16),Lv.conv L
  IntKind.u8 (Lv.shf L BinOp.shr IntKind.u32 z7 24)] 4);
 let z9:=Lv.add L (Lv.llen L z2 z6) (Lv.llen L z2 z8);
 let z10:=Lv.ar L BinOp.add IntKind.i64 z3 1;
 let z11:=Lv.app L z2 z6 z8;
 let z12:=(Lv.app L z2 z6 z8,Lv.ar L BinOp.add IntKind.i64 z3 1,()); VC.imp (I ([],l,()) v1) (VC.br (Lv.cmp L BinOp.lss z3 z1) (VC.obl (Lv.inR L z3 (Lv.llen L It l)) (VC.obl
  (Lv.nonneg L 8) (VC.obl (Lv.nonneg L 16) (VC.obl (Lv.nonneg L 24) (VC.obl (Lv.room L z9 1) (VC.ok (St.mk 33 [(0,V.c (C.own 2 z9)),(8,V.c (C.sl It l)),(9,V.c (C.int
  IntKind.i64 z1)),(10,V.c (C.int IntKind.i64 z10))] [(0,Ob.amb),(2,Ob.row 5 z2 z11)] 3 = St.mk 33 [(0,V.c (C.own 2 (Lv.llen L z2 z11))),(8,V.c (C.sl It l)),(9,V.c (C.int
  IntKind.i64 z1)),(10,V.c (C.int IntKind.i64 z10))] [(0,Ob.amb),(2,Ob.row 5 z2 z11)] 3∧I ([],l,()) z12∧mu ([],l,()) z12 < mu ([],l,()) v1))))))) (VC.ok (5 = 5 ∧
  Lv.take L z2 z4 z5 = BxF.put F [] l)))))
theorem n133n_go (L:Lv) (F:BxF) (I:List Int × List Int × Unit→Ds [.sl U8,It]→Prop) (mu:List Int × List Int × Unit→Ds [.sl U8,It]→Nat) (l:List Int) (h:VC.holds (n133n L F I mu l)):Holds (vcTn L F [] [] (D133 (a133n L I mu)) (R133 F) (l,())):=Holds.of_eq (by kernel_rfl) h
def n109 (L:Lv) (F:BxF) (I:Ds [.sl U8,It]→Prop) (mu:Ds [.sl U8,It]→Nat) (I2:List Int × Int × Unit→Ds [.sl U8,It]→Prop) (m2:List Int × Int × Unit→Ds [.sl U8,It]→Nat) (s:StD)  : VC :=
 let z1:=s.1;
 let z2:=Ty.int .u8;
 let z3:=BxF.put F [] z1;
 let z4:=L.llen z2 z3;
 let z5:=s.2;
 let z6:=L.llen Th z5;
 let z7:=L.cast z6;
 let z8:=List Int × Int × Unit; .obl (BxF.pPut F [] z1) (.obl (St.mk 58 [(3,V.c (C.own 3 z4)),(12,V.c (C.sl Th z5)),(13,V.c (C.int .i64 z7)),(14,V.c (C.int
  .i64 0))] [(0,Ob.amb),(1,Ob.box 45 [C.sl It z1,C.sl Th z5]),(3,Ob.row 5 z2 z3)] 4 = St.mk 58 [(3,V.c (C.own 3 z4)),(12,V.c (C.sl Th z5)),(13,V.c (C.int
  .i64 z7)),(14,V.c (C.int .i64 0))] [(0,Ob.amb),(1,Ob.box 45 [C.sl It z1,C.sl Th z5]),(3,Ob.row 5 z2 z3)] 4) (.obl (I (BxF.put F [] z1,0,())) (.all z8
  fun (v1:List Int × Int × Unit) =>
 let z9:=v1.2;
 let z10:=z9.1;
 let z11:=L.get Th z5 (L.toN z10);
 let z12:=z11.2;
 let z13:=z12.2;
 let z14:=z13.2;
 let z15:=z14.2;
 let z16:=v1.1;
 let z17:=z13.1;
 let z18:=L.llen Kp z17;
 let z19:=z14.1;
 let z20:=L.llen It z19;
 let z21:=(L.take It [Prod.fst z11,L.cast z18,L.cast z20,BxF.truth F true] 4);
 let z22:=BxF.put F z16 z21;
 let z23:=z12.1;
 let z24:=BxF.put F z22 z23;
 let z25:=L.llen z2 z24;
 let z26:=L.cast z18;
 let z27:=z11.1;
 let z28:=(BxF.put F z22 z23,z9.1,());
 let z29:=L.ar .add .i64 z10 1;
 let z30:=(L.take It [Prod.fst z11,L.cast z18,L.cast z20,BxF.truth F false] 4);
 let z31:=BxF.put F z16 z30;
 let z32:=BxF.put F z31 z23;
 let z33:=L.llen z2 z32;
 let z34:=(BxF.put F z31 z23,z9.1,()); .imp (I v1) (.br (L.cmp .lss z10 z7) (.obl (L.inR z10 z6) (.br z15 (.obl True (.obl (5 = 5∧L.llen z2
  z16 = L.llen z2 z16∧BxF.pPut F z16 z21) (.obl (5 = 5∧L.llen z2 z22 = L.llen z2 z22∧BxF.pPut F z22 z23) (.obl (St.mk 58 [(3,V.c (C.own 8 z25)),(5,V.c (C.ptr
  4 0)),(12,V.c (C.sl Th z5)),(13,V.c (C.int .i64 z7)),(14,V.c (C.int .i64 z10)),(37,V.c (C.sl Kp z17)),(38,V.c (C.int .i64 z26)),(39,V.c (C.int
  .i64 0))] [(0,Ob.amb),(1,Ob.box 45 [C.sl It z1,C.sl Th z5]),(4,Ob.box 137 [C.int .i64 z27,C.sl It z23,C.sl Kp z17,C.sl It z19,C.sym z15]),(8,Ob.row 5 z2
  z24)] 9 = St.mk 58 [(3,V.c (C.own 8 z25)),(5,V.c (C.ptr 4 0)),(12,V.c (C.sl Th z5)),(13,V.c (C.int .i64 z7)),(14,V.c (C.int .i64 z10)),(37,V.c (C.sl Kp
  z17)),(38,V.c (C.int .i64 z26)),(39,V.c (C.int .i64 0))] [(0,Ob.amb),(1,Ob.box 45 [C.sl It z1,C.sl Th z5]),(4,Ob.box 137 [C.int .i64 z27,C.sl It
  z23,C.sl Kp z17,C.sl It z19,C.sym z15]),(8,Ob.row 5 z2 z24)] 9) (.obl (I2 z28 (BxF.put F z22 z23,0,())) (.all z8 fun (v2:List Int × Int × Unit) =>
 let z35:=v2.2.1;
 let z36:=v2.1;
 let z37:=L.get Kp z17 (L.toN z35);
 let z38:=(L.take It [Prod.fst z37,Prod.snd z37] 2);
 let z39:=BxF.put F z36 z38;
 let z40:=L.llen z2 z39;
 let z41:=L.ar .add .i64 z35 1;
 let z42:=(BxF.put F z36 z38,L.ar .add .i64 z35 1,());
 let z43:=BxF.put F z36 z19;
 let z44:=L.llen z2 z43;
 let z45:=(BxF.put F z36 z19,L.ar .add .i64 z10 1,()); .imp (I2 z28 v2) (.br (L.cmp .lss z35 z26) (.obl (L.inR z35 z18) (.obl (5 = 5∧Lv.llen
  L z2 z36 = L.llen z2 z36∧BxF.pPut F z36 z38) (.ok (St.mk 58 [(3,V.c (C.own 8 z40)),(5,V.c (C.ptr 4 0)),(12,V.c (C.sl Th z5)),(13,V.c (C.int .i64 z7)),(14,
  V.c (C.int .i64 z10)),(37,V.c (C.sl Kp z17)),(38,V.c (C.int .i64 z26)),(39,V.c (C.int .i64 z41))] [(0,Ob.amb),(1,Ob.box 45 [C.sl It z1,C.sl Th
  z5]),(4,Ob.box 137 [C.int .i64 z27,C.sl It z23,C.sl Kp z17,C.sl It z19,C.sym z15]),(8,Ob.row 5 z2 z39)] 9 = St.mk 58 [(3,V.c (C.own 8 z40)),(5,V.c (C.ptr 4 0)),
  (12,V.c (C.sl Th z5)),(13,V.c (C.int .i64 z7)),(14,V.c (C.int .i64 z10)),(37,V.c (C.sl Kp z17)),(38,V.c (C.int .i64 z26)),(39,V.c (C.int
  .i64 z41))] [(0,Ob.amb),(1,Ob.box 45 [C.sl It z1,C.sl Th z5]),(4,Ob.box 137 [C.int .i64 z27,C.sl It z23,C.sl Kp z17,C.sl It z19,C.sym z15]),(8,Ob.row 5
  z2 z39)] 9∧I2 z28 z42∧m2 z28 z42 < m2 z28 v2)))) (.obl (5 = 5∧L.llen z2 z36 = L.llen z2 z36∧BxF.pPut F z36 z19) (.ok (St.mk 58 [(3,V.c (C.own 3 z44)),(12,V.c
  (C.sl Th z5)),(13,V.c (C.int .i64 z7)),(14,V.c (C.int .i64 z29))] [(0,Ob.amb),(1,Ob.box 45 [C.sl It z1,C.sl Th z5]),(3,Ob.row 5 z2 z43)] 4 = St.mk 58 [(3,
  V.c (C.own 3 z44)),(12,V.c (C.sl Th z5)),(13,V.c (C.int .i64 z7)),(14,V.c (C.int .i64 z29))] [(0,Ob.amb),(1,Ob.box 45 [C.sl It z1,C.sl Th z5]),(3,Ob.row
  5 z2 z43)] 4∧I z45∧mu z45 < mu v1)))))))))) (.obl True (.obl (5 = 5∧L.llen z2 z16 = L.llen z2 z16∧BxF.pPut F z16 z30) (.obl (5 = 5∧L.llen z2 z31 =
  L.llen z2 z31∧BxF.pPut F z31 z23) (.obl (St.mk 58 [(3,V.c (C.own 8 z33)),(5,V.c (C.ptr 4 0)),(12,V.c (C.sl Th z5)),(13,V.c (C.int .i64 z7)),(14,V.c (C.int
  .i64 z10)),(37,V.c (C.sl Kp z17)),(38,V.c (C.int .i64 z26)),(39,V.c (C.int .i64 0))] [(0,Ob.amb),(1,Ob.box 45 [C.sl It z1,C.sl Th z5]),(4,Ob.box
  137 [C.int .i64 z27,C.sl It z23,C.sl Kp z17,C.sl It z19,C.sym z15]),(8,Ob.row 5 z2 z32)] 9 = St.mk 58 [(3,V.c (C.own 8 z33)),(5,V.c (C.ptr 4 0)),(12,V.c (C.sl Th
  z5)),(13,V.c (C.int .i64 z7)),(14,V.c (C.int .i64 z10)),(37,V.c (C.sl Kp z17)),(38,V.c (C.int .i64 z26)),(39,V.c (C.int .i64 0))] [(0,
  Ob.amb),(1,Ob.box 45 [C.sl It z1,C.sl Th z5]),(4,Ob.box 137 [C.int .i64 z27,C.sl It z23,C.sl Kp z17,C.sl It z19,C.sym z15]),(8,Ob.row 5 z2 z32)] 9) (.obl (I2
  z34 (BxF.put F z31 z23,0,())) (.all z8 fun (v3:List Int × Int × Unit) =>
 let z46:=v3.2.1;
 let z47:=v3.1;
 let z48:=L.get Kp z17 (L.toN z46);
 let z49:=(L.take It [Prod.fst z48,Prod.snd z48] 2);
 let z50:=BxF.put F z47 z49;
 let z51:=L.llen z2 z50;
 let z52:=L.ar .add .i64 z46 1;
 let z53:=(BxF.put F z47 z49,L.ar .add .i64 z46 1,());
 let z54:=BxF.put F z47 z19;
 let z55:=L.llen z2 z54;
 let z56:=(BxF.put F z47 z19,L.ar .add .i64 z10 1,()); .imp (I2 z34 v3) (.br (L.cmp .lss z46 z26) (.obl (L.inR z46 z18) (.obl (5 = 5∧Lv.llen
  L z2 z47 = L.llen z2 z47∧BxF.pPut F z47 z49) (.ok (St.mk 58 [(3,V.c (C.own 8 z51)),(5,V.c (C.ptr 4 0)),(12,V.c (C.sl Th z5)),(13,V.c (C.int .i64 z7)),(14,
  V.c (C.int .i64 z10)),(37,V.c (C.sl Kp z17)),(38,V.c (C.int .i64 z26)),(39,V.c (C.int .i64 z52))] [(0,Ob.amb),(1,Ob.box 45 [C.sl It z1,C.sl Th
  z5]),(4,Ob.box 137 [C.int .i64 z27,C.sl It z23,C.sl Kp z17,C.sl It z19,C.sym z15]),(8,Ob.row 5 z2 z50)] 9 = St.mk 58 [(3,V.c (C.own 8 z51)),(5,V.c (C.ptr 4 0)),
  (12,V.c (C.sl Th z5)),(13,V.c (C.int .i64 z7)),(14,V.c (C.int .i64 z10)),(37,V.c (C.sl Kp z17)),(38,V.c (C.int .i64 z26)),(39,V.c (C.int
  .i64 z52))] [(0,Ob.amb),(1,Ob.box 45 [C.sl It z1,C.sl Th z5]),(4,Ob.box 137 [C.int .i64 z27,C.sl It z23,C.sl Kp z17,C.sl It z19,C.sym z15]),(8,Ob.row 5
  z2 z50)] 9∧I2 z34 z53∧m2 z34 z53 < m2 z34 v3)))) (.obl (5 = 5∧L.llen z2 z47 = L.llen z2 z47∧BxF.pPut F z47 z19) (.ok (St.mk 58 [(3,V.c (C.own 3 z55)),(12,V.c
  (C.sl Th z5)),(13,V.c (C.int .i64 z7)),(14,V.c (C.int .i64 z29))] [(0,Ob.amb),(1,Ob.box 45 [C.sl It z1,C.sl Th z5]),(3,Ob.row 5 z2 z54)] 4 = St.mk 58 [(3,
  V.c (C.own 3 z55)),(12,V.c (C.sl Th z5)),(13,V.c (C.int .i64 z7)),(14,V.c (C.int .i64 z29))] [(0,Ob.amb),(1,Ob.box 45 [C.sl It z1,C.sl Th z5]),(3,Ob.row
  5 z2 z54)] 4∧I z56∧mu z56 < mu v1)))))))))))) (.ok ((L.strOf (L.take z2 z16 (L.llen z2 z16)),()) = (BxF.key F s,())))))))
theorem n109_go (L:Lv) (F:BxF) (I:Ds [.sl U8,It]→Prop) (mu:Ds [.sl U8,It]→Nat) (I2:List Int × Int × Unit→Ds [.sl U8,It]→Prop) (m2:List Int × Int × Unit→Ds [.sl U8,It]→Nat) (s:StD) (h:VC.holds (n109 L F I mu I2 m2 s)):Holds (vcC L F [211,212] (D109 (a109 L I mu I2 m2)) (S109 F) (s,())):=Holds.of_eq (by kernel_rfl) h
def byte4 (n:Int):List Int:=let u:=IntKind.u32.wrap (IntKind.i32.wrap n); [IntKind.u8.wrap u,IntKind.u8.wrap (shift .shr .u32 u 8),IntKind.u8.wrap (shift .shr .u32 u 16),IntKind.u8.wrap (shift .shr .u32 u 24)]
def enc4:List Int→List Int
 | []=>[]
 | n :: l=>byte4 n ++ enc4 l
def putF (b l:List Int):List Int:=b ++ enc4 l
theorem enc4_app (a b:List Int):enc4 (a ++ b) = enc4 a ++ enc4 b:=by
 induction a with
 | nil=>rfl
 | cons x a ih=>simp only [List.cons_append,enc4,ih,List.append_assoc]
theorem Y7 (a:List Int):(enc4 a).length = 4 * a.length:=by
 induction a with
 | nil=>rfl
 | cons x a ih=>simp only [enc4,List.length_append,ih,List.length_cons]; show 4 + _ = _; omega
theorem ok133 (F:BxF) (h:F.put = putF) (hp:F.pPut = fun b l=>b.length≤100000000∧l.length≤1000000):XOk prog 211 (R133 F).x:=by
 let I:List Int × List Int × Unit→List Int × Int × Unit→Prop:=fun e x=>(0≤x.2.1∧x.2.1≤e.2.1.length)∧x.1 = e.1 ++ enc4 (e.2.1.take x.2.1.toNat)
 let mu:List Int × List Int × Unit→List Int × Int × Unit→Nat:=fun e x=>(e.2.1.length - x.2.1).toNat
 refine turnX_ok hm hE 4 (fns:=only (tabO [] (cT F)) []) (Zs Z4) (fnok133 (a133 Lv.std I mu)) (fnok133 (a133n Lv.std I mu)) (R133 F) (fun (a:List Int) (z:List Int × Unit) hpre=>?_) (fun (z:List Int × Unit) hpre=>?_)
 ·obtain ⟨l,⟨⟩⟩:=z
  have hpre':F.pPut a l:=hpre
  rw [hp] at hpre'
  obtain ⟨g1,g2⟩:=hpre'
  refine n133_go Lv.std F I mu a l ?_
  simp only [n133,VC.holds,ZJ,Zt,Zr,ZH,Z1,ZG,ZI,Zg,Zb,ZM,Z5,Z2,ZK,ZL,Z3,List.take_length,List.take_succ_cons,List.take_zero,List.length_append,List.length_cons,List.length_nil,Nat.zero_add,Zd,Ze,h,Prod.mk.injEq,and_true,true_and]
  refine ⟨⟨⟨Int.le_refl 0,by show (0:Int)≤l.length; omega⟩,by show a = a ++ enc4 (l.take 0); rw [List.take_zero]; exact (List.append_nil _).symm⟩,?_⟩
  rintro ⟨b,x,⟨⟩⟩ ⟨⟨i1,i2⟩,i3⟩
  have i1:(0:Int)≤x:=i1
  have i2:x≤(l.length:Int):=i2
  obtain ⟨k,rfl⟩:=Yq i1
  have i3:b = a ++ enc4 (l.take (k:Int).toNat):=i3
  rw [Int.toNat_natCast] at i3
  simp only [Int.toNat_natCast]
  have hbl:b.length≤110000000:=by
   rw [i3,List.length_append,Y7,List.length_take]
   have:a.length≤100000000:=g1
   omega
  refine ⟨fun hlt=>?_,fun hge=>?_⟩
  ·have hk:k < l.length:=by omega
   rw [wr hlt g2,List.getElem?_eq_getElem hk,Option.getD_some]
   refine ⟨⟨i1,hlt⟩,by decide,by decide,by decide,⟨by omega,by omega⟩,⟨⟨by show (0:Int)≤((k + 1:Nat):Int); omega,by show ((k + 1:Nat):Int)≤(l.length:Int); omega⟩,?_⟩,by show ((l.length:Int) - ((k + 1:Nat):Int)).toNat < ((l.length:Int) - (k:Int)).toNat; omega⟩
   show b ++ byte4 l[k] = a ++ enc4 (l.take ((k + 1:Nat):Int).toNat)
   rw [Int.toNat_natCast,List.take_succ,List.getElem?_eq_getElem hk,enc4_app,i3,List.append_assoc]
   simp only [Option.toList_some,enc4,List.append_nil]
  ·rw [i3,List.take_of_length_le (by omega)]; rfl
 ·obtain ⟨l,⟨⟩⟩:=z
  have hpre':F.pPut [] l:=hpre
  rw [hp] at hpre'
  obtain ⟨g1,g2⟩:=hpre'
  refine n133n_go Lv.std F I mu l ?_
  simp only [n133n,VC.holds,ZJ,Zt,Zr,ZH,Z1,ZG,ZI,Zg,Zb,ZM,Z5,Z2,ZK,ZL,Z3,List.take_length,List.take_succ_cons,List.take_zero,List.length_append,List.length_cons,List.length_nil,Nat.zero_add,Zd,Ze,h,Prod.mk.injEq,and_true,true_and]
  refine ⟨⟨⟨Int.le_refl 0,by show (0:Int)≤l.length; omega⟩,by show ([]:List Int) = ([]:List Int) ++ enc4 (l.take 0); rw [List.take_zero]; exact (List.append_nil _).symm⟩,?_⟩
  rintro ⟨b,x,⟨⟩⟩ ⟨⟨i1,i2⟩,i3⟩
  have i1:(0:Int)≤x:=i1
  have i2:x≤(l.length:Int):=i2
  obtain ⟨k,rfl⟩:=Yq i1
  have i3:b = ([]:List Int) ++ enc4 (l.take (k:Int).toNat):=i3
  rw [Int.toNat_natCast] at i3
  simp only [Int.toNat_natCast]
  have hbl:b.length≤110000000:=by
   rw [i3,List.length_append,Y7,List.length_take]
   have:([]:List Int).length≤100000000:=g1
   omega
  refine ⟨fun hlt=>?_,fun hge=>?_⟩
  ·have hk:k < l.length:=by omega
   rw [wr hlt g2,List.getElem?_eq_getElem hk,Option.getD_some]
   refine ⟨⟨i1,hlt⟩,by decide,by decide,by decide,⟨by omega,by omega⟩,⟨⟨by show (0:Int)≤((k + 1:Nat):Int); omega,by show ((k + 1:Nat):Int)≤(l.length:Int); omega⟩,?_⟩,by show ((l.length:Int) - ((k + 1:Nat):Int)).toNat < ((l.length:Int) - (k:Int)).toNat; omega⟩
   show b ++ byte4 l[k] = ([]:List Int) ++ enc4 (l.take ((k + 1:Nat):Int).toNat)
   rw [Int.toNat_natCast,List.take_succ,List.getElem?_eq_getElem hk,enc4_app,i3,List.append_assoc]
   simp only [Option.toList_some,enc4,List.append_nil]
  ·rw [i3,List.take_of_length_le (by omega)]; rfl
def flatK:List KpD→List Int
 | []=>[]
 | k :: l=>k.1 :: k.2 :: flatK l
def flatT (t:ThD):List Int:=[t.1,(t.2.2.1.length:Int),(t.2.2.2.1.length:Int),truthF t.2.2.2.2] ++ (t.2.1 ++ (flatK t.2.2.1 ++ t.2.2.2.1))
def flatTs:List ThD→List Int
 | []=>[]
 | t :: l=>flatT t ++ flatTs l
def flatS (s:StD):List Int:=s.1 ++ flatTs s.2
def keyF (s:StD):ByteArray:=strOfL (enc4 (flatS s))
theorem flatK_app (a b:List KpD):flatK (a ++ b) = flatK a ++ flatK b:=by
 induction a with
 | nil=>rfl
 | cons x a ih=>simp only [List.cons_append,flatK,ih]
theorem flatTs_app (a b:List ThD):flatTs (a ++ b) = flatTs a ++ flatTs b:=by
 induction a with
 | nil=>rfl
 | cons x a ih=>simp only [List.cons_append,flatTs,ih,List.append_assoc]
theorem flatK_len (a:List KpD):(flatK a).length = 2 * a.length:=by
 induction a with
 | nil=>rfl
 | cons x a ih=>simp only [flatK,List.length_cons,ih]; omega
def smT (t:ThD):Prop:=t.2.1.length≤100∧t.2.2.1.length≤100∧t.2.2.2.1.length≤100
theorem flatT_len (t:ThD) (h:smT t):(flatT t).length≤404:=by
 obtain ⟨h1,h2,h3⟩:=h
 simp only [flatT,List.length_append,List.length_cons,List.length_nil,flatK_len]; omega
theorem flatTs_len (l:List ThD) (h:∀ t ∈ l,smT t):(flatTs l).length≤404 * l.length:=by
 induction l with
 | nil=>exact Nat.le_refl _
 | cons t l ih =>
   simp only [flatTs,List.length_append,List.length_cons]
   have:=flatT_len t (h t (by simp))
   have:=ih fun x hx=>h x (by simp [hx])
   omega
theorem ok109 (F:BxF) (h:F.key = keyF) (h1:F.put = putF) (h2:F.truth = truthF) (hp:F.pKey = fun s=>s.1.length≤64∧s.2.length≤4∧∀ t ∈ s.2,t.2.1.length≤100∧t.2.2.1.length≤100∧t.2.2.2.1.length≤100) (q:F.pPut = fun b l=>b.length≤100000000∧l.length≤1000000) (k1:XOk prog 211 (R133 F).x) (k2:SpecOk prog 212 (S134 F)):SpecOk prog 177 (S109 F):=by
 refine Zc hm hE D109 fnok109 _ fun (z:StD × Unit) hpre=>?_
 obtain ⟨s,⟨⟩⟩:=z
 have hpre':F.pKey s:=hpre
 rw [hp] at hpre'
 obtain ⟨g1,g2,g3⟩:=hpre'
 let I:List Int × Int × Unit→Prop:=fun x=>(0≤x.2.1∧x.2.1≤s.2.length)∧x.1 = enc4 (s.1 ++ flatTs (s.2.take x.2.1.toNat))
 let mu:List Int × Int × Unit→Nat:=fun x=>(s.2.length - x.2.1).toNat
 let I2:List Int × Int × Unit→List Int × Int × Unit→Prop:=fun e x=>(0≤x.2.1∧x.2.1≤(thAt s e.2.1).2.2.1.length)∧x.1 = e.1 ++ enc4 (flatK ((thAt s e.2.1).2.2.1.take x.2.1.toNat))
 let m2:List Int × Int × Unit→List Int × Int × Unit→Nat:=fun e x=>((thAt s e.2.1).2.2.1.length - x.2.1).toNat
 refine Yp _ 3 (a109 Lv.std I mu I2 m2) (Zs (T:=cT F) (l:=[211,212]) (Za (XB k1 (by kernel_rfl)) (Za (Yh k2 (by kernel_rfl)) Z4))) ?_
 refine n109_go Lv.std F I mu I2 m2 s ?_
 have e1:∀ k:Int,Lv.std.get Th s.2 k.toNat = thAt s k:=fun _=>rfl
 have e2:∀ (l:List KpD) (k:Int),Lv.std.get Kp l k.toNat = kpAt l k.toNat:=fun _ _=>rfl
 simp only [n109,VC.holds,ZJ,Zt,Zr,ZH,e1,e2,ZG,ZI,Zb,Zz,ZK,List.take_length,List.take_succ_cons,List.take_zero,List.length_append,List.length_cons,List.length_nil,Nat.zero_add,Zd,Ze,h,h1,h2,q,Prod.mk.injEq,and_true,true_and]
 have p0:putF [] s.1 = enc4 s.1:=rfl
 rw [p0]
 refine ⟨⟨by decide,by omega⟩,⟨⟨Int.le_refl 0,by show (0:Int)≤s.2.length; omega⟩,by show enc4 s.1 = enc4 (s.1 ++ flatTs (s.2.take 0)); rw [List.take_zero]; show _ = enc4 (s.1 ++ []); rw [List.append_nil]⟩,?_⟩
 rintro ⟨b,x,⟨⟩⟩ ⟨⟨i1,i2⟩,i3⟩
 simp only at i1 i2 i3 ⊢
 obtain ⟨k,rfl⟩:=Yq i1
 rw [Int.toNat_natCast] at i3
 have hbl:b.length≤10000:=by
  rw [i3,Y7,List.length_append]
  have:=flatTs_len (s.2.take k) fun t ht=>g3 t (List.mem_of_mem_take ht)
  rw [List.length_take] at this
  omega
 refine ⟨fun hlt=>⟨⟨i1,hlt⟩,fun c1=>?_,fun c1=>?_⟩,fun hge=>?_⟩
 rotate_left 2
 ·rw [i3,List.take_of_length_le (by omega)]; rfl
 all_goals
  have hk:k < s.2.length:=by omega
  have het:thAt s k = s.2[k]:=by unfold thAt; rw [Int.toNat_natCast,List.getElem?_eq_getElem hk]; rfl
  have hsm:smT (thAt s k):=by rw [het]; exact g3 _ (List.getElem_mem hk)
  obtain ⟨m1,m2',m3⟩:=hsm
  try (have hT:truthF true = truthF (thAt s k).2.2.2.2:=by rw [c1]
       simp only [hT])
  try (have hT:truthF false = truthF (thAt s k).2.2.2.2:=by rw [c1]
       simp only [hT])
  have hB:putF (putF b [(thAt s k).1,((thAt s k).2.2.1.length:Int),((thAt s k).2.2.2.1.length:Int),truthF (thAt s k).2.2.2.2]) (thAt s k).2.1 = b ++ enc4 ([(thAt s k).1,((thAt s k).2.2.1.length:Int),((thAt s k).2.2.2.1.length:Int),truthF (thAt s k).2.2.2.2] ++ (thAt s k).2.1):=by
   simp only [putF,enc4_app,List.append_assoc]
  rw [hB]
  refine ⟨⟨by omega,by decide⟩,⟨?_,by omega⟩,⟨⟨Int.le_refl 0,by show (0:Int)≤((thAt s k).2.2.1.length:Int); omega⟩,?_⟩,?_⟩
  ·rw [putF,List.length_append,Y7]; simp only [List.length_cons,List.length_nil]; omega
  ·show _ = _ ++ enc4 (flatK ((thAt s k).2.2.1.take 0))
   rw [List.take_zero]; exact (List.append_nil _).symm
  ·rintro ⟨b2,y,⟨⟩⟩ ⟨⟨j1,j2⟩,j3⟩
   have j1:(0:Int)≤y:=j1
   obtain ⟨j,rfl⟩:=Yq j1
   have j2:(j:Int)≤(thAt s k).2.2.1.length:=j2
   have j3:b2 = b ++ enc4 ([(thAt s k).1,((thAt s k).2.2.1.length:Int),((thAt s k).2.2.2.1.length:Int),truthF (thAt s k).2.2.2.2] ++ (thAt s k).2.1) ++ enc4 (flatK ((thAt s k).2.2.1.take j)):=j3
   have hb2:b2.length≤20000:=by
    rw [j3]
    simp only [List.length_append,Y7,flatK_len,List.length_take,List.length_cons,List.length_nil]
    omega
   simp only [Int.toNat_natCast]
   refine ⟨fun hlt2=>?_,fun hge2=>?_⟩
   ·have hj:j < (thAt s k).2.2.1.length:=by omega
    rw [wr hlt2 (by omega)]
    refine ⟨⟨j1,hlt2⟩,⟨by omega,by decide⟩,⟨⟨by show (0:Int)≤((j + 1:Nat):Int); omega,by show ((j + 1:Nat):Int)≤((thAt s k).2.2.1.length:Int); omega⟩,?_⟩,by show (((thAt s k).2.2.1.length:Int) - ((j + 1:Nat):Int)).toNat < (((thAt s k).2.2.1.length:Int) - (j:Int)).toNat; omega⟩
    have e5:enc4 (flatK ((thAt s k).2.2.1.take (j + 1))) = enc4 (flatK ((thAt s k).2.2.1.take j)) ++ enc4 [(kpAt (thAt s k).2.2.1 j).1,(kpAt (thAt s k).2.2.1 j).2]:=by
     unfold kpAt
     rw [List.take_succ,List.getElem?_eq_getElem hj,flatK_app,enc4_app]; rfl
    show putF b2 _ = (b ++ enc4 ([(thAt s k).1,((thAt s k).2.2.1.length:Int),((thAt s k).2.2.2.1.length:Int),truthF (thAt s k).2.2.2.2] ++ (thAt s k).2.1)) ++ enc4 (flatK ((thAt s k).2.2.1.take ((j + 1:Nat):Int).toNat))
    rw [Int.toNat_natCast,e5,putF,j3,List.append_assoc _ (enc4 (flatK ((thAt s k).2.2.1.take j)))]
   ·rw [wr hlt (by omega)]
    refine ⟨⟨by omega,by omega⟩,⟨⟨by show (0:Int)≤((k + 1:Nat):Int); omega,by show ((k + 1:Nat):Int)≤(s.2.length:Int); omega⟩,?_⟩,by show ((s.2.length:Int) - ((k + 1:Nat):Int)).toNat < ((s.2.length:Int) - (k:Int)).toNat; omega⟩
    show putF b2 _ = enc4 (s.1 ++ flatTs (s.2.take ((k + 1:Nat):Int).toNat))
    rw [Int.toNat_natCast,List.take_succ,List.getElem?_eq_getElem hk,flatTs_app,putF,j3,List.take_of_length_le (by omega:(thAt s k).2.2.1.length≤j),i3]
    simp only [Option.toList_some,flatTs,flatT,← het,enc4_app,List.append_nil,List.append_assoc]
end Go.Proofs.Tryz
namespace Go.Proofs.Tryz
open Go Go.VM
instance:DecidableEq ThD:=inferInstance
instance:DecidableEq StD:=inferInstance
def metIn (l:List MtD) (s:StD):Bool:=l.any fun x=>decide (x.1 = s)
def addN (m:McD) (s:StD) (a:Int):Nat→List MvD→List MtD→Option (List MtD)
 | _,[],l=>some l
 | j,v :: r,l=>if metIn l (doF m s v) then addN m s a (j + 1) r l else if l.length = 20000 then none else addN m s a (j + 1) r (l ++ [(doF m s v,a,(j:Int))])
def bfsN (m:McD):Nat→Nat→List MtD→Option (List MtD)
 | 0,_,l=>some l
 | f + 1,a,l=>match l[a]? with
   | none=>some l
   | some x=>match addN m x.1 a 0 (movesF m x.1) l with
     | none=>none
     | some l'=>bfsN m f (a + 1) l'
def bfs0 (m:McD):Option (List MtD):=bfsN m 20001 0 [(firstF m.1,-1,0)]
def allF (m:McD):List MtD × Int:=match bfs0 m with
 | some l=>(l,0)
 | none=>([],5)
theorem byte4_inj {a b:Int} (ha:-2147483648≤a∧a < 2147483648) (hb:-2147483648≤b∧b < 2147483648) (h:byte4 a = byte4 b):a = b:=by
 have w32:∀ n:Int,-2147483648≤n∧n < 2147483648→IntKind.i32.wrap n = n:=fun n hn=>by
  unfold IntKind.wrap
  simp only [show IntKind.i32.bits = 32 from rfl,show IntKind.i32.signed = true from rfl,Bool.true_and,decide_eq_true_eq]
  split <;> omega
 have wu:∀ n:Int,IntKind.u32.wrap n = n % 4294967296:=fun n=>by
  unfold IntKind.wrap
  simp only [show IntKind.u32.bits = 32 from rfl,show IntKind.u32.signed = false from rfl,Bool.false_and]
  simp
 have w8:∀ n:Int,IntKind.u8.wrap n = n % 256:=fun n=>by
  unfold IntKind.wrap
  simp only [show IntKind.u8.bits = 8 from rfl,show IntKind.u8.signed = false from rfl,Bool.false_and]
  simp
 have s8:∀ n:Int,shift .shr .u32 n 8 = n / 256:=fun n=>by
  show n.fdiv (2 ^ (min (8:Int).toNat 32)) = _
  rw [show min (8:Int).toNat 32 = 8 from rfl,Int.fdiv_eq_ediv_of_nonneg _ (by decide)]; rfl
 have s16:∀ n:Int,shift .shr .u32 n 16 = n / 65536:=fun n=>by
  show n.fdiv (2 ^ (min (16:Int).toNat 32)) = _
  rw [show min (16:Int).toNat 32 = 16 from rfl,Int.fdiv_eq_ediv_of_nonneg _ (by decide)]; rfl
 have s24:∀ n:Int,shift .shr .u32 n 24 = n / 16777216:=fun n=>by
  show n.fdiv (2 ^ (min (24:Int).toNat 32)) = _
  rw [show min (24:Int).toNat 32 = 24 from rfl,Int.fdiv_eq_ediv_of_nonneg _ (by decide)]; rfl
 unfold byte4 at h
 simp only [w32 a ha,w32 b hb,wu,w8,s8,s16,s24,List.cons.injEq,and_true] at h
 omega
def in32 (n:Int):Prop:=-2147483648≤n∧n < 2147483648
theorem byte4_b (n:Int):∀ x ∈ byte4 n,0≤x∧x < 256:=by
 have w8:∀ n:Int,IntKind.u8.wrap n = n % 256:=fun n=>by
  unfold IntKind.wrap
  simp only [show IntKind.u8.bits = 8 from rfl,show IntKind.u8.signed = false from rfl,Bool.false_and]
  simp
 intro x hx
 unfold byte4 at hx
 simp only [w8,List.mem_cons,List.not_mem_nil,or_false] at hx
 rcases hx with rfl | rfl | rfl | rfl <;> omega
theorem enc4_b (l:List Int):∀ x ∈ enc4 l,0≤x∧x < 256:=by
 induction l with
 | nil=>intro x hx; cases hx
 | cons n l ih =>
   intro x hx
   rcases List.mem_append.1 hx with h | h
   ·exact byte4_b n x h
   ·exact ih x h
theorem enc4_inj:∀ (a b:List Int),(∀ x ∈ a,in32 x)→(∀ x ∈ b,in32 x)→enc4 a = enc4 b→a = b
 | [],[],_,_,_=>rfl
 | [],y :: b,_,_,h=>by have:=congrArg List.length h; rw [Y7,Y7] at this; simp at this
 | x :: a,[],_,_,h=>by have:=congrArg List.length h; rw [Y7,Y7] at this; simp at this
 | x :: a,y :: b,ha,hb,h=>by
   have h':byte4 x ++ enc4 a = byte4 y ++ enc4 b:=h
   have hl:(byte4 x).length = (byte4 y).length:=rfl
   obtain ⟨h1,h2⟩:=List.append_inj h' hl
   rw [byte4_inj (ha x (by simp)) (hb y (by simp)) h1,enc4_inj a b (fun z hz=>ha z (by simp [hz])) (fun z hz=>hb z (by simp [hz])) h2]
theorem strOfL_inj:∀ (a b:List Int),(∀ x ∈ a,0≤x∧x < 256)→(∀ x ∈ b,0≤x∧x < 256)→strOfL a = strOfL b→a = b:=fun a b ha hb h=>by
 have h1:a.map (fun n=>UInt8.ofNat n.toNat) = b.map (fun n=>UInt8.ofNat n.toNat):=by
  have:(strOfL a).data = (strOfL b).data:=by rw [h]
  simpa [strOfL] using this
 clear h
 induction a generalizing b with
 | nil=>cases b with
   | nil=>rfl
   | cons y b=>cases h1
 | cons x a ih=>cases b with
   | nil=>cases h1
   | cons y b =>
     simp only [List.map_cons,List.cons.injEq] at h1
     obtain ⟨e1,e2⟩:=h1
     have hx:=ha x (by simp)
     have hy:=hb y (by simp)
     have e3:=congrArg UInt8.toNat e1
     simp only [UInt8.toNat_ofNat'] at e3
     rw [Nat.mod_eq_of_lt (by omega),Nat.mod_eq_of_lt (by omega)] at e3
     rw [show x = y by omega,ih b (fun z hz=>ha z (by simp [hz])) (fun z hz=>hb z (by simp [hz])) e2]
theorem flatK_inj:∀ (a b:List KpD),flatK a = flatK b→a = b
 | [],[],_=>rfl
 | [],_ :: _,h=>by cases h
 | _ :: _,[],h=>by cases h
 | x :: a,y :: b,h=>by
   simp only [flatK,List.cons.injEq] at h
   obtain ⟨h1,h2,h3⟩:=h
   rw [flatK_inj a b h3,Prod.ext h1 h2]
theorem truth_inj {a b:Bool} (h:truthF a = truthF b):a = b:=by cases a <;> cases b <;> first | rfl | cases h
theorem flatTs_inj:∀ (a b:List ThD),(∀ t ∈ a,t.2.1.length = 10)→(∀ t ∈ b,t.2.1.length = 10)→flatTs a = flatTs b→a = b
 | [],[],_,_,_=>rfl
 | [],_ :: _,_,_,h=>by simp [flatTs,flatT] at h
 | _ :: _,[],_,_,h=>by simp [flatTs,flatT] at h
 | x :: a,y :: b,ha,hb,h=>by
   obtain ⟨x1,x2,x3,x4,x5⟩:=x
   obtain ⟨y1,y2,y3,y4,y5⟩:=y
   have hx:x2.length = 10:=ha (x1,x2,x3,x4,x5) (by simp)
   have hy:y2.length = 10:=hb (y1,y2,y3,y4,y5) (by simp)
   simp only [flatTs,flatT,List.append_assoc,List.cons_append,List.nil_append,List.cons.injEq] at h
   obtain ⟨h1,h2,h3,h4,h5⟩:=h
   obtain ⟨h6,h7⟩:=List.append_inj h5 (by omega)
   obtain ⟨h8,h9⟩:=List.append_inj h7 (by rw [flatK_len,flatK_len]; omega)
   obtain ⟨h10,h11⟩:=List.append_inj h9 (by omega)
   rw [h1,h6,flatK_inj _ _ h8,h10,truth_inj h4,flatTs_inj a b (fun t ht=>ha t (by simp [ht])) (fun t ht=>hb t (by simp [ht])) h11]
theorem num_in32 {n:Int} (h:isNumF n = true):in32 n:=by
 have:=isNum_t.1 h
 exact ⟨by omega,by omega⟩
theorem okS_th {p:WkD} {s:StD} (hs:OkS p s) {t:ThD} (ht:t ∈ s.2):∃ k,k < s.2.length∧OkT p k t:=by
 obtain ⟨k,hk,rfl⟩:=List.getElem_of_mem ht
 have:=hs.th k hk
 refine ⟨k,hk,?_⟩
 have e:thAt s k = s.2[k]:=by unfold thAt; rw [Int.toNat_natCast,List.getElem?_eq_getElem hk]; rfl
 rwa [e] at this
theorem flatK_32 {p:WkD}:∀ (l:List KpD),p.1.length≤64→(∀ x ∈ l,(0≤x.1∧x.1 < p.1.length)∧isNumF x.2 = true)→∀ x ∈ flatK l,in32 x
 | [],_,_,x,hx=>by cases hx
 | k :: l,hp,h,x,hx=>by
   simp only [flatK,List.mem_cons] at hx
   have hk:=h k (by simp)
   rcases hx with rfl | rfl | hx
   ·exact ⟨by omega,by omega⟩
   ·exact num_in32 hk.2
   ·exact flatK_32 l hp (fun y hy=>h y (by simp [hy])) x hx
theorem flat_32 {p:WkD} {s:StD} (hp:OkP p) (hs:OkS p s):∀ x ∈ flatS s,in32 x:=by
 have hts:∀ (l:List ThD),(∀ t ∈ l,∃ k,k < s.2.length∧OkT p k t)→∀ x ∈ flatTs l,in32 x:=fun l=>by
  induction l with
  | nil=>intro _ x hx; cases hx
  | cons t l ih =>
    intro h x hx
    simp only [flatTs,List.mem_append] at hx
    rcases hx with hx | hx
    ·obtain ⟨k,hk,ht⟩:=h t (by simp)
     have hk':k < p.2.1.length:=by rw [← hs.tl]; exact hk
     have hl:=(hp.list _ (listAt_mem (b:=false) hk')).1
     have:=hp.room
     have:=ht.kept; have:=ht.t20; have:=ht.at0; have:=ht.atl
     simp only [flatT,List.mem_append,List.mem_cons,List.not_mem_nil,or_false] at hx
     rcases hx with (rfl | rfl | rfl | rfl) | hx | hx | hx
     ·exact ⟨by omega,by omega⟩
     ·exact ⟨by omega,by omega⟩
     ·exact ⟨by omega,by omega⟩
     ·unfold truthF; split <;> exact ⟨by decide,by decide⟩
     ·exact num_in32 (nums_t.1 ht.regs x hx)
     ·exact flatK_32 _ hp.w64 ht.kps x hx
     ·exact num_in32 (nums_t.1 ht.told x hx)
    ·exact ih (fun t ht=>h t (by simp [ht])) x hx
 intro x hx
 rcases List.mem_append.1 hx with h | h
 ·exact num_in32 (nums_t.1 hs.nums x h)
 ·exact hts s.2 (fun t ht=>okS_th hs ht) x h
theorem key_inj {p:WkD} {s s':StD} (hp:OkP p) (h1:OkS p s) (h2:OkS p s') (h:keyF s = keyF s'):s = s':=by
 have e1:=strOfL_inj _ _ (enc4_b _) (enc4_b _) h
 have e2:=enc4_inj _ _ (flat_32 hp h1) (flat_32 hp h2) e1
 obtain ⟨ws,ts⟩:=s
 obtain ⟨ws',ts'⟩:=s'
 obtain ⟨e3,e4⟩:=List.append_inj e2 (h1.wl.trans h2.wl.symm)
 have e5:=flatTs_inj ts ts' (fun t ht=>by obtain ⟨k,_,h⟩:=okS_th h1 (t:=t) ht; exact h.r10) (fun t ht=>by obtain ⟨k,_,h⟩:=okS_th h2 (t:=t) ht; exact h.r10) e4
 have e3:ws = ws':=e3
 rw [e3,e5]
theorem key_sm {p:WkD} {s:StD} (hp:OkP p) (hs:OkS p s):s.1.length≤64∧s.2.length≤4∧∀ t ∈ s.2,t.2.1.length≤100∧t.2.2.1.length≤100∧t.2.2.2.1.length≤100 :=
 ⟨by rw [hs.wl]; exact hp.w64,by rw [hs.tl]; exact hp.t4,fun t ht=>by
  obtain ⟨k,hk,h⟩:=okS_th hs ht
  have:=h.r10; have:=h.kept; have:=hp.room; have:=h.t20
  exact ⟨by omega,by omega,by omega⟩⟩
theorem keq_str (x y:ByteArray):keq .str x y = decide (x = y):=by
 by_cases h:x = y
 ·subst h
  rw [decide_eq_true rfl]
  exact (beq_self_eq_true x.data:(x.data == x.data) = true)
 ·rw [decide_eq_false h]
  cases hb:keq .str x y with
  | false=>rfl
  | true=>exact absurd (ByteArray.ext (eq_of_beq (hb:(x.data == y.data) = true))) h
theorem mval_cons (a:ByteArray) (c:Bool) (r:List (ByteArray × Bool)) (t:ByteArray):mvalL .str .bool ((a,c) :: r) t = if t = a then c else mvalL .str .bool r t:=by
 show (if keq .str t a = true then c else mvalL .str .bool r t) = _
 rw [keq_str]
 by_cases h:t = a
 ·rw [if_pos h,decide_eq_true h,if_pos rfl]
 ·rw [if_neg h,decide_eq_false h,if_neg (by simp)]
theorem mput_cons (a:ByteArray) (c:Bool) (r:List (ByteArray × Bool)) (x:ByteArray):mputL .str .bool ((a,c) :: r) x true = if x = a then (x,true) :: r else (a,c) :: mputL .str .bool r x true:=by
 show (if keq .str x a = true then (x,true) :: r else (a,c) :: mputL .str .bool r x true) = _
 rw [keq_str]
 by_cases h:x = a
 ·rw [if_pos h,decide_eq_true h,if_pos rfl]
 ·rw [if_neg h,decide_eq_false h,if_neg (by simp)]
theorem mval_put (t x:ByteArray):∀ m:List (ByteArray × Bool),mvalL .str .bool (mputL .str .bool m x true) t = (decide (t = x) || mvalL .str .bool m t)
 | []=>by
   show mvalL .str .bool [(x,true)] t = (decide (t = x) || false)
   rw [mval_cons]
   by_cases h:t = x
   ·rw [if_pos h,decide_eq_true h]; rfl
   ·rw [if_neg h,decide_eq_false h]; rfl
 | (a,c) :: r=>by
   have ih:=mval_put t x r
   rw [mput_cons,mval_cons]
   by_cases hx:x = a
   ·subst hx
    rw [if_pos rfl,mval_cons]
    by_cases h:t = x
    ·rw [if_pos h,decide_eq_true h]; rfl
    ·rw [if_neg h,if_neg h,decide_eq_false h]; rfl
   ·rw [if_neg hx,mval_cons,ih]
    by_cases h:t = a
    ·subst h
     rw [if_pos rfl,if_pos rfl,decide_eq_false (fun e=>hx e.symm)]; rfl
    ·rw [if_neg h,if_neg h]
def SeenOk (p:WkD) (mp:List (ByteArray × Bool)) (l:List MtD):Prop:=∀ s,OkS p s→mvalL .str .bool mp (keyF s) = metIn l s
theorem seen_put {p:WkD} {mp:List (ByteArray × Bool)} {l:List MtD} (hp:OkP p) (h:SeenOk p mp l) {s:StD} (hs:OkS p s) (a b:Int):SeenOk p (mputL .str .bool mp (keyF s) true) (l ++ [(s,a,b)]):=fun s' hs'=>by
 rw [mval_put,h s' hs']
 unfold metIn
 rw [List.any_append]
 by_cases e:keyF s' = keyF s
 ·have:=key_inj hp hs' hs e
  subst this
  simp
 ·have:¬ s = s':=fun hc=>e (by rw [hc])
  simp [e,this]
end Go.Proofs.Tryz
