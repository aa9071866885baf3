/- What functions of the weak memory compute, proved through the condition generator, and plain facts of it. Conditions: none of ours. -/
import Derived.Test.YthfjgaifdadgnaaGreatK16
import Derived.Test.YthfjgaifdadgnaaGreatK19
import Derived.Sort.LotA
set_option autoImplicit false
set_option linter.all false
namespace Go.Proofs.Tryz
open Go Go.VM
set_option maxRecDepth 100000
def a29 (L : Lv) (I0 : Ds [.sl (.sl In), It] → Prop) (m0 : Ds [.sl (.sl In), It] → Nat) (I2 : List InD × Unit → Ds [.sl It, .sl In, It] → Prop) (m2 : List InD × Unit → Ds [.sl It, .sl In, It] → Nat) (I4 : List Int × List InD × Unit → Ds [.sl In, It] → Prop) (m4 : List Int × List InD × Unit → Ds [.sl In, It] → Nat) : Nat → LAnn
  | 0 => anH L [2, 5, 27, 28, 29] [(5, some 1, 54, .sl In)] [.br 5 1 (.sl In), .s 29 It] I0 m0
  | 2 => anE L [2, 5, 8, 9, 27, 28, 29, 33, 34, 35] [(8, none, 3, It), (9, none, 56, In)] [.h (.s 33 (.sl In))] [.r 8 It, .r 9 In, .s 35 It] I2 m2
  | 4 => anE L [2, 5, 8, 9, 27, 28, 29, 65, 66, 67] [] [.h (.r 8 It), .h (.r 9 In)] [.r 9 In, .s 67 It] I4 m4
  | _ => .no
def n29 (L : Lv) (F : BxF) (I0 : Ds [.sl (.sl In), It] → Prop) (m0 : Ds [.sl (.sl In), It] → Nat) (I2 : List InD × Unit → Ds [.sl It, .sl In, It] → Prop) (m2 : List InD × Unit → Ds [.sl It, .sl In, It] → Nat) (I4 : List Int × List InD × Unit → Ds [.sl In, It] → Prop) (m4 : List Int × List InD × Unit → Ds [.sl In, It] → Nat) (p : WkD)  : VC :=
 let z1 := Prod.snd p;
 let z2 := (Prod.fst p, Prod.fst z1, Prod.snd z1);
 let z3 := (Prod.fst (BxF.fenE F p), Prod.snd (BxF.fenE F p), ());
 let z4 := Prod.fst p;
 let z5 := Prod.fst z1;
 let z6 := Lv.llen L (Ty.sl In) z5;
 let z7 := Lv.cast L z6;
 let z8 := Prod.snd z1;
 let z9 := Lv.llen L It z4;
 let z10 := Int × Int × Int × Int × Int × Int;
 let z11 := List z10;
 let z12 := (Lv.take L In [(11, 0, 0, 0, 0, 0)] 1);
 let z13 := Lv.llen L In z12; VC.obl (BxF.bw F z2) (VC.br (Lv.cmp L BinOp.neq (BxF.check F z2) 0) (VC.ok ((([], [], 0), BxF.check F z2, ()) = z3)) (VC.obl (BxF.pLi F z4) (VC.obl
   (St.mk 98 [(2, V.c (C.ptr 2 0)), (5, V.c (C.ptr 3 0)), (27, V.c (C.sl (Ty.sl In) z5)), (28, V.c (C.int IntKind.i64 z7)), (29, V.c (C.int IntKind.i64 0))] [(0, Ob.amb), (1, Ob.box
   25 [C.sl It z4, C.sl (Ty.sl In) z5, C.int IntKind.i64 z8]), (2, Ob.box 25 [C.nils, C.nils, C.int IntKind.i64 0]), (3, Ob.box 25 [C.own 4 z9, C.own 6 0, C.int IntKind.i64 z8]),
   (4, Ob.row 3 It z4), (6, Ob.row 54 (Ty.sl In) [])] 7 = St.mk 98 [(2, V.c (C.ptr 2 0)), (5, V.c (C.ptr 3 0)), (27, V.c (C.sl (Ty.sl In) z5)), (28, V.c (C.int IntKind.i64 z7)),
   (29, V.c (C.int IntKind.i64 0))] [(0, Ob.amb), (1, Ob.box 25 [C.sl It z4, C.sl (Ty.sl In) z5, C.int IntKind.i64 z8]), (2, Ob.box 25 [C.nils, C.nils, C.int IntKind.i64 0]), (3,
   Ob.box 25 [C.own 4 z9, C.own 6 (Lv.llen L (Ty.sl In) []), C.int IntKind.i64 z8]), (4, Ob.row 3 It z4), (6, Ob.row 54 (Ty.sl In) [])] 7) (VC.obl (I0 ([], 0, ())) (VC.all (List z11
   × Int × Unit) fun (v1 : List (List (Int × Int × Int × Int × Int × Int)) × Int × Unit) =>
 let z14 := Prod.fst (Prod.snd v1);
 let z15 := Lv.toN L z14;
 let z16 := Lv.get L (Ty.sl In) z5 z15;
 let z17 := Lv.llen L In z16;
 let z18 := Lv.cast L z17;
 let z19 := Prod.fst v1;
 let z20 := Lv.llen L (Ty.sl In) z19;
 let z21 := (Lv.get L (Ty.sl In) z5 z15, ());
 let z22 := Lv.take L (Ty.sl In) z19 z20;
 let z23 := Lv.llen L (Ty.sl In) z22;
 let z24 := Lv.ar L BinOp.add IntKind.i64 z14 1; VC.imp (I0 v1) (VC.br (Lv.cmp L BinOp.lss z14 z7) (VC.obl (Lv.inR L z14 z6) (VC.obl (St.mk 98 [(2, V.c (C.ptr 2 0)), (5, V.c (C.ptr
   3 0)), (8, V.c (C.own 9 0)), (9, V.c (C.own 10 0)), (27, V.c (C.sl (Ty.sl In) z5)), (28, V.c (C.int IntKind.i64 z7)), (29, V.c (C.int IntKind.i64 z14)), (33, V.c (C.sl In z16)),
   (34, V.c (C.int IntKind.i64 z18)), (35, V.c (C.int IntKind.i64 0))] [(0, Ob.amb), (1, Ob.box 25 [C.sl It z4, C.sl (Ty.sl In) z5, C.int IntKind.i64 z8]), (2, Ob.box 25 [C.nils,
   C.nils, C.int IntKind.i64 0]), (3, Ob.box 25 [C.own 4 z9, C.own 6 z20, C.int IntKind.i64 z8]), (4, Ob.row 3 It z4), (6, Ob.row 54 (Ty.sl In) z19), (9, Ob.row 3 It []), (10,
   Ob.row 56 In [])] 11 = St.mk 98 [(2, V.c (C.ptr 2 0)), (5, V.c (C.ptr 3 0)), (8, V.c (C.own 9 (Lv.llen L It []))), (9, V.c (C.own 10 (Lv.llen L In []))), (27, V.c (C.sl (Ty.sl
   In) z5)), (28, V.c (C.int IntKind.i64 z7)), (29, V.c (C.int IntKind.i64 z14)), (33, V.c (C.sl In z16)), (34, V.c (C.int IntKind.i64 z18)), (35, V.c (C.int IntKind.i64 0))] [(0,
   Ob.amb), (1, Ob.box 25 [C.sl It z4, C.sl (Ty.sl In) z5, C.int IntKind.i64 z8]), (2, Ob.box 25 [C.nils, C.nils, C.int IntKind.i64 0]), (3, Ob.box 25 [C.own 4 z9, C.own 6 z20,
   C.int IntKind.i64 z8]), (4, Ob.row 3 It z4), (6, Ob.row 54 (Ty.sl In) z19), (9, Ob.row 3 It []), (10, Ob.row 56 In [])] 11) (VC.obl (I2 z21 ([], [], 0, ())) (VC.all (List Int ×
   List z10 × Int × Unit) fun (v2 : List Int × List (Int × Int × Int × Int × Int × Int) × Int × Unit) =>
 let z25 := Prod.snd v2;
 let z26 := Prod.fst (Prod.snd z25);
 let z27 := Lv.take L It (Prod.fst v2) (Lv.llen L It (Prod.fst v2));
 let z28 := Prod.fst z25;
 let z29 := Lv.llen L In z28;
 let z30 := Lv.take L It [Lv.cast L z29] 1;
 let z31 := Lv.add L (Lv.llen L It z27) (Lv.llen L It z30);
 let z32 := Lv.room L z31 8;
 let z33 := Lv.take L In z28 z29;
 let z34 := Lv.get L In z16 (Lv.toN L z26);
 let z35 := Prod.snd z34;
 let z36 := Prod.snd z35;
 let z37 := Prod.snd z36;
 let z38 := Prod.snd z37;
 let z39 := (Lv.take L In [(Prod.fst z34, Prod.fst z35, Prod.fst z36, Prod.fst z37, Prod.fst z38, Prod.snd z38)] 1);
 let z40 := Lv.add L (Lv.llen L In z33) (Lv.llen L In z39);
 let z41 := Lv.app L In z33 z39;
 let z42 := Lv.take L In z41 z40;
 let z43 := Lv.add L (Lv.llen L In z42) z13;
 let z44 := Lv.ar L BinOp.add IntKind.i64 z26 1;
 let z45 := Lv.app L It z27 z30;
 let z46 := Lv.app L In z42 z12;
 let z47 := Lv.llen L It z45;
 let z48 := (Lv.app L It z27 z30, Lv.app L In z42 z12, Lv.ar L BinOp.add IntKind.i64 z26 1, ());
 let z49 := (Lv.app L It z27 z30, Lv.app L In z33 z39, Lv.ar L BinOp.add IntKind.i64 z26 1, ());
 let z50 := Lv.cast L z29;
 let z51 := (Lv.app L It z27 z30, Prod.fst z25, ()); VC.imp (I2 z21 v2) (VC.br (Lv.cmp L BinOp.lss z26 z18) (VC.obl (Lv.inR L z26 z17) (VC.obl z32 (VC.obl (Lv.room L z40 48) (VC.br
   (Lv.cmp L BinOp.eql (Prod.fst z34) 9) (VC.obl (Lv.room L z43 48) (VC.ok (St.mk 98 [(2, V.c (C.ptr 2 0)), (5, V.c (C.ptr 3 0)), (8, V.c (C.own 9 z31)), (9, V.c (C.own 10 z43)),
   (27, V.c (C.sl (Ty.sl In) z5)), (28, V.c (C.int IntKind.i64 z7)), (29, V.c (C.int IntKind.i64 z14)), (33, V.c (C.sl In z16)), (34, V.c (C.int IntKind.i64 z18)), (35, V.c (C.int
   IntKind.i64 z44))] [(0, Ob.amb), (1, Ob.box 25 [C.sl It z4, C.sl (Ty.sl In) z5, C.int IntKind.i64 z8]), (2, Ob.box 25 [C.nils, C.nils, C.int IntKind.i64 0]), (3, Ob.box 25 [C.own
   4 z9, C.own 6 z20, C.int IntKind.i64 z8]), (4, Ob.row 3 It z4), (6, Ob.row 54 (Ty.sl In) z19), (9, Ob.row 3 It z45), (10, Ob.row 56 In z46)] 11 = St.mk 98 [(2, V.c (C.ptr 2 0)),
   (5, V.c (C.ptr 3 0)), (8, V.c (C.own 9 z47)), (9, V.c (C.own 10 (Lv.llen L In z46))), (27, V.c (C.sl (Ty.sl In) z5)), (28, V.c (C.int IntKind.i64 z7)), (29, V.c (C.int
   IntKind.i64 z14)), (33, V.c (C.sl In z16)), (34, V.c (C.int IntKind.i64 z18)), (35, V.c (C.int IntKind.i64 z44))] [(0, Ob.amb), (1, Ob.box 25 [C.sl It z4, C.sl (Ty.sl In) z5,
   C.int IntKind.i64 z8]), (2, Ob.box 25 [C.nils, C.nils, C.int IntKind.i64 0]), (3, Ob.box 25 [C.own 4 z9, C.own 6 z20, C.int IntKind.i64 z8]), (4, Ob.row 3 It z4), (6, Ob.row 54
   (Ty.sl In) z19), (9, Ob.row 3 It z45), (10, Ob.row 56 In z46)] 11 ∧ I2 z21 z48 ∧ m2 z21 z48 < m2 z21 v2))) (VC.ok (St.mk 98 [(2, V.c (C.ptr 2 0)), (5, V.c (C.ptr 3 0)), (8, V.c
   (C.own 9 z31)), (9, V.c (C.own 10 z40)), (27, V.c (C.sl (Ty.sl In) z5)), (28, V.c (C.int IntKind.i64 z7)), (29, V.c (C.int IntKind.i64 z14)), (33, V.c (C.sl In z16)), (34, V.c
   (C.int IntKind.i64 z18)), (35, V.c (C.int IntKind.i64 z44))] [(0, Ob.amb), (1, Ob.box 25 [C.sl It z4, C.sl (Ty.sl In) z5, C.int IntKind.i64 z8]), (2, Ob.box 25 [C.nils, C.nils,
   C.int IntKind.i64 0]), (3, Ob.box 25 [C.own 4 z9, C.own 6 z20, C.int IntKind.i64 z8]), (4, Ob.row 3 It z4), (6, Ob.row 54 (Ty.sl In) z19), (9, Ob.row 3 It z45), (10, Ob.row 56 In
   z41)] 11 = St.mk 98 [(2, V.c (C.ptr 2 0)), (5, V.c (C.ptr 3 0)), (8, V.c (C.own 9 z47)), (9, V.c (C.own 10 (Lv.llen L In z41))), (27, V.c (C.sl (Ty.sl In) z5)), (28, V.c (C.int
   IntKind.i64 z7)), (29, V.c (C.int IntKind.i64 z14)), (33, V.c (C.sl In z16)), (34, V.c (C.int IntKind.i64 z18)), (35, V.c (C.int IntKind.i64 z44))] [(0, Ob.amb), (1, Ob.box 25
   [C.sl It z4, C.sl (Ty.sl In) z5, C.int IntKind.i64 z8]), (2, Ob.box 25 [C.nils, C.nils, C.int IntKind.i64 0]), (3, Ob.box 25 [C.own 4 z9, C.own 6 z20, C.int IntKind.i64 z8]), (4,
   Ob.row 3 It z4), (6, Ob.row 54 (Ty.sl In) z19), (9, Ob.row 3 It z45), (10, Ob.row 56 In z41)] 11 ∧ I2 z21 z49 ∧ m2 z21 z49 < m2 z21 v2)))))) (VC.obl z32 (VC.br (Lv.cmp L
   BinOp.gtr z50 200) (VC.ok ((([], [], 0), 5, ()) = z3)) (VC.obl (St.mk 98 [(2, V.c (C.ptr 2 0)), (5, V.c (C.ptr 3 0)), (8, V.c (C.own 12 z31)), (9, V.c (C.own 13 z29)), (27, V.c
   (C.sl (Ty.sl In) z5)), (28, V.c (C.int IntKind.i64 z7)), (29, V.c (C.int IntKind.i64 z14)), (65, V.c (C.own 13 z29)), (66, V.c (C.int IntKind.i64 z50)), (67, V.c (C.int
   IntKind.i64 0))] [(0, Ob.amb), (1, Ob.box 25 [C.sl It z4, C.sl (Ty.sl In) z5, C.int IntKind.i64 z8]), (2, Ob.box 25 [C.nils, C.nils, C.int IntKind.i64 0]), (3, Ob.box 25 [C.own 4
   z9, C.own 6 z20, C.int IntKind.i64 z8]), (4, Ob.row 3 It z4), (6, Ob.row 54 (Ty.sl In) z19), (11, Ob.row 3 It [Lv.cast L z29]), (12, Ob.row 3 It z45), (13, Ob.row 56 In z28)] 14
   = St.mk 98 [(2, V.c (C.ptr 2 0)), (5, V.c (C.ptr 3 0)), (8, V.c (C.own 12 z31)), (9, V.c (C.own 13 z29)), (27, V.c (C.sl (Ty.sl In) z5)), (28, V.c (C.int IntKind.i64 z7)), (29,
   V.c (C.int IntKind.i64 z14)), (65, V.c (C.own 13 z29)), (66, V.c (C.int IntKind.i64 z50)), (67, V.c (C.int IntKind.i64 0))] [(0, Ob.amb), (1, Ob.box 25 [C.sl It z4, C.sl (Ty.sl
   In) z5, C.int IntKind.i64 z8]), (2, Ob.box 25 [C.nils, C.nils, C.int IntKind.i64 0]), (3, Ob.box 25 [C.own 4 z9, C.own 6 z20, C.int IntKind.i64 z8]), (4, Ob.row 3 It z4), (6,
   Ob.row 54 (Ty.sl In) z19), (11, Ob.row 3 It [Lv.cast L z29]), (12, Ob.row 3 It z45), (13, Ob.row 56 In z28)] 14) (VC.obl (I4 z51 (Prod.fst z25, 0, ())) (VC.all (List z10 × Int ×
   Unit) fun (v3 : List (Int × Int × Int × Int × Int × Int) × Int × Unit) =>
 let z52 := Prod.fst (Prod.snd v3);
 let z53 := Lv.toN L z52;
 let z54 := Prod.fst v3;
 let z55 := Lv.llen L In z54;
 let z56 := Lv.ltN L z53 z55;
 let z57 := Lv.get L In z54 z53;
 let z58 := Prod.fst z57;
 let z59 := Prod.snd z57;
 let z60 := Prod.snd z59;
 let z61 := Prod.snd z60;
 let z62 := Prod.snd z61;
 let z63 := Prod.snd z62;
 let z64 := Lv.inR L z63 z31;
 let z65 := Lv.toN L z63;
 let z66 := Lv.ltN L z65 z47;
 let z67 := Lv.inR L z52 z55;
 let z68 := Lv.ar L BinOp.add IntKind.i64 z52 1;
 let z69 := (Prod.fst z57, Prod.fst z59, Prod.fst z60, Prod.fst z61, Prod.fst z62, Lv.get L It z45 z65);
 let z70 := Lv.setl L In z54 z53 z69;
 let z71 := Lv.llen L In z70;
 let z72 := (Lv.setl L In z54 z53 z69, Lv.ar L BinOp.add IntKind.i64 z52 1, ());
 let z73 := (Prod.fst v3, Lv.ar L BinOp.add IntKind.i64 z52 1, ());
 let z74 := Lv.take L (Ty.sl In) [Lv.take L In z54 z55] 1;
 let z75 := Lv.add L z23 (Lv.llen L (Ty.sl In) z74);
 let z76 := Lv.app L (Ty.sl In) z22 z74;
 let z77 := (Lv.app L (Ty.sl In) z22 z74, Lv.ar L BinOp.add IntKind.i64 z14 1, ()); VC.imp (I4 z51 v3) (VC.br (Lv.cmp L BinOp.lss z52 z50) (VC.obl (Lv.inR L z52 z29) (VC.obl z56
   (VC.br (Lv.cmp L BinOp.eql z58 13) (VC.obl z64 (VC.obl z66 (VC.obl z67 (VC.obl z56 (VC.ok (St.mk 98 [(2, V.c (C.ptr 2 0)), (5, V.c (C.ptr 3 0)), (8, V.c (C.own 12 z31)), (9, V.c
   (C.own 13 z55)), (27, V.c (C.sl (Ty.sl In) z5)), (28, V.c (C.int IntKind.i64 z7)), (29, V.c (C.int IntKind.i64 z14)), (65, V.c (C.own 13 z29)), (66, V.c (C.int IntKind.i64 z50)),
   (67, V.c (C.int IntKind.i64 z68))] [(0, Ob.amb), (1, Ob.box 25 [C.sl It z4, C.sl (Ty.sl In) z5, C.int IntKind.i64 z8]), (2, Ob.box 25 [C.nils, C.nils, C.int IntKind.i64 0]), (3,
   Ob.box 25 [C.own 4 z9, C.own 6 z20, C.int IntKind.i64 z8]), (4, Ob.row 3 It z4), (6, Ob.row 54 (Ty.sl In) z19), (11, Ob.row 3 It [Lv.cast L z29]), (12, Ob.row 3 It z45), (13,
   Ob.row 56 In z70)] 14 = St.mk 98 [(2, V.c (C.ptr 2 0)), (5, V.c (C.ptr 3 0)), (8, V.c (C.own 12 z31)), (9, V.c (C.own 13 z71)), (27, V.c (C.sl (Ty.sl In) z5)), (28, V.c (C.int
   IntKind.i64 z7)), (29, V.c (C.int IntKind.i64 z14)), (65, V.c (C.own 13 z29)), (66, V.c (C.int IntKind.i64 z50)), (67, V.c (C.int IntKind.i64 z68))] [(0, Ob.amb), (1, Ob.box 25
   [C.sl It z4, C.sl (Ty.sl In) z5, C.int IntKind.i64 z8]), (2, Ob.box 25 [C.nils, C.nils, C.int IntKind.i64 0]), (3, Ob.box 25 [C.own 4 z9, C.own 6 z20, C.int IntKind.i64 z8]), (4,
   Ob.row 3 It z4), (6, Ob.row 54 (Ty.sl In) z19), (11, Ob.row 3 It [Lv.cast L z29]), (12, Ob.row 3 It z45), (13, Ob.row 56 In z70)] 14 ∧ I4 z51 z72 ∧ m4 z51 z72 < m4 z51 v3))))))
   (VC.br (Lv.cmp L BinOp.eql z58 14) (VC.obl z64 (VC.obl z66 (VC.obl z67 (VC.obl z56 (VC.ok (St.mk 98 [(2, V.c (C.ptr 2 0)), (5, V.c (C.ptr 3 0)), (8, V.c (C.own 12 z31)), (9, V.c
   (C.own 13 z55)), (27, V.c (C.sl (Ty.sl In) z5)), (28, V.c (C.int IntKind.i64 z7)), (29, V.c (C.int IntKind.i64 z14)), (65, V.c (C.own 13 z29)), (66, V.c (C.int IntKind.i64 z50)),
   (67, V.c (C.int IntKind.i64 z68))] [(0, Ob.amb), (1, Ob.box 25 [C.sl It z4, C.sl (Ty.sl In) z5, C.int IntKind.i64 z8]), (2, Ob.box 25 [C.nils, C.nils, C.int IntKind.i64 0]), (3,
   Ob.box 25 [C.own 4 z9, C.own 6 z20, C.int IntKind.i64 z8]), (4, Ob.row 3 It z4), (6, Ob.row 54 (Ty.sl In) z19), (11, Ob.row 3 It [Lv.cast L z29]), (12, Ob.row 3 It z45), (13,
   Ob.row 56 In z70)] 14 = St.mk 98 [(2, V.c (C.ptr 2 0)), (5, V.c (C.ptr 3 0)), (8, V.c (C.own 12 z31)), (9, V.c (C.own 13 z71)), (27, V.c (C.sl (Ty.sl In) z5)), (28, V.c (C.int
   IntKind.i64 z7)), (29, V.c (C.int IntKind.i64 z14)), (65, V.c (C.own 13 z29)), (66, V.c (C.int IntKind.i64 z50)), (67, V.c (C.int IntKind.i64 z68))] [(0, Ob.amb), (1, Ob.box 25
   [C.sl It z4, C.sl (Ty.sl In) z5, C.int IntKind.i64 z8]), (2, Ob.box 25 [C.nils, C.nils, C.int IntKind.i64 0]), (3, Ob.box 25 [C.own 4 z9, C.own 6 z20, C.int IntKind.i64 z8]), (4,
   Ob.row 3 It z4), (6, Ob.row 54 (Ty.sl In) z19), (11, Ob.row 3 It [Lv.cast L z29]), (12, Ob.row 3 It z45), (13, Ob.row 56 In z70)] 14 ∧ I4 z51 z72 ∧ m4 z51 z72 < m4 z51 v3))))))
   (VC.ok (St.mk 98 [(2, V.c (C.ptr 2 0)), (5, V.c (C.ptr 3 0)), (8, V.c (C.own 12 z31)), (9, V.c (C.own 13 z55)), (27, V.c (C.sl (Ty.sl In) z5)), (28, V.c (C.int IntKind.i64 z7)),
   (29, V.c (C.int IntKind.i64 z14)), (65, V.c (C.own 13 z29)), (66, V.c (C.int IntKind.i64 z50)), (67, V.c (C.int IntKind.i64 z68))] [(0, Ob.amb), (1, Ob.box 25 [C.sl It z4, C.sl
   (Ty.sl In) z5, C.int IntKind.i64 z8]), (2, Ob.box 25 [C.nils, C.nils, C.int IntKind.i64 0]), (3, Ob.box 25 [C.own 4 z9, C.own 6 z20, C.int IntKind.i64 z8]), (4, Ob.row 3 It z4),
   (6, Ob.row 54 (Ty.sl In) z19), (11, Ob.row 3 It [Lv.cast L z29]), (12, Ob.row 3 It z45), (13, Ob.row 56 In z54)] 14 = St.mk 98 [(2, V.c (C.ptr 2 0)), (5, V.c (C.ptr 3 0)), (8,
   V.c (C.own 12 z31)), (9, V.c (C.own 13 z55)), (27, V.c (C.sl (Ty.sl In) z5)), (28, V.c (C.int IntKind.i64 z7)), (29, V.c (C.int IntKind.i64 z14)), (65, V.c (C.own 13 z29)), (66,
   V.c (C.int IntKind.i64 z50)), (67, V.c (C.int IntKind.i64 z68))] [(0, Ob.amb), (1, Ob.box 25 [C.sl It z4, C.sl (Ty.sl In) z5, C.int IntKind.i64 z8]), (2, Ob.box 25 [C.nils,
   C.nils, C.int IntKind.i64 0]), (3, Ob.box 25 [C.own 4 z9, C.own 6 z20, C.int IntKind.i64 z8]), (4, Ob.row 3 It z4), (6, Ob.row 54 (Ty.sl In) z19), (11, Ob.row 3 It [Lv.cast L
   z29]), (12, Ob.row 3 It z45), (13, Ob.row 56 In z54)] 14 ∧ I4 z51 z73 ∧ m4 z51 z73 < m4 z51 v3)))))) (VC.obl (Lv.room L z75 24) (VC.ok (St.mk 98 [(2, V.c (C.ptr 2 0)), (5, V.c
   (C.ptr 3 0)), (27, V.c (C.sl (Ty.sl In) z5)), (28, V.c (C.int IntKind.i64 z7)), (29, V.c (C.int IntKind.i64 z24))] [(0, Ob.amb), (1, Ob.box 25 [C.sl It z4, C.sl (Ty.sl In) z5,
   C.int IntKind.i64 z8]), (2, Ob.box 25 [C.nils, C.nils, C.int IntKind.i64 0]), (3, Ob.box 25 [C.own 4 z9, C.own 6 z75, C.int IntKind.i64 z8]), (4, Ob.row 3 It z4), (6, Ob.row 54
   (Ty.sl In) z76)] 7 = St.mk 98 [(2, V.c (C.ptr 2 0)), (5, V.c (C.ptr 3 0)), (27, V.c (C.sl (Ty.sl In) z5)), (28, V.c (C.int IntKind.i64 z7)), (29, V.c (C.int IntKind.i64 z24))]
   [(0, Ob.amb), (1, Ob.box 25 [C.sl It z4, C.sl (Ty.sl In) z5, C.int IntKind.i64 z8]), (2, Ob.box 25 [C.nils, C.nils, C.int IntKind.i64 0]), (3, Ob.box 25 [C.own 4 z9, C.own 6
   (Lv.llen L (Ty.sl In) z76), C.int IntKind.i64 z8]), (4, Ob.row 3 It z4), (6, Ob.row 54 (Ty.sl In) z76)] 7 ∧ I0 z77 ∧ m0 z77 < m0 v1)))))))))))))) (VC.ok (((Lv.take L It z4 z9,
   Lv.take L (Ty.sl In) z19 z20, Prod.snd z1), 0, ()) = z3))))))))
theorem n29_eq (L : Lv) (F : BxF) (I0 : Ds [.sl (.sl In), It] → Prop) (m0 : Ds [.sl (.sl In), It] → Nat) (I2 : List InD × Unit → Ds [.sl It, .sl In, It] → Prop) (m2 : List InD × Unit → Ds [.sl It, .sl In, It] → Nat) (I4 : List Int × List InD × Unit → Ds [.sl In, It] → Prop) (m4 : List Int × List InD × Unit → Ds [.sl In, It] → Nat) (p : WkD) : vcC L F [38, 76] (D29 (a29 L I0 m0 I2 m2 I4 m4)) (S29 F) (p, ()) = n29 L F I0 m0 I2 m2 I4 m4 p := by kernel_rfl
theorem n29_go (L : Lv) (F : BxF) (I0 : Ds [.sl (.sl In), It] → Prop) (m0 : Ds [.sl (.sl In), It] → Nat) (I2 : List InD × Unit → Ds [.sl It, .sl In, It] → Prop) (m2 : List InD × Unit → Ds [.sl It, .sl In, It] → Nat) (I4 : List Int × List InD × Unit → Ds [.sl In, It] → Prop) (m4 : List Int × List InD × Unit → Ds [.sl In, It] → Nat) (p : WkD) (h : VC.holds (n29 L F I0 m0 I2 m2 I4 m4 p)) : Holds (vcC L F [38, 76] (D29 (a29 L I0 m0 I2 m2 I4 m4)) (S29 F) (p, ())) := Holds.of_eq (n29_eq L F I0 m0 I2 m2 I4 m4 p) h
def fence : InD := (11, 0, 0, 0, 0, 0)
def offN (l : List InD) : Nat → Nat
  | 0 => 0
  | k + 1 => offN l k + (if (insIn l k).1 = 9 then 2 else 1)
def toN (l : List InD) (n : Nat) : List Int := (List.range n).map fun (k : Nat) => (offN l k : Int)
def exN (l : List InD) : Nat → List InD
  | 0 => []
  | k + 1 => exN l k ++ (if (insIn l k).1 = 9 then [insIn l k, fence] else [insIn l k])
def relab (to : List Int) (i : InD) : InD := if i.1 = 13 ∨ i.1 = 14 then (i.1, i.2.1, i.2.2.1, i.2.2.2.1, i.2.2.2.2.1, regF to i.2.2.2.2.2) else i
def fenL (l : List InD) : List InD := (exN l l.length).map (relab (toN l (l.length + 1)))
def tooF (l : List InD) : Bool := decide (200 < offN l l.length)
def fenF (p : WkD) : WkD × Int := if checkF p ≠ 0 then (([], [], 0), checkF p) else if p.2.1.any tooF = true then (([], [], 0), 5) else ((p.1, p.2.1.map fenL, p.2.2), 0)
theorem exN_len (l : List InD) : ∀ n, (exN l n).length = offN l n
  | 0 => rfl
  | n + 1 => by
    rw [exN, offN, List.length_append, exN_len l n]
    split <;> rfl
theorem offN_le (l : List InD) : ∀ n, n ≤ offN l n ∧ offN l n ≤ 2 * n
  | 0 => ⟨Nat.le_refl _, Nat.le_refl _⟩
  | n + 1 => by
    have := offN_le l n
    rw [offN]
    split <;> omega
theorem toN_len (l : List InD) (n : Nat) : (toN l n).length = n := by simp [toN]
theorem toN_succ (l : List InD) (n : Nat) : toN l (n + 1) = toN l n ++ [(offN l n : Int)] := by
  simp only [toN, List.range_succ, List.map_append, List.map_cons, List.map_nil]
theorem exN_mem (l : List InD) : ∀ n, n ≤ l.length → ∀ x ∈ exN l n, x ∈ l ∨ x = fence
  | 0, _, x, hx => by cases hx
  | n + 1, hn, x, hx => by
    rw [exN] at hx
    rcases List.mem_append.1 hx with h | h
    · exact exN_mem l n (by omega) x h
    · have hm : insIn l (n : Int) ∈ l := insIn_mem ⟨by omega, by omega⟩
      split at h
      · rcases List.mem_cons.1 h with h | h
        · exact .inl (h ▸ hm)
        · exact .inr (List.mem_singleton.1 h)
      · exact .inl (List.mem_singleton.1 h ▸ hm)
theorem tk1 {α : Type} (l : List α) (x : α) : List.take (l.length + 1) (l ++ [x]) = l ++ [x] := List.take_of_length_le (by simp)
theorem ok29 (F : BxF) (h : F.fenE = fenF) (h1 : F.check = checkF) (hp : F.bw = bW) (q : F.pLi = fun l => l.length ≤ 1000000) (k1 : SpecOk prog 38 (S22 F)) (k2 : XOk prog 76 (R76 F).x) : SpecOk prog 29 (S29 F) := by
  refine contract_by hm hE D29 fnok29 _ fun (z : WkD × Unit) hpre => ?_
  obtain ⟨p, ⟨⟩⟩ := z
  have hpre' : F.bw p := hpre
  rw [hp] at hpre'
  obtain ⟨g1, g2, g3⟩ := hpre'
  let I0 : List (List InD) × Int × Unit → Prop := fun x => (0 ≤ x.2.1 ∧ x.2.1 ≤ p.2.1.length) ∧ x.1 = (p.2.1.take x.2.1.toNat).map fenL ∧ (p.2.1.drop x.2.1.toNat).any tooF = p.2.1.any tooF
  let m0 : List (List InD) × Int × Unit → Nat := fun x => (p.2.1.length - x.2.1).toNat
  let I2 : List InD × Unit → List Int × List InD × Int × Unit → Prop := fun e x => (0 ≤ x.2.2.1 ∧ x.2.2.1 ≤ e.1.length) ∧ x.1 = toN e.1 x.2.2.1.toNat ∧ x.2.1 = exN e.1 x.2.2.1.toNat
  let m2 : List InD × Unit → List Int × List InD × Int × Unit → Nat := fun e x => (e.1.length - x.2.2.1).toNat
  let I4 : List Int × List InD × Unit → List InD × Int × Unit → Prop := fun e x => (0 ≤ x.2.1 ∧ x.2.1 ≤ e.2.1.length) ∧ x.1 = (e.2.1.take x.2.1.toNat).map (relab e.1) ++ e.2.1.drop x.2.1.toNat
  let m4 : List Int × List InD × Unit → List InD × Int × Unit → Nat := fun e x => (e.2.1.length - x.2.1).toNat
  refine pack _ 3 (a29 Lv.std I0 m0 I2 m2 I4 m4) (only_tab (T := cT F) (l := [38, 76]) (tb_cons (tb_sp k1 (by kernel_rfl)) (tb_cons (tb_x k2 (by kernel_rfl)) tb_nil))) ?_
  refine n29_go Lv.std F I0 m0 I2 m2 I4 m4 p ?_
  have e2 : ∀ (l : List (List InD)) (k : Int), Lv.std.get (.sl In) l k.toNat = (l[k.toNat]?).getD [] := fun _ _ => rfl
  have e3 : ∀ (l : List InD) (k : Int), Lv.std.get In l k.toNat = insIn l k := fun _ _ => rfl
  have e4 : ∀ (l : List Int) (k : Int), Lv.std.get It l k.toNat = regF l k := fun _ _ => rfl
  simp only [n29, VC.holds, std_cmp, std_cast, std_llen, std_toN, e2, e3, e4, std_inR, std_ltN, std_ar_add, std_app, std_setl, std_take, std_room, std_add, List.take_length, List.take_succ_cons, List.take_zero, List.take_nil, List.nil_append, List.length_append, List.length_cons, List.length_nil, List.length_set, Nat.zero_add, cmp_lss_t, cmp_lss_f, cmp_gtr_t, cmp_gtr_f, cmp_eql_t, cmp_eql_f, cmp_neq_t, cmp_neq_f, h, h1, hp, q, pe5, Prod.mk.injEq, and_true, true_and]
  refine ⟨⟨g1, g2, g3⟩, fun c => by rw [fenF, if_pos c]; exact ⟨rfl, rfl⟩, fun c => ⟨g1, ⟨⟨Int.le_refl 0, by show (0 : Int) ≤ p.2.1.length; omega⟩, rfl, rfl⟩, ?_⟩⟩
  have o1 : OkP p := (okP_iff p).1 c
  have ef : fenF p = if p.2.1.any tooF = true then (([], [], 0), 5) else ((p.1, p.2.1.map fenL, p.2.2), 0) := by rw [fenF, if_neg (fun h => h c)]
  rw [ef]
  have ht4 := o1.t4
  rintro ⟨a, x, ⟨⟩⟩ ⟨⟨i1, i2⟩, i3, i4⟩
  simp only at i1 i2 i3 i4 ⊢
  obtain ⟨k, rfl⟩ := nat_of i1
  rw [Int.toNat_natCast] at i3 i4 ⊢
  have hal : a.length = k := by rw [i3, List.length_map, List.length_take]; omega
  refine ⟨fun hlt => ⟨⟨i1, hlt⟩, ?_⟩, fun hge => ?_⟩
  · have hk : k < p.2.1.length := by omega
    have hl := o1.list _ (List.getElem_mem hk)
    rw [any_drop tooF _ k [] hk] at i4
    rw [List.getElem?_eq_getElem hk, Option.getD_some] at i4 ⊢
    generalize hlg : p.2.1[k] = l at *
    have h200 := hl.1
    refine ⟨⟨⟨Int.le_refl 0, by show (0 : Int) ≤ l.length; omega⟩, rfl, rfl⟩, ?_⟩
    rintro ⟨to, ex, y, ⟨⟩⟩ ⟨⟨j1, j2⟩, j3, j4⟩
    simp only at j1 j2 j3 j4 ⊢
    obtain ⟨j, rfl⟩ := nat_of j1
    rw [Int.toNat_natCast] at j3 j4
    have htl : to.length = j := by rw [j3, toN_len]
    have hel : ex.length = offN l j := by rw [j4, exN_len]
    have hof := offN_le l j
    refine ⟨fun hlt2 => ?_, fun hge2 => ?_⟩
    · rw [wr hlt2 (by omega), tk1]
      have m2l : ∀ u v : _, m2 (l, ()) (u, v, ((j + 1 : Nat) : Int), ()) < m2 (l, ()) (to, ex, (j : Int), ()) := fun u v => by show ((l.length : Int) - ((j + 1 : Nat) : Int)).toNat < ((l.length : Int) - (j : Int)).toNat; omega
      have nx : ∀ v, v = exN l (j + 1) → I2 (l, ()) (to ++ [(ex.length : Int)], v, ((j + 1 : Nat) : Int), ()) := fun v hv => by
        refine ⟨⟨by show (0 : Int) ≤ ((j + 1 : Nat) : Int); omega, by show ((j + 1 : Nat) : Int) ≤ (l.length : Int); omega⟩, ?_, ?_⟩
        · show to ++ [(ex.length : Int)] = toN l ((j + 1 : Nat) : Int).toNat
          rw [Int.toNat_natCast, toN_succ, j3, hel]
        · show v = exN l ((j + 1 : Nat) : Int).toNat
          rw [Int.toNat_natCast]; exact hv
      refine ⟨⟨j1, hlt2⟩, ⟨by omega, by omega⟩, ⟨by omega, by omega⟩, fun c9 => ⟨?_, nx _ ?_, m2l _ _⟩, fun c9 => ⟨nx _ ?_, m2l _ _⟩⟩
      · simp only [List.length_append, List.length_cons, List.length_nil]; exact ⟨by omega, by omega⟩
      · rw [exN, if_pos c9, j4, List.append_assoc]; rfl
      · rw [exN, if_neg c9, j4]
    · have hj : j = l.length := by omega
      subst hj
      have hto : to ++ [(ex.length : Int)] = toN l (l.length + 1) := by rw [toN_succ, j3, hel]
      rw [hto]
      refine ⟨⟨by omega, by omega⟩, fun hbig => ?_, fun hsm => ⟨⟨⟨Int.le_refl 0, by show (0 : Int) ≤ ex.length; omega⟩, rfl⟩, ?_⟩⟩
      · rw [show tooF l = true from decide_eq_true (by omega), Bool.true_or] at i4
        rw [if_pos i4.symm]; exact ⟨rfl, rfl⟩
      · rw [show tooF l = false from decide_eq_false (by omega), Bool.false_or] at i4
        rintro ⟨w, y, ⟨⟩⟩ ⟨⟨n1, n2⟩, n3⟩
        simp only at n1 n2 n3 ⊢
        obtain ⟨n, rfl⟩ := nat_of n1
        rw [Int.toNat_natCast] at n3
        have hwl : w.length = ex.length := by rw [n3, List.length_append, List.length_map, List.length_take, List.length_drop]; omega
        refine ⟨fun hlt3 => ?_, fun hge3 => ?_⟩
        · have hn : n < ex.length := by omega
          have hwn : insIn w n = ex[n] := by
            unfold insIn
            rw [Int.toNat_natCast, n3, List.getElem?_append_right (by rw [List.length_map, List.length_take]; omega), List.length_map, List.length_take, List.getElem?_drop, show n + (n - min n ex.length) = n by omega, List.getElem?_eq_getElem hn]; rfl
          have hm := exN_mem l l.length (Nat.le_refl _) ex[n] (by rw [← j4]; exact List.getElem_mem hn)
          have hN : ex[n].1 = 13 ∨ ex[n].1 = 14 → 0 ≤ ex[n].2.2.2.2.2 ∧ ex[n].2.2.2.2.2 ≤ l.length := fun h13 => by
            rcases hm with hm | hm
            · exact (insOk_ok (hl.2 _ hm)).j h13
            · rw [hm] at h13; rcases h13 with h | h <;> cases h
          rw [wr hlt3 (by omega), Int.toNat_natCast, hwn]
          have m4l : ∀ u, m4 (toN l (l.length + 1), ex, ()) (u, ((n + 1 : Nat) : Int), ()) < m4 (toN l (l.length + 1), ex, ()) (w, (n : Int), ()) := fun u => by show ((ex.length : Int) - ((n + 1 : Nat) : Int)).toNat < ((ex.length : Int) - (n : Int)).toNat; omega
          have nx : ∀ u, u = w.set n (relab (toN l (l.length + 1)) ex[n]) → I4 (toN l (l.length + 1), ex, ()) (u, ((n + 1 : Nat) : Int), ()) := fun u hu => by
            refine ⟨⟨by show (0 : Int) ≤ ((n + 1 : Nat) : Int); omega, by show ((n + 1 : Nat) : Int) ≤ (ex.length : Int); omega⟩, ?_⟩
            show u = (ex.take ((n + 1 : Nat) : Int).toNat).map (relab (toN l (l.length + 1))) ++ ex.drop ((n + 1 : Nat) : Int).toNat
            rw [Int.toNat_natCast, hu, n3, List.set_append, List.length_map, List.length_take, if_neg (by omega), show n - min n ex.length = 0 by omega, List.drop_eq_getElem_cons hn, List.set_cons_zero, List.take_succ, List.getElem?_eq_getElem hn]
            simp only [Option.toList_some, List.map_append, List.map_cons, List.map_nil, List.append_assoc, List.cons_append, List.nil_append]
          have r13 : ex[n].1 = 13 ∨ ex[n].1 = 14 → (ex[n].1, ex[n].2.1, ex[n].2.2.1, ex[n].2.2.2.1, ex[n].2.2.2.2.1, regF (toN l (l.length + 1)) ex[n].2.2.2.2.2) = relab (toN l (l.length + 1)) ex[n] := fun h => by rw [relab, if_pos h]
          refine ⟨⟨n1, hlt3⟩, by omega, fun c13 => ?_, fun c13 => ⟨fun c14 => ?_, fun c14 => ?_⟩⟩
          · have := hN (.inl c13)
            refine ⟨⟨this.1, by omega⟩, by omega, ⟨n1, by omega⟩, by omega, nx _ (by rw [← r13 (.inl c13)]), m4l _⟩
          · have := hN (.inr c14)
            refine ⟨⟨this.1, by omega⟩, by omega, ⟨n1, by omega⟩, by omega, nx _ (by rw [← r13 (.inr c14)]), m4l _⟩
          · refine ⟨nx _ ?_, m4l _⟩
            rw [relab, if_neg (by omega), ← hwn]
            unfold insIn
            rw [Int.toNat_natCast, List.getElem?_eq_getElem (by omega), Option.getD_some, List.set_getElem_self]
        · have hn : n = ex.length := by omega
          subst hn
          rw [List.take_length, List.drop_length, List.append_nil, j4] at n3
          rw [wr hlt g2, hal]
          refine ⟨⟨by omega, by omega⟩, ⟨⟨by show (0 : Int) ≤ ((k + 1 : Nat) : Int); omega, by show ((k + 1 : Nat) : Int) ≤ (p.2.1.length : Int); omega⟩, ?_, ?_⟩, by show ((p.2.1.length : Int) - ((k + 1 : Nat) : Int)).toNat < ((p.2.1.length : Int) - (k : Int)).toNat; omega⟩
          · show a ++ [w] = (p.2.1.take ((k + 1 : Nat) : Int).toNat).map fenL
            rw [Int.toNat_natCast, List.take_succ, List.getElem?_eq_getElem hk, hlg, i3, n3, List.map_append]; rfl
          · show (p.2.1.drop ((k + 1 : Nat) : Int).toNat).any tooF = _
            rw [Int.toNat_natCast]; exact i4
  · rw [show k = p.2.1.length by omega, List.drop_length] at i4
    rw [if_neg (by rw [← i4]; simp), i3, show k = p.2.1.length by omega, List.take_length]
    exact ⟨rfl, rfl⟩
end Go.Proofs.Tryz
set_option autoImplicit false
set_option linter.all false
namespace Go.Proofs.Tryz
open Go Go.VM
set_option maxRecDepth 100000
structure AwF where
  ins : Int → Int → List Int → InD
  cr : WkD
  ce : Int → Int → EnD
  aw : Bool
def S105 (G : AwF) : VM.Spec := ⟨[U8, It, .sl It], [In], fun _ => True, fun x => (G.ins x.1 x.2.1 x.2.2.1, ())⟩
def S60 (G : AwF) : VM.Spec := ⟨[], [Wk], fun _ => True, fun _ => (G.cr, ())⟩
def S61 (G : AwF) : VM.Spec := ⟨[It, It], [En], fun _ => True, fun x => (G.ce x.1 x.2.1, ())⟩
noncomputable def oAw (G : AwF) : List (Nat × FT) := [(105, .spec (S105 G)), (60, .spec (S60 G)), (61, .spec (S61 G))]
def n105 (L : Lv) (F : BxF) (G : AwF) (a b : Int) (l : List Int)  : VC :=
 let z1 := Lv.llen L It l;
 let z2 := Lv.cast L z1;
 let z3 := Lv.cmp L BinOp.gtr z2 1;
 let z4 := Lv.inR L 1 z1;
 let z5 := (AwF.ins G a b l, ()); VC.br (Lv.cmp L BinOp.gtr z2 0) (VC.obl (Lv.inR L 0 z1) (VC.br z3 (VC.obl z4 (VC.ok (((a, Lv.get L It l (Lv.toN L 0), Lv.get L It l (Lv.toN L 1),
   0, 0, b), ()) = z5))) (VC.ok (((a, Lv.get L It l (Lv.toN L 0), 0, 0, 0, b), ()) = z5)))) (VC.br z3 (VC.obl z4 (VC.ok (((a, 0, Lv.get L It l (Lv.toN L 1), 0, 0, b), ()) = z5)))
   (VC.ok (((a, 0, 0, 0, 0, b), ()) = z5)))
theorem n105_eq (L : Lv) (F : BxF) (G : AwF) (a b : Int) (l : List Int) : vcC L F [] (D105 a0) (S105 G) (a, b, l, ()) = n105 L F G a b l := by kernel_rfl
theorem n105_go (L : Lv) (F : BxF) (G : AwF) (a b : Int) (l : List Int) (h : VC.holds (n105 L F G a b l)) : Holds (vcC L F [] (D105 a0) (S105 G) (a, b, l, ())) := Holds.of_eq (n105_eq L F G a b l) h
def n60 (L : Lv) (F : BxF) (G : AwF)  : VC :=
 let z1 := Lv.take L It [1] 1;
 let z2 := AwF.ins G 1 1 z1;
 let z3 := Prod.snd z2;
 let z4 := Prod.snd z3;
 let z5 := Prod.snd z4;
 let z6 := Prod.snd z5;
 let z7 := (Prod.fst z2, Prod.fst z3, Prod.fst z4, Prod.fst z5, Prod.fst z6, Prod.snd z6);
 let z8 := AwF.ins G 9 0 z1;
 let z9 := Prod.snd z8;
 let z10 := Prod.snd z9;
 let z11 := Prod.snd z10;
 let z12 := Prod.snd z11;
 let z13 := Lv.take L It [2] 1;
 let z14 := AwF.ins G 8 1 z13;
 let z15 := Prod.snd z14;
 let z16 := Prod.snd z15;
 let z17 := Prod.snd z16;
 let z18 := Prod.snd z17;
 let z19 := AwF.ins G 15 0 z13;
 let z20 := Prod.snd z19;
 let z21 := Prod.snd z20;
 let z22 := Prod.snd z21;
 let z23 := Prod.snd z22;
 let z24 := (Prod.fst z19, Prod.fst z20, Prod.fst z21, Prod.fst z22, Prod.fst z23, Prod.snd z23);
 let z25 := AwF.ins G 9 1 z1;
 let z26 := Prod.snd z25;
 let z27 := Prod.snd z26;
 let z28 := Prod.snd z27;
 let z29 := Prod.snd z28;
 let z30 := AwF.ins G 8 0 z13;
 let z31 := Prod.snd z30;
 let z32 := Prod.snd z31;
 let z33 := Prod.snd z32;
 let z34 := Prod.snd z33; VC.obl True (VC.obl True (VC.obl True (VC.obl True (VC.obl True (VC.obl True (VC.obl True (VC.obl True (VC.ok (((Lv.take L It [0, 0] 2, Lv.take L (Ty.sl
   In) [Lv.take L In [z7, (Prod.fst z8, Prod.fst z9, Prod.fst z10, Prod.fst z11, Prod.fst z12, Prod.snd z12), (Prod.fst z14, Prod.fst z15, Prod.fst z16, Prod.fst z17, Prod.fst z18,
   Prod.snd z18), z24] 4, Lv.take L In [z7, (Prod.fst z25, Prod.fst z26, Prod.fst z27, Prod.fst z28, Prod.fst z29, Prod.snd z29), (Prod.fst z30, Prod.fst z31, Prod.fst z32, Prod.fst
   z33, Prod.fst z34, Prod.snd z34), z24] 4] 2, 1), ()) = (AwF.cr G, ()))))))))))
theorem n60_eq (L : Lv) (F : BxF) (G : AwF) : vcO L F (oAw G) [105] 3 (D60 a0) (S60 G) () = n60 L F G := by kernel_rfl
theorem n60_go (L : Lv) (F : BxF) (G : AwF) (h : VC.holds (n60 L F G)) : Holds (vcO L F (oAw G) [105] 3 (D60 a0) (S60 G) ()) := Holds.of_eq (n60_eq L F G) h
def n61 (L : Lv) (F : BxF) (G : AwF) (a b : Int)  : VC :=
 VC.ok (((Lv.take L It [1, 1] 2, Lv.take L (Ty.sl It) [Lv.take L It [a] 1, Lv.take L It [b] 1] 2, Lv.take L (Ty.int IntKind.u8) [1, 1] 2), ()) = (AwF.ce G a b, ()))
theorem n61_eq (L : Lv) (F : BxF) (G : AwF) (a b : Int) : vcC L F [] (D61 a0) (S61 G) (a, b, ()) = n61 L F G a b := by kernel_rfl
theorem n61_go (L : Lv) (F : BxF) (G : AwF) (a b : Int) (h : VC.holds (n61 L F G a b)) : Holds (vcC L F [] (D61 a0) (S61 G) (a, b, ())) := Holds.of_eq (n61_eq L F G a b) h
def insF (op d : Int) (r : List Int) : InD := (op, (r[0]?).getD 0, (r[1]?).getD 0, 0, 0, d)
theorem ok105 (F : BxF) (G : AwF) (h : G.ins = insF) : SpecOk prog 105 (S105 G) := by
  refine contract_by hm hE D105 fnok105 _ fun (z : Int × Int × List Int × Unit) hpre => ?_
  obtain ⟨a, b, l, ⟨⟩⟩ := z
  refine pack _ 3 a0 (only_tab (T := cT F) (l := []) tb_nil) ?_
  refine n105_go Lv.std F G a b l ?_
  simp only [n105, VC.holds, std_cmp, std_scmp, std_ar_add, std_ar_sub, std_ar_mul, std_ar, std_dv, std_shf, std_conv, std_mn, std_mx, std_beq, std_bnot, std_band, std_scat, std_byte, std_ext, std_slen, std_strOf, std_bytes, std_llen, std_get, std_setl, std_app, std_take, std_drop, std_rep, std_mhas, std_mval, std_mput, std_cast, std_toN, std_sub, std_add, std_inR, std_le3, std_leN, std_ltN, std_ne0, std_nonneg, std_catOk, std_room, std_mkOk, std_nth, std_cnt, cmp_lss_t, cmp_lss_f, cmp_leq_t, cmp_leq_f, cmp_gtr_t, cmp_gtr_f, cmp_geq_t, cmp_geq_f, cmp_eql_t, cmp_eql_f, cmp_neq_t, cmp_neq_f, scmp_eql_t, scmp_eql_f, scmp_neq_t, scmp_neq_f, dflt_int, dflt_bool, dflt_str, dflt_sl, dflt_pair, h, Prod.mk.injEq, and_true, true_and]
  have e0 : ∀ k, l.length ≤ k → (l[k]?).getD 0 = 0 := fun k hk => by rw [List.getElem?_eq_none hk]; rfl
  unfold insF
  refine ⟨fun h0 => ⟨⟨Int.le_refl 0, h0⟩, fun h1 => ⟨⟨by decide, h1⟩, rfl⟩, fun h1 => ?_⟩, fun h0 => ⟨fun h1 => by omega, fun h1 => ?_⟩⟩
  · rw [e0 1 (by omega)]; rfl
  · rw [e0 0 (by omega), e0 1 (by omega)]
theorem ok60 (F : BxF) (G : AwF) (h : G.cr = ([0, 0], [[insF 1 1 [1], insF 9 0 [1], insF 8 1 [2], insF 15 0 [2]], [insF 1 1 [1], insF 9 1 [1], insF 8 0 [2], insF 15 0 [2]]], 1)) (h1 : G.ins = insF) (k1 : SpecOk prog 105 (S105 G)) : SpecOk prog 60 (S60 G) := by
  refine contract_by hm hE D60 fnok60 _ fun (z : Unit) hpre => ?_
  refine pack _ 3 a0 (only_tab (T := tabO (oAw G) (cT F)) (l := [105]) (tb_cons (tb_sp k1 (by kernel_rfl)) tb_nil)) ?_
  refine n60_go Lv.std F G ?_
  simp only [n60, VC.holds, std_cmp, std_scmp, std_ar_add, std_ar_sub, std_ar_mul, std_ar, std_dv, std_shf, std_conv, std_mn, std_mx, std_beq, std_bnot, std_band, std_scat, std_byte, std_ext, std_slen, std_strOf, std_bytes, std_llen, std_get, std_setl, std_app, std_take, std_drop, std_rep, std_mhas, std_mval, std_mput, std_cast, std_toN, std_sub, std_add, std_inR, std_le3, std_leN, std_ltN, std_ne0, std_nonneg, std_catOk, std_room, std_mkOk, std_nth, std_cnt, cmp_lss_t, cmp_lss_f, cmp_leq_t, cmp_leq_f, cmp_gtr_t, cmp_gtr_f, cmp_geq_t, cmp_geq_f, cmp_eql_t, cmp_eql_f, cmp_neq_t, cmp_neq_f, scmp_eql_t, scmp_eql_f, scmp_neq_t, scmp_neq_f, dflt_int, dflt_bool, dflt_str, dflt_sl, dflt_pair, h, h1, Prod.mk.injEq, and_true, true_and]
  exact ⟨rfl, rfl⟩
theorem ok61 (F : BxF) (G : AwF) (h : G.ce = fun a b => ([1, 1], [[a], [b]], [1, 1])) : SpecOk prog 61 (S61 G) := by
  refine contract_by hm hE D61 fnok61 _ fun (z : Int × Int × Unit) hpre => ?_
  obtain ⟨a, b, ⟨⟩⟩ := z
  refine pack _ 3 a0 (only_tab (T := cT F) (l := []) tb_nil) ?_
  refine n61_go Lv.std F G a b ?_
  simp only [n61, VC.holds, std_cmp, std_scmp, std_ar_add, std_ar_sub, std_ar_mul, std_ar, std_dv, std_shf, std_conv, std_mn, std_mx, std_beq, std_bnot, std_band, std_scat, std_byte, std_ext, std_slen, std_strOf, std_bytes, std_llen, std_get, std_setl, std_app, std_take, std_drop, std_rep, std_mhas, std_mval, std_mput, std_cast, std_toN, std_sub, std_add, std_inR, std_le3, std_leN, std_ltN, std_ne0, std_nonneg, std_catOk, std_room, std_mkOk, std_nth, std_cnt, cmp_lss_t, cmp_lss_f, cmp_leq_t, cmp_leq_f, cmp_gtr_t, cmp_gtr_f, cmp_geq_t, cmp_geq_f, cmp_eql_t, cmp_eql_f, cmp_neq_t, cmp_neq_f, scmp_eql_t, scmp_eql_f, scmp_neq_t, scmp_neq_f, dflt_int, dflt_bool, dflt_str, dflt_sl, dflt_pair, h, Prod.mk.injEq, and_true, true_and]
  exact ⟨rfl, rfl, rfl⟩
end Go.Proofs.Tryz
set_option autoImplicit false
set_option linter.all false
namespace Go.Proofs.Tryz
open Go Go.VM
set_option maxRecDepth 100000
def crP : WkD := ([0, 0], [[insF 1 1 [1], insF 9 0 [1], insF 8 1 [2], insF 15 0 [2]], [insF 1 1 [1], insF 9 1 [1], insF 8 0 [2], insF 15 0 [2]]], 1)
theorem cr_check : checkF crP = 0 := by kernel_rfl
theorem cr_weak : (endsOf (crP, false) (allF (crP, false)).1, (allF (crP, false)).2) = ([([1, 1], [[0], [1]], [1, 1]), ([1, 1], [[0], [0]], [1, 1]), ([1, 1], [[1], [1]], [1, 1]), ([1, 1], [[1], [0]], [1, 1])], 0) := by kernel_rfl
theorem cr_strong : (endsOf (crP, true) (allF (crP, true)).1, (allF (crP, true)).2) = ([([1, 1], [[0], [1]], [1, 1]), ([1, 1], [[1], [1]], [1, 1]), ([1, 1], [[1], [0]], [1, 1])], 0) := by kernel_rfl
theorem cr_way : wayG crP ([1, 1], [[0], [0]], [1, 1]) = ([0, 0, 0, 0, 1, 1, 1, 0, 0, 0], 0) := by kernel_rfl
theorem sort_by {l s : List EnD} (hp : s.isPerm l = true) (hc : ((List.range s.length).all fun j => (List.range j).all fun i => !((Go.Proofs.ltOf cmpEF) (s.toArray[j]!) (s.toArray[i]!))) = true) : List.mergeSort (α := EnD) l (fun x y => !(Go.Proofs.ltOf cmpEF) y x) = s := by
  have hs : ∀ i j : Nat, 0 ≤ i → i < j → j < s.length → (Go.Proofs.ltOf cmpEF) (s.toArray[j]!) (s.toArray[i]!) = false := fun i j _ h1 h2 => by
    have h3 := List.all_eq_true.1 (List.all_eq_true.1 hc j (List.mem_range.2 h2)) i (List.mem_range.2 h1)
    simpa using h3
  have hP : s.Perm l := List.isPerm_iff.1 hp
  have hl := hP.length_eq
  have h := Go.Sort.sorted_unique_holds cmpE_ord.swo cmpE_ord.tot l.toArray s.toArray ⟨by simp [hl], fun i hi => by
      rcases hi with hi | hi
      · omega
      · have hi : l.length ≤ i := by simpa using hi
        rw [getElem!_neg s.toArray i (by simp; omega), getElem!_neg l.toArray i (by simp; omega)], by
      rw [show s.toArray.extract 0 l.toArray.size = s.toArray by rw [show l.toArray.size = s.toArray.size by simp [hl]]; exact Array.extract_size, Array.extract_size]
      exact hP⟩ (fun i j h0 h1 h2 => hs i j h0 h1 (by simpa [hl] using h2))
  exact h.symm
theorem cr_ends : endsG (fun l => List.mergeSort (α := EnD) l fun x y => !(Go.Proofs.ltOf cmpEF) y x) compL (crP, false) = ([([1, 1], [[0], [0]], [1, 1]), ([1, 1], [[0], [1]], [1, 1]), ([1, 1], [[1], [0]], [1, 1]), ([1, 1], [[1], [1]], [1, 1])], ((allF (crP, false)).1.length : Int), 0) := by
  unfold endsG
  rw [if_neg (by rw [show checkF ((crP, false) : McD).1 = 0 from cr_check]; simp), if_neg (by rw [congrArg Prod.snd cr_weak]; simp), show endsOf (crP, false) (allF (crP, false)).1 = _ from congrArg Prod.fst cr_weak]
  show (compL (List.mergeSort (α := EnD) _ _), _, _) = _
  rw [sort_by (s := [([1, 1], [[0], [0]], [1, 1]), ([1, 1], [[0], [1]], [1, 1]), ([1, 1], [[1], [0]], [1, 1]), ([1, 1], [[1], [1]], [1, 1])]) (by kernel_rfl) (by kernel_rfl)]
  rfl
theorem cr_ends1 : endsG (fun l => List.mergeSort (α := EnD) l fun x y => !(Go.Proofs.ltOf cmpEF) y x) compL (crP, true) = ([([1, 1], [[0], [1]], [1, 1]), ([1, 1], [[1], [0]], [1, 1]), ([1, 1], [[1], [1]], [1, 1])], ((allF (crP, true)).1.length : Int), 0) := by
  unfold endsG
  rw [if_neg (by rw [show checkF ((crP, true) : McD).1 = 0 from cr_check]; simp), if_neg (by rw [congrArg Prod.snd cr_strong]; simp), show endsOf (crP, true) (allF (crP, true)).1 = _ from congrArg Prod.fst cr_strong]
  show (compL (List.mergeSort (α := EnD) _ _), _, _) = _
  rw [sort_by (s := [([1, 1], [[0], [1]], [1, 1]), ([1, 1], [[1], [0]], [1, 1]), ([1, 1], [[1], [1]], [1, 1])]) (by kernel_rfl) (by kernel_rfl)]
  rfl
end Go.Proofs.Tryz
