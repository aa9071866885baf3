/- What functions of the weak memory compute, proved through the condition generator, and plain facts of it. Conditions: none of ours. -/
import Derived.Test.YthfjgaifdadgnaaGreatK19
import Derived.Test.YthfjgaifdadgnaaGreatK16
set_option autoImplicit false
set_option linter.all false
namespace Go.Proofs.Tryz
open Go Go.VM
set_option maxRecDepth 100000
def a62 (L : Lv) (I : List MtD × Unit → Ds [.sl En, It] → Prop) (mu : List MtD × Unit → Ds [.sl En, It] → Nat) : Nat → LAnn
  | 0 => anE L [1, 6, 8, 25, 26, 27] [(8, none, 38, En)] [.h (.s 25 (.sl Mt))] [.r 8 En, .s 27 It] I mu
  | _ => .no
def a67 (L : Lv) (I : List MtD × Unit → Ds [It] → Prop) (mu : List MtD × Unit → Ds [It] → Nat) : Nat → LAnn
  | 0 => anE L [0, 1, 7, 8] [] [.h (.s 0 (.sl Mt))] [.s 8 It] I mu
  | _ => .no
def a24 (L : Lv) (I : List MtD × Int × Unit → Ds [.sl It, It] → Prop) (mu : List MtD × Int × Unit → Ds [.sl It, It] → Nat) : Nat → LAnn
  | 0 => anE L [8, 10, 11] [(11, none, 3, It)] [.h (.s 8 (.sl Mt)), .h (.s 10 It)] [.r 11 It, .s 10 It] I mu
  | _ => .no
noncomputable def o24 (L : Lv) (I : List MtD × Unit → Ds [It] → Prop) (mu : List MtD × Unit → Ds [It] → Nat) : List (Nat × FT) := [(67, .inl (D67 (a67 L I mu))), (68, .inl (D68 a0))]
def n62 (L : Lv) (F : BxF) (I : List MtD × Unit → Ds [.sl En, It] → Prop) (mu : List MtD × Unit → Ds [.sl En, It] → Nat) (m : McD)  : VC :=
 let z1 := Prod.fst m;
 let z2 := Prod.snd z1;
 let z3 := (Prod.fst z1, Prod.fst z2, Prod.snd z2);
 let z4 := Prod.snd (BxF.ends F m);
 let z5 := (Prod.fst (BxF.ends F m), Prod.fst z4, Prod.snd z4, ());
 let z6 := (BxF.all F (z3, Prod.snd m));
 let z7 := Ty.pair (Ty.pair (Ty.sl It) (Ty.sl Th)) Kp;
 let z8 := Prod.fst z6;
 let z9 := Lv.llen L z7 z8;
 let z10 := Lv.cast L z9;
 let z11 := Prod.fst z1;
 let z12 := Prod.fst z2;
 let z13 := Prod.snd z2;
 let z14 := Prod.snd m;
 let z15 := (Prod.fst z6, ());
 let z16 := List Int × List (List Int) × List Int; VC.obl (BxF.bw F z3) (VC.br (Lv.cmp L BinOp.neq (BxF.check F z3) 0) (VC.ok (([], 0, BxF.check F z3, ()) = z5)) (VC.obl (BxF.okM F
   (z3, Prod.snd m)) (VC.br (Lv.cmp L BinOp.neq (Prod.snd z6) 0) (VC.ok (([], 0, Prod.snd z6, ()) = z5)) (VC.obl (St.mk 49 [(1, V.c (C.ptr 1 0)), (6, V.c (C.sl z7 z8)), (8, V.c
   (C.own 3 0)), (25, V.c (C.sl z7 z8)), (26, V.c (C.int IntKind.i64 z10)), (27, V.c (C.int IntKind.i64 0))] [(0, Ob.amb), (1, Ob.box 103 [C.sl It z11, C.sl (Ty.sl In) z12, C.int
   IntKind.i64 z13, C.sym z14]), (3, Ob.row 38 En [])] 4 = St.mk 49 [(1, V.c (C.ptr 1 0)), (6, V.c (C.sl z7 z8)), (8, V.c (C.own 3 (Lv.llen L En []))), (25, V.c (C.sl z7 z8)), (26,
   V.c (C.int IntKind.i64 z10)), (27, V.c (C.int IntKind.i64 0))] [(0, Ob.amb), (1, Ob.box 103 [C.sl It z11, C.sl (Ty.sl In) z12, C.int IntKind.i64 z13, C.sym z14]), (3, Ob.row 38
   En [])] 4) (VC.obl (I z15 ([], 0, ())) (VC.all (List z16 × Int × Unit) fun (v1 : List (List Int × List (List Int) × List Int) × Int × Unit) =>
 let z17 := Prod.fst (Prod.snd v1);
 let z18 := Prod.fst (Lv.get L z7 z8 (Lv.toN L z17));
 let z19 := (Prod.fst z18, Prod.snd z18);
 let z20 := Prod.fst v1;
 let z21 := Lv.llen L En z20;
 let z22 := Lv.take L En z20 z21;
 let z23 := (BxF.endOf F (z3, Prod.snd m) z19);
 let z24 := Prod.snd z23;
 let z25 := (Lv.take L En [(Prod.fst z23, Prod.fst z24, Prod.snd z24)] 1);
 let z26 := Lv.add L (Lv.llen L En z22) (Lv.llen L En z25);
 let z27 := Lv.ar L BinOp.add IntKind.i64 z17 1;
 let z28 := Lv.app L En z22 z25;
 let z29 := (Lv.app L En z22 z25, Lv.ar L BinOp.add IntKind.i64 z17 1, ());
 let z30 := (Prod.fst v1, Lv.ar L BinOp.add IntKind.i64 z17 1, ());
 let z31 := BxF.sort F z20;
 let z32 := BxF.comp F z31; VC.imp (I z15 v1) (VC.br (Lv.cmp L BinOp.lss z17 z10) (VC.obl (Lv.inR L z17 z9) (VC.obl (BxF.pE F z19 (z3, Prod.snd m)) (VC.br (BxF.ended F (z3, Prod.snd
   m) z19) (VC.obl (BxF.pEnd F (z3, Prod.snd m) z19) (VC.obl (Lv.room L z26 72) (VC.ok (St.mk 49 [(1, V.c (C.ptr 1 0)), (6, V.c (C.sl z7 z8)), (8, V.c (C.own 3 z26)), (25, V.c (C.sl
   z7 z8)), (26, V.c (C.int IntKind.i64 z10)), (27, V.c (C.int IntKind.i64 z27))] [(0, Ob.amb), (1, Ob.box 103 [C.sl It z11, C.sl (Ty.sl In) z12, C.int IntKind.i64 z13, C.sym z14]),
   (3, Ob.row 38 En z28)] 4 = St.mk 49 [(1, V.c (C.ptr 1 0)), (6, V.c (C.sl z7 z8)), (8, V.c (C.own 3 (Lv.llen L En z28))), (25, V.c (C.sl z7 z8)), (26, V.c (C.int IntKind.i64
   z10)), (27, V.c (C.int IntKind.i64 z27))] [(0, Ob.amb), (1, Ob.box 103 [C.sl It z11, C.sl (Ty.sl In) z12, C.int IntKind.i64 z13, C.sym z14]), (3, Ob.row 38 En z28)] 4 ∧ I z15 z29
   ∧ mu z15 z29 < mu z15 v1)))) (VC.ok (St.mk 49 [(1, V.c (C.ptr 1 0)), (6, V.c (C.sl z7 z8)), (8, V.c (C.own 3 z21)), (25, V.c (C.sl z7 z8)), (26, V.c (C.int IntKind.i64 z10)),
   (27, V.c (C.int IntKind.i64 z27))] [(0, Ob.amb), (1, Ob.box 103 [C.sl It z11, C.sl (Ty.sl In) z12, C.int IntKind.i64 z13, C.sym z14]), (3, Ob.row 38 En z20)] 4 = St.mk 49 [(1,
   V.c (C.ptr 1 0)), (6, V.c (C.sl z7 z8)), (8, V.c (C.own 3 z21)), (25, V.c (C.sl z7 z8)), (26, V.c (C.int IntKind.i64 z10)), (27, V.c (C.int IntKind.i64 z27))] [(0, Ob.amb), (1,
   Ob.box 103 [C.sl It z11, C.sl (Ty.sl In) z12, C.int IntKind.i64 z13, C.sym z14]), (3, Ob.row 38 En z20)] 4 ∧ I z15 z30 ∧ mu z15 z30 < mu z15 v1))))) (VC.obl (38 = 38 ∧ Lv.llen L
   En z20 = Lv.llen L En z20 ∧ BxF.ble F z20) (VC.obl (38 = 38 ∧ Lv.llen L En z20 = Lv.llen L En z31 ∧ BxF.ble F z31) (VC.ok ((Lv.take L En z32 (Lv.llen L En z32), Lv.cast L z9, 0,
   ()) = z5)))))))))))
theorem n62_eq (L : Lv) (F : BxF) (I : List MtD × Unit → Ds [.sl En, It] → Prop) (mu : List MtD × Unit → Ds [.sl En, It] → Nat) (m : McD) : vcC L F [38, 66, 69, 71, 106, 107] (D62 (a62 L I mu)) (S62 F) (m, ()) = n62 L F I mu m := by kernel_rfl
theorem n62_go (L : Lv) (F : BxF) (I : List MtD × Unit → Ds [.sl En, It] → Prop) (mu : List MtD × Unit → Ds [.sl En, It] → Nat) (m : McD) (h : VC.holds (n62 L F I mu m)) : Holds (vcC L F [38, 66, 69, 71, 106, 107] (D62 (a62 L I mu)) (S62 F) (m, ())) := Holds.of_eq (n62_eq L F I mu m) h
def n19 (L : Lv) (F : BxF) (p : WkD)  : VC :=
 let z1 := (Prod.fst p, Prod.fst (Prod.snd p), Prod.snd (Prod.snd p));
 let z2 := (BxF.ends F (z1, false));
 let z3 := Prod.snd z2;
 let z4 := (BxF.ends F (p, false));
 let z5 := Prod.snd z4; VC.obl (BxF.bM F (z1, false)) (VC.ok ((Prod.fst z2, Prod.fst z3, Prod.snd z3, ()) = (Prod.fst z4, Prod.fst z5, Prod.snd z5, ())))
theorem n19_eq (L : Lv) (F : BxF) (p : WkD) : vcC L F [62] (D19 a0) (S19 F) (p, ()) = n19 L F p := by kernel_rfl
theorem n19_go (L : Lv) (F : BxF) (p : WkD) (h : VC.holds (n19 L F p)) : Holds (vcC L F [62] (D19 a0) (S19 F) (p, ())) := Holds.of_eq (n19_eq L F p) h
def n21 (L : Lv) (F : BxF) (p : WkD)  : VC :=
 let z1 := (Prod.fst p, Prod.fst (Prod.snd p), Prod.snd (Prod.snd p));
 let z2 := (BxF.ends F (z1, true));
 let z3 := Prod.snd z2;
 let z4 := (BxF.ends F (p, true));
 let z5 := Prod.snd z4; VC.obl (BxF.bM F (z1, true)) (VC.ok ((Prod.fst z2, Prod.fst z3, Prod.snd z3, ()) = (Prod.fst z4, Prod.fst z5, Prod.snd z5, ())))
theorem n21_eq (L : Lv) (F : BxF) (p : WkD) : vcC L F [62] (D21 a0) (S21 F) (p, ()) = n21 L F p := by kernel_rfl
theorem n21_go (L : Lv) (F : BxF) (p : WkD) (h : VC.holds (n21 L F p)) : Holds (vcC L F [62] (D21 a0) (S21 F) (p, ())) := Holds.of_eq (n21_eq L F p) h
def n24 (L : Lv) (F : BxF) (I : List MtD × Int × Unit → Ds [.sl It, It] → Prop) (mu : List MtD × Int × Unit → Ds [.sl It, It] → Nat) (I1 : List MtD × Unit → Ds [It] → Prop) (m1 : List MtD × Unit → Ds [It] → Nat) (p : WkD) (e : EnD)  : VC :=
 let z1 := Prod.snd p;
 let z2 := (Prod.fst p, Prod.fst z1, Prod.snd z1);
 let z3 := (Prod.fst (BxF.way F p e), Prod.snd (BxF.way F p e), ());
 let z4 := (BxF.all F (z2, false));
 let z5 := Ty.pair (Ty.pair (Ty.sl It) (Ty.sl Th)) Kp;
 let z6 := Prod.fst z4;
 let z7 := Lv.llen L z5 z6;
 let z8 := Lv.cast L z7;
 let z9 := Prod.fst p;
 let z10 := Prod.fst z1;
 let z11 := Prod.snd z1;
 let z12 := Prod.fst e;
 let z13 := Prod.snd e;
 let z14 := Prod.fst z13;
 let z15 := Ty.int IntKind.u8;
 let z16 := Prod.snd z13;
 let z17 := (Prod.fst z4, ());
 let z18 := List Int × Int × Unit;
 let z19 := Int.negSucc 0;
 let z20 := (Prod.fst z4, Int.negSucc 0, ()); VC.obl (BxF.bw F z2) (VC.br (Lv.cmp L BinOp.neq (BxF.check F z2) 0) (VC.ok (([], BxF.check F z2, ()) = z3)) (VC.obl (BxF.okM F (z2,
   false)) (VC.br (Lv.cmp L BinOp.neq (Prod.snd z4) 0) (VC.ok (([], Prod.snd z4, ()) = z3)) (VC.obl (St.mk 19 [(0, V.c (C.sl z5 z6)), (1, V.c (C.fn 68 [3, 2])), (7, V.c (C.int
   IntKind.i64 z8)), (8, V.c (C.int IntKind.i64 0))] [(0, Ob.amb), (1, Ob.box 25 [C.sl It z9, C.sl (Ty.sl In) z10, C.int IntKind.i64 z11]), (2, Ob.box 38 [C.sl It z12, C.sl (Ty.sl
   It) z14, C.sl z15 z16]), (3, Ob.box 103 [C.sl It z9, C.sl (Ty.sl In) z10, C.int IntKind.i64 z11, C.sym false])] 4 = St.mk 19 [(0, V.c (C.sl z5 z6)), (1, V.c (C.fn 68 [3, 2])),
   (7, V.c (C.int IntKind.i64 z8)), (8, V.c (C.int IntKind.i64 0))] [(0, Ob.amb), (1, Ob.box 25 [C.sl It z9, C.sl (Ty.sl In) z10, C.int IntKind.i64 z11]), (2, Ob.box 38 [C.sl It
   z12, C.sl (Ty.sl It) z14, C.sl z15 z16]), (3, Ob.box 103 [C.sl It z9, C.sl (Ty.sl In) z10, C.int IntKind.i64 z11, C.sym false])] 4) (VC.obl (I1 z17 (0, ())) (VC.all (Int × Unit)
   fun (v1 : Int × Unit) =>
 let z21 := Prod.fst v1;
 let z22 := Lv.get L z5 z6 (Lv.toN L z21);
 let z23 := Prod.fst z22;
 let z24 := (Prod.fst z23, Prod.snd z23);
 let z25 := (BxF.endOf F (z2, false) z24);
 let z26 := Prod.snd z25;
 let z27 := (Prod.fst z25, Prod.fst z26, Prod.snd z26);
 let z28 := Prod.fst z23;
 let z29 := Prod.snd z23;
 let z30 := Prod.snd z22;
 let z31 := Prod.fst z30;
 let z32 := Prod.snd z30;
 let z33 := (Prod.fst z4, Prod.fst v1, ());
 let z34 := Lv.ar L BinOp.add IntKind.i64 z21 1;
 let z35 := (Lv.ar L BinOp.add IntKind.i64 z21 1, ()); VC.imp (I1 z17 v1) (VC.br (Lv.cmp L BinOp.lss z21 z8) (VC.obl (Lv.inR L z21 z7) (VC.obl (BxF.pE F z24 (z2, false)) (VC.br
   (BxF.ended F (z2, false) z24) (VC.obl (BxF.pEnd F (z2, false) z24) (VC.obl (BxF.be F z27) (VC.br (Lv.cmp L BinOp.eql (BxF.cmpE F z27 (Prod.fst e, Prod.fst z13, Prod.snd z13)) 0)
   (VC.br (Lv.cmp L BinOp.lss z21 0) (VC.ok (([], 7, ()) = z3)) (VC.obl (St.mk 50 [(8, V.c (C.sl z5 z6)), (10, V.c (C.int IntKind.i64 z21)), (11, V.c (C.own 6 0))] [(0, Ob.amb), (1,
   Ob.box 25 [C.sl It z9, C.sl (Ty.sl In) z10, C.int IntKind.i64 z11]), (2, Ob.box 38 [C.sl It z12, C.sl (Ty.sl It) z14, C.sl z15 z16]), (3, Ob.box 103 [C.sl It z9, C.sl (Ty.sl In)
   z10, C.int IntKind.i64 z11, C.sym false]), (4, Ob.box 114 [C.sl It z28, C.sl Th z29, C.int IntKind.i64 z31, C.int IntKind.i64 z32]), (6, Ob.row 3 It [])] 7 = St.mk 50 [(8, V.c
   (C.sl z5 z6)), (10, V.c (C.int IntKind.i64 z21)), (11, V.c (C.own 6 (Lv.llen L It [])))] [(0, Ob.amb), (1, Ob.box 25 [C.sl It z9, C.sl (Ty.sl In) z10, C.int IntKind.i64 z11]),
   (2, Ob.box 38 [C.sl It z12, C.sl (Ty.sl It) z14, C.sl z15 z16]), (3, Ob.box 103 [C.sl It z9, C.sl (Ty.sl In) z10, C.int IntKind.i64 z11, C.sym false]), (4, Ob.box 114 [C.sl It
   z28, C.sl Th z29, C.int IntKind.i64 z31, C.int IntKind.i64 z32]), (6, Ob.row 3 It [])] 7) (VC.obl (I z33 ([], Prod.fst v1, ())) (VC.all z18 fun (v2 : List Int × Int × Unit) =>
 let z36 := Prod.fst (Prod.snd v2);
 let z37 := Lv.inR L z36 z7;
 let z38 := Prod.fst v2;
 let z39 := Lv.llen L It z38;
 let z40 := Lv.take L It z38 z39;
 let z41 := Prod.snd (Lv.get L z5 z6 (Lv.toN L z36));
 let z42 := Lv.take L It [Prod.snd z41] 1;
 let z43 := Lv.add L (Lv.llen L It z40) (Lv.llen L It z42);
 let z44 := Prod.fst z41;
 let z45 := Lv.app L It z40 z42;
 let z46 := (Lv.app L It z40 z42, Prod.fst z41, ()); VC.imp (I z33 v2) (VC.br (Lv.cmp L BinOp.gtr z36 0) (VC.obl z37 (VC.obl (Lv.room L z43 8) (VC.obl z37 (VC.ok (St.mk 50 [(8, V.c
   (C.sl z5 z6)), (10, V.c (C.int IntKind.i64 z44)), (11, V.c (C.own 6 z43))] [(0, Ob.amb), (1, Ob.box 25 [C.sl It z9, C.sl (Ty.sl In) z10, C.int IntKind.i64 z11]), (2, Ob.box 38
   [C.sl It z12, C.sl (Ty.sl It) z14, C.sl z15 z16]), (3, Ob.box 103 [C.sl It z9, C.sl (Ty.sl In) z10, C.int IntKind.i64 z11, C.sym false]), (4, Ob.box 114 [C.sl It z28, C.sl Th
   z29, C.int IntKind.i64 z31, C.int IntKind.i64 z32]), (6, Ob.row 3 It z45)] 7 = St.mk 50 [(8, V.c (C.sl z5 z6)), (10, V.c (C.int IntKind.i64 z44)), (11, V.c (C.own 6 (Lv.llen L It
   z45)))] [(0, Ob.amb), (1, Ob.box 25 [C.sl It z9, C.sl (Ty.sl In) z10, C.int IntKind.i64 z11]), (2, Ob.box 38 [C.sl It z12, C.sl (Ty.sl It) z14, C.sl z15 z16]), (3, Ob.box 103
   [C.sl It z9, C.sl (Ty.sl In) z10, C.int IntKind.i64 z11, C.sym false]), (4, Ob.box 114 [C.sl It z28, C.sl Th z29, C.int IntKind.i64 z31, C.int IntKind.i64 z32]), (6, Ob.row 3 It
   z45)] 7 ∧ I z33 z46 ∧ mu z33 z46 < mu z33 v2))))) (VC.obl (3 = 3 ∧ Lv.llen L It z38 = Lv.llen L It z38 ∧ BxF.bl F z38) (VC.ok ((Lv.take L It (BxF.rev F z38) z39, 0, ()) =
   z3)))))))) (VC.ok (St.mk 19 [(0, V.c (C.sl z5 z6)), (1, V.c (C.fn 68 [3, 2])), (7, V.c (C.int IntKind.i64 z8)), (8, V.c (C.int IntKind.i64 z34))] [(0, Ob.amb), (1, Ob.box 25
   [C.sl It z9, C.sl (Ty.sl In) z10, C.int IntKind.i64 z11]), (2, Ob.box 38 [C.sl It z12, C.sl (Ty.sl It) z14, C.sl z15 z16]), (3, Ob.box 103 [C.sl It z9, C.sl (Ty.sl In) z10, C.int
   IntKind.i64 z11, C.sym false])] 4 = St.mk 19 [(0, V.c (C.sl z5 z6)), (1, V.c (C.fn 68 [3, 2])), (7, V.c (C.int IntKind.i64 z8)), (8, V.c (C.int IntKind.i64 z34))] [(0, Ob.amb),
   (1, Ob.box 25 [C.sl It z9, C.sl (Ty.sl In) z10, C.int IntKind.i64 z11]), (2, Ob.box 38 [C.sl It z12, C.sl (Ty.sl It) z14, C.sl z15 z16]), (3, Ob.box 103 [C.sl It z9, C.sl (Ty.sl
   In) z10, C.int IntKind.i64 z11, C.sym false])] 4 ∧ I1 z17 z35 ∧ m1 z17 z35 < m1 z17 v1))))) (VC.ok (St.mk 19 [(0, V.c (C.sl z5 z6)), (1, V.c (C.fn 68 [3, 2])), (7, V.c (C.int
   IntKind.i64 z8)), (8, V.c (C.int IntKind.i64 z34))] [(0, Ob.amb), (1, Ob.box 25 [C.sl It z9, C.sl (Ty.sl In) z10, C.int IntKind.i64 z11]), (2, Ob.box 38 [C.sl It z12, C.sl (Ty.sl
   It) z14, C.sl z15 z16]), (3, Ob.box 103 [C.sl It z9, C.sl (Ty.sl In) z10, C.int IntKind.i64 z11, C.sym false])] 4 = St.mk 19 [(0, V.c (C.sl z5 z6)), (1, V.c (C.fn 68 [3, 2])),
   (7, V.c (C.int IntKind.i64 z8)), (8, V.c (C.int IntKind.i64 z34))] [(0, Ob.amb), (1, Ob.box 25 [C.sl It z9, C.sl (Ty.sl In) z10, C.int IntKind.i64 z11]), (2, Ob.box 38 [C.sl It
   z12, C.sl (Ty.sl It) z14, C.sl z15 z16]), (3, Ob.box 103 [C.sl It z9, C.sl (Ty.sl In) z10, C.int IntKind.i64 z11, C.sym false])] 4 ∧ I1 z17 z35 ∧ m1 z17 z35 < m1 z17 v1)))))
   (VC.br (Lv.cmp L BinOp.lss z19 0) (VC.ok (([], 7, ()) = z3)) (VC.obl (St.mk 50 [(8, V.c (C.sl z5 z6)), (10, V.c (C.int IntKind.i64 z19)), (11, V.c (C.own 5 0))] [(0, Ob.amb), (1,
   Ob.box 25 [C.sl It z9, C.sl (Ty.sl In) z10, C.int IntKind.i64 z11]), (2, Ob.box 38 [C.sl It z12, C.sl (Ty.sl It) z14, C.sl z15 z16]), (3, Ob.box 103 [C.sl It z9, C.sl (Ty.sl In)
   z10, C.int IntKind.i64 z11, C.sym false]), (5, Ob.row 3 It [])] 6 = St.mk 50 [(8, V.c (C.sl z5 z6)), (10, V.c (C.int IntKind.i64 z19)), (11, V.c (C.own 5 (Lv.llen L It [])))]
   [(0, Ob.amb), (1, Ob.box 25 [C.sl It z9, C.sl (Ty.sl In) z10, C.int IntKind.i64 z11]), (2, Ob.box 38 [C.sl It z12, C.sl (Ty.sl It) z14, C.sl z15 z16]), (3, Ob.box 103 [C.sl It
   z9, C.sl (Ty.sl In) z10, C.int IntKind.i64 z11, C.sym false]), (5, Ob.row 3 It [])] 6) (VC.obl (I z20 ([], Int.negSucc 0, ())) (VC.all z18 fun (v3 : List Int × Int × Unit) =>
 let z47 := Prod.fst (Prod.snd v3);
 let z48 := Lv.inR L z47 z7;
 let z49 := Prod.fst v3;
 let z50 := Lv.llen L It z49;
 let z51 := Lv.take L It z49 z50;
 let z52 := Prod.snd (Lv.get L z5 z6 (Lv.toN L z47));
 let z53 := Lv.take L It [Prod.snd z52] 1;
 let z54 := Lv.add L (Lv.llen L It z51) (Lv.llen L It z53);
 let z55 := Prod.fst z52;
 let z56 := Lv.app L It z51 z53;
 let z57 := (Lv.app L It z51 z53, Prod.fst z52, ()); VC.imp (I z20 v3) (VC.br (Lv.cmp L BinOp.gtr z47 0) (VC.obl z48 (VC.obl (Lv.room L z54 8) (VC.obl z48 (VC.ok (St.mk 50 [(8, V.c
   (C.sl z5 z6)), (10, V.c (C.int IntKind.i64 z55)), (11, V.c (C.own 5 z54))] [(0, Ob.amb), (1, Ob.box 25 [C.sl It z9, C.sl (Ty.sl In) z10, C.int IntKind.i64 z11]), (2, Ob.box 38
   [C.sl It z12, C.sl (Ty.sl It) z14, C.sl z15 z16]), (3, Ob.box 103 [C.sl It z9, C.sl (Ty.sl In) z10, C.int IntKind.i64 z11, C.sym false]), (5, Ob.row 3 It z56)] 6 = St.mk 50 [(8,
   V.c (C.sl z5 z6)), (10, V.c (C.int IntKind.i64 z55)), (11, V.c (C.own 5 (Lv.llen L It z56)))] [(0, Ob.amb), (1, Ob.box 25 [C.sl It z9, C.sl (Ty.sl In) z10, C.int IntKind.i64
   z11]), (2, Ob.box 38 [C.sl It z12, C.sl (Ty.sl It) z14, C.sl z15 z16]), (3, Ob.box 103 [C.sl It z9, C.sl (Ty.sl In) z10, C.int IntKind.i64 z11, C.sym false]), (5, Ob.row 3 It
   z56)] 6 ∧ I z20 z57 ∧ mu z20 z57 < mu z20 v3))))) (VC.obl (3 = 3 ∧ Lv.llen L It z49 = Lv.llen L It z49 ∧ BxF.bl F z49) (VC.ok ((Lv.take L It (BxF.rev F z49) z50, 0, ()) =
   z3)))))))))))))))
theorem n24_eq (L : Lv) (F : BxF) (I : List MtD × Int × Unit → Ds [.sl It, It] → Prop) (mu : List MtD × Int × Unit → Ds [.sl It, It] → Nat) (I1 : List MtD × Unit → Ds [It] → Prop) (m1 : List MtD × Unit → Ds [It] → Nat) (p : WkD) (e : EnD) : vcO L F (o24 L I1 m1) [38, 66, 67, 68, 69, 70, 71, 72] 4 (D24 (a24 L I mu)) (S24 F) (p, e, ()) = n24 L F I mu I1 m1 p e := by kernel_rfl
theorem n24_go (L : Lv) (F : BxF) (I : List MtD × Int × Unit → Ds [.sl It, It] → Prop) (mu : List MtD × Int × Unit → Ds [.sl It, It] → Nat) (I1 : List MtD × Unit → Ds [It] → Prop) (m1 : List MtD × Unit → Ds [It] → Nat) (p : WkD) (e : EnD) (h : VC.holds (n24 L F I mu I1 m1 p e)) : Holds (vcO L F (o24 L I1 m1) [38, 66, 67, 68, 69, 70, 71, 72] 4 (D24 (a24 L I mu)) (S24 F) (p, e, ())) := Holds.of_eq (n24_eq L F I mu I1 m1 p e) h
theorem ok62 (F : BxF) (h : F.ends = endsG F.sort F.comp) (h1 : F.ended = endedF) (h2 : F.endOf = endOfF) (h4 : F.all = allF) (h5 : F.check = checkF) (hs : ∀ l, (F.sort l).Perm l) (hp : F.bM = fun m => bW m.1) (q : F.bw = bW) (q1 : F.okM = fun m => OkP m.1) (q2 : F.pE = pEF) (q3 : F.pEnd = fun m s => bS s ∧ s.2.length ≤ m.1.2.1.length) (q4 : F.ble = fun l => l.length ≤ 1000000 ∧ ∀ e ∈ l, sEn e) (k1 : SpecOk prog 38 (S22 F)) (k2 : SpecOk prog 66 (S66 F)) (k3 : SpecOk prog 69 (S69 F)) (k4 : SpecOk prog 71 (S71 F)) (k5 : XOk prog 106 (R106 F).u) (k6 : XOk prog 107 (R107 F).x) : SpecOk prog 62 (S62 F) := by
  refine contract_by hm hE D62 fnok62 _ fun (z : McD × Unit) hpre => ?_
  obtain ⟨⟨p, b⟩, ⟨⟩⟩ := z
  have hpre' : F.bM (p, b) := hpre
  rw [hp] at hpre'
  have g : bW p := hpre'
  let I : List MtD × Unit → List EnD × Int × Unit → Prop := fun e x => (0 ≤ x.2.1 ∧ x.2.1 ≤ e.1.length) ∧ x.1 = endsOf (p, b) (e.1.take x.2.1.toNat)
  let mu : List MtD × Unit → List EnD × Int × Unit → Nat := fun e x => (e.1.length - x.2.1).toNat
  refine pack _ 3 (a62 Lv.std I mu) (only_tab (T := cT F) (l := [38, 66, 69, 71, 106, 107]) (tb_cons (tb_sp k1 (by kernel_rfl)) (tb_cons (tb_sp k2 (by kernel_rfl)) (tb_cons (tb_sp k3 (by kernel_rfl)) (tb_cons (tb_sp k4 (by kernel_rfl)) (tb_cons (tb_x k5 (by kernel_rfl)) (tb_cons (tb_x k6 (by kernel_rfl)) tb_nil))))))) ?_
  refine n62_go Lv.std F I mu (p, b) ?_
  have e1 : ∀ (l : List MtD) (k : Int), Lv.std.get Mt l k.toNat = (l[k.toNat]?).getD (([], []), 0, 0) := fun _ _ => rfl
  simp only [n62, VC.holds, std_cmp, std_scmp, std_ar_add, std_ar_sub, std_ar_mul, std_ar, std_dv, std_shf, std_conv, std_mn, std_mx, std_beq, std_bnot, std_band, std_scat, std_byte, std_ext, std_slen, std_strOf, std_bytes, std_llen, std_get, std_setl, std_app, std_take, std_drop, std_rep, std_mhas, std_mval, std_mput, std_cast, std_toN, std_sub, std_add, std_inR, std_le3, std_leN, std_ltN, std_ne0, std_nonneg, std_catOk, std_room, std_mkOk, std_nth, std_cnt, cmp_lss_t, cmp_lss_f, cmp_leq_t, cmp_leq_f, cmp_gtr_t, cmp_gtr_f, cmp_geq_t, cmp_geq_f, cmp_eql_t, cmp_eql_f, cmp_neq_t, cmp_neq_f, scmp_eql_t, scmp_eql_f, scmp_neq_t, scmp_neq_f, dflt_int, dflt_bool, dflt_str, dflt_sl, dflt_pair, e1, h1, h2, h4, h5, q, q1, q2, q3, pe5, List.take_length, List.take_succ_cons, List.take_zero, List.length_append, List.length_cons, List.length_nil, Nat.zero_add, Prod.mk.injEq, and_true, true_and]
  have hz : F.ends (p, b) = endsG F.sort F.comp (p, b) := by rw [h]
  refine ⟨g, fun hc => ?_, fun hc => ?_⟩
  · rw [hz, endsG, if_pos hc]; exact ⟨rfl, rfl, rfl⟩
  have hP : OkP p := (okP_iff p).1 hc
  refine ⟨hP, fun hA => ?_, fun hA => ?_⟩
  · rw [hz, endsG, if_neg (by rw [show checkF ((p, b) : McD).1 = 0 from hc]; simp), if_pos hA]; exact ⟨rfl, rfl, rfl⟩
  rw [hz, endsG, if_neg (by rw [show checkF ((p, b) : McD).1 = 0 from hc]; simp), if_neg (by rw [hA]; simp)]
  have M := all_ok hP hA
  generalize (allF (p, b)).1 = l at *
  have hlen := M.len
  refine ⟨⟨⟨Int.le_refl 0, by show (0 : Int) ≤ l.length; omega⟩, rfl⟩, ?_⟩
  rintro ⟨o, x, ⟨⟩⟩ ⟨⟨i1, i2⟩, i3⟩
  simp only at i1 i2 i3 ⊢
  obtain ⟨n, rfl⟩ := nat_of i1
  rw [Int.toNat_natCast] at i3
  simp only [Int.toNat_natCast]
  have hol := endsOf_len (p, b) l n
  rw [← i3] at hol
  refine ⟨fun hlt => ?_, fun hge => ?_⟩
  · have hn : n < l.length := by omega
    have hst := endsOf_succ (p, b) l n hn
    have os := M.ok _ (List.getElem_mem hn)
    rw [List.getElem?_eq_getElem hn, Option.getD_some, wr hlt (by omega)]
    have mul : ∀ u, mu (l, ()) (u, ((n + 1 : Nat) : Int), ()) < mu (l, ()) (o, (n : Int), ()) := fun u => by show ((l.length : Int) - ((n + 1 : Nat) : Int)).toNat < ((l.length : Int) - (n : Int)).toNat; omega
    have hj0 : (0 : Int) ≤ ((n + 1 : Nat) : Int) := by omega
    have hj1 : ((n + 1 : Nat) : Int) ≤ (l.length : Int) := by omega
    refine ⟨⟨i1, hlt⟩, ok_pE hP os, fun he => ⟨⟨ok_bS hP os, by have := os.tl; omega⟩, ⟨by omega, by omega⟩, ⟨⟨hj0, hj1⟩, ?_⟩, mul _⟩, fun he => ⟨⟨⟨hj0, hj1⟩, ?_⟩, mul _⟩⟩
    · show o ++ _ = endsOf (p, b) (l.take ((n + 1 : Nat) : Int).toNat)
      rw [Int.toNat_natCast, hst, if_pos he, i3]
    · show o = endsOf (p, b) (l.take ((n + 1 : Nat) : Int).toNat)
      rw [Int.toNat_natCast, hst, if_neg (by rw [he]; simp), List.append_nil, i3]
  · rw [show n = l.length by omega, List.take_length] at i3
    have hb : F.ble o := by
      rw [q4]
      refine ⟨by omega, fun e he => ?_⟩
      rw [i3] at he
      obtain ⟨x, hx, rfl⟩ := List.mem_map.1 he
      exact ok_sEn hP (M.ok _ (List.mem_filter.1 hx).1)
    have hb2 : F.ble (F.sort o) := by
      rw [q4] at hb ⊢
      exact ⟨by rw [(hs o).length_eq]; exact hb.1, fun e he => hb.2 e ((hs o).mem_iff.1 he)⟩
    rw [← i3]
    refine ⟨hb, ⟨(hs o).length_eq.symm, hb2⟩, ?_⟩
    repeat' (first | exact rfl | trivial | constructor)
theorem ok19 (F : BxF) (hp : F.bM = fun m => bW m.1) (q : F.bw = bW) (k1 : SpecOk prog 62 (S62 F)) : SpecOk prog 19 (S19 F) := by
  refine contract_by hm hE D19 fnok19 _ fun (z : WkD × Unit) hpre => ?_
  obtain ⟨p, ⟨⟩⟩ := z
  have hpre' : F.bw p := hpre
  rw [q] at hpre'
  refine pack _ 3 a0 (only_tab (T := cT F) (l := [62]) (tb_cons (tb_sp k1 (by kernel_rfl)) tb_nil)) ?_
  refine n19_go Lv.std F p ?_
  simp only [n19, VC.holds, std_cmp, std_scmp, std_ar_add, std_ar_sub, std_ar_mul, std_ar, std_dv, std_shf, std_conv, std_mn, std_mx, std_beq, std_bnot, std_band, std_scat, std_byte, std_ext, std_slen, std_strOf, std_bytes, std_llen, std_get, std_setl, std_app, std_take, std_drop, std_rep, std_mhas, std_mval, std_mput, std_cast, std_toN, std_sub, std_add, std_inR, std_le3, std_leN, std_ltN, std_ne0, std_nonneg, std_catOk, std_room, std_mkOk, std_nth, std_cnt, cmp_lss_t, cmp_lss_f, cmp_leq_t, cmp_leq_f, cmp_gtr_t, cmp_gtr_f, cmp_geq_t, cmp_geq_f, cmp_eql_t, cmp_eql_f, cmp_neq_t, cmp_neq_f, scmp_eql_t, scmp_eql_f, scmp_neq_t, scmp_neq_f, dflt_int, dflt_bool, dflt_str, dflt_sl, dflt_pair, Prod.mk.injEq, and_true, true_and]
  rw [hp]; exact hpre'
theorem ok21 (F : BxF) (hp : F.bM = fun m => bW m.1) (q : F.bw = bW) (k1 : SpecOk prog 62 (S62 F)) : SpecOk prog 21 (S21 F) := by
  refine contract_by hm hE D21 fnok21 _ fun (z : WkD × Unit) hpre => ?_
  obtain ⟨p, ⟨⟩⟩ := z
  have hpre' : F.bw p := hpre
  rw [q] at hpre'
  refine pack _ 3 a0 (only_tab (T := cT F) (l := [62]) (tb_cons (tb_sp k1 (by kernel_rfl)) tb_nil)) ?_
  refine n21_go Lv.std F p ?_
  simp only [n21, VC.holds, std_cmp, std_scmp, std_ar_add, std_ar_sub, std_ar_mul, std_ar, std_dv, std_shf, std_conv, std_mn, std_mx, std_beq, std_bnot, std_band, std_scat, std_byte, std_ext, std_slen, std_strOf, std_bytes, std_llen, std_get, std_setl, std_app, std_take, std_drop, std_rep, std_mhas, std_mval, std_mput, std_cast, std_toN, std_sub, std_add, std_inR, std_le3, std_leN, std_ltN, std_ne0, std_nonneg, std_catOk, std_room, std_mkOk, std_nth, std_cnt, cmp_lss_t, cmp_lss_f, cmp_leq_t, cmp_leq_f, cmp_gtr_t, cmp_gtr_f, cmp_geq_t, cmp_geq_f, cmp_eql_t, cmp_eql_f, cmp_neq_t, cmp_neq_f, scmp_eql_t, scmp_eql_f, scmp_neq_t, scmp_neq_f, dflt_int, dflt_bool, dflt_str, dflt_sl, dflt_pair, Prod.mk.injEq, and_true, true_and]
  rw [hp]; exact hpre'
theorem ok24 (F : BxF) (h : F.way = wayG) (h1 : F.ended = endedF) (h2 : F.endOf = endOfF) (h3 : F.cmpE = cmpEF) (h4 : F.all = allF) (h5 : F.check = checkF) (h6 : F.rev = List.reverse) (hp : F.pWay = fun p _ => bW p) (q : F.bw = bW) (q1 : F.okM = fun m => OkP m.1) (q2 : F.pE = pEF) (q3 : F.pEnd = fun m s => bS s ∧ s.2.length ≤ m.1.2.1.length) (q4 : F.be = sEn) (q5 : F.bl = bL) (k1 : SpecOk prog 38 (S22 F)) (k2 : SpecOk prog 66 (S66 F)) (k3 : SpecOk prog 69 (S69 F)) (k4 : SpecOk prog 71 (S71 F)) (k5 : SpecOk prog 70 (S70 F)) (k6 : XOk prog 72 (R72 F).u) : SpecOk prog 24 (S24 F) := by
  refine contract_by hm hE D24 fnok24 _ fun (z : WkD × EnD × Unit) hpre => ?_
  obtain ⟨p, e, ⟨⟩⟩ := z
  have hpre' : F.pWay p e := hpre
  rw [hp] at hpre'
  have g : bW p := hpre'
  let I : List MtD × Int × Unit → List Int × Int × Unit → Prop := fun e x => (0 ≤ x.2.1 ∧ x.2.1 < e.1.length) ∧ (x.1.length : Int) + x.2.1 ≤ e.2.1 ∧ x.1 ++ picksN e.1 (20001 - x.1.length) x.2.1.toNat = picksN e.1 20001 e.2.1.toNat
  let mu : List MtD × Int × Unit → List Int × Int × Unit → Nat := fun e x => x.2.1.toNat
  let I1 : List MtD × Unit → Int × Unit → Prop := fun l => Iv l.1.length fun k => ∀ j (hj : j < l.1.length), j < k → hitF (p, false) e l.1[j] = false
  let m1 : List MtD × Unit → Int × Unit → Nat := fun l => Mu l.1.length
  refine pack _ 4 (a24 Lv.std I mu) (only_tab (T := tabO (o24 Lv.std I1 m1) (cT F)) (l := [38, 66, 67, 68, 69, 70, 71, 72]) (tb_cons (tb_sp k1 (by kernel_rfl)) (tb_cons (tb_sp k2 (by kernel_rfl)) (tb_cons (tb_d (fnok67 (a67 Lv.std I1 m1)) (by kernel_rfl)) (tb_cons (tb_d (fnok68 a0) (by kernel_rfl)) (tb_cons (tb_sp k3 (by kernel_rfl)) (tb_cons (tb_sp k5 (by kernel_rfl)) (tb_cons (tb_sp k4 (by kernel_rfl)) (tb_cons (tb_x k6 (by kernel_rfl)) tb_nil))))))))) ?_
  refine n24_go Lv.std F I mu I1 m1 p e ?_
  have e1 : ∀ (l : List MtD) (k : Int), Lv.std.get Mt l k.toNat = (l[k.toNat]?).getD (([], []), 0, 0) := fun _ _ => rfl
  simp only [n24, VC.holds, std_cmp, std_scmp, std_ar_add, std_ar_sub, std_ar_mul, std_ar, std_dv, std_shf, std_conv, std_mn, std_mx, std_beq, std_bnot, std_band, std_scat, std_byte, std_ext, std_slen, std_strOf, std_bytes, std_llen, std_get, std_setl, std_app, std_take, std_drop, std_rep, std_mhas, std_mval, std_mput, std_cast, std_toN, std_sub, std_add, std_inR, std_le3, std_leN, std_ltN, std_ne0, std_nonneg, std_catOk, std_room, std_mkOk, std_nth, std_cnt, cmp_lss_t, cmp_lss_f, cmp_leq_t, cmp_leq_f, cmp_gtr_t, cmp_gtr_f, cmp_geq_t, cmp_geq_f, cmp_eql_t, cmp_eql_f, cmp_neq_t, cmp_neq_f, scmp_eql_t, scmp_eql_f, scmp_neq_t, scmp_neq_f, dflt_int, dflt_bool, dflt_str, dflt_sl, dflt_pair, e1, h1, h2, h3, h4, h5, h6, q, q1, q2, q3, q4, q5, pe5, List.take_length, List.take_succ_cons, List.take_zero, List.length_append, List.length_cons, List.length_nil, Nat.zero_add, Prod.mk.injEq, and_true, true_and]
  have hz : F.way p e = wayG p e := by rw [h]
  refine ⟨g, fun hc => ?_, fun hc => ?_⟩
  · rw [hz, wayG, if_pos hc]; exact ⟨rfl, rfl⟩
  have hP : OkP p := (okP_iff p).1 hc
  refine ⟨hP, fun hA => ?_, fun hA => ?_⟩
  · rw [hz, wayG, if_neg (by rw [hc]; simp), if_pos hA]; exact ⟨rfl, rfl⟩
  rw [hz, wayG, if_neg (by rw [hc]; simp), if_neg (by rw [hA]; simp)]
  have M := all_ok hP hA
  generalize (allF (p, false)).1 = l at *
  have hlen := M.len
  refine ⟨Iv.zero (fun j hj h0 => by omega), fun x hx => ?_⟩
  obtain ⟨n, rfl, i1, i2⟩ := Iv.elim hx
  simp only at i1 i2 ⊢
  simp only [Int.toNat_natCast]
  refine ⟨fun hlt => ?_, fun hge => ?_⟩
  · have hn : n < l.length := by omega
    have os := M.ok _ (List.getElem_mem hn)
    rw [List.getElem?_eq_getElem hn, Option.getD_some, wr hlt (by omega)]
    have nxt : hitF (p, false) e l[n] = false → I1 (l, ()) (((n + 1 : Nat) : Int), ()) ∧ m1 (l, ()) (((n + 1 : Nat) : Int), ()) < m1 (l, ()) ((n : Int), ()) := fun hh => ⟨Iv.mk (by show n + 1 ≤ l.length; omega) (fun j hj h0 => by
      by_cases hjn : j = n
      · subst hjn; exact hh
      · exact i2 j hj (by omega)), Mu.lt hn⟩
    refine ⟨⟨by omega, hlt⟩, ok_pE hP os, fun he => ⟨⟨ok_bS hP os, by have := os.tl; omega⟩, ok_sEn hP os, fun hc => ⟨fun h0 => by omega, fun _ => ?_⟩, fun hc => ?_⟩, fun he => ?_⟩
    · have hit : hitF (p, false) e l[n] = true := by unfold hitF; rw [he]; simpa using hc
      have hf : l.findIdx? (hitF (p, false) e) = some n := by
        rw [List.findIdx?_eq_some_iff_getElem]
        exact ⟨hn, hit, fun j hj => by rw [i2 j (by omega) hj]; simp⟩
      rw [hf]
      refine ⟨⟨⟨by show (0 : Int) ≤ n; omega, hlt⟩, by show ((([] : List Int).length : Nat) : Int) + (n : Int) ≤ n; simp, rfl⟩, ?_⟩
      rintro ⟨o, x, ⟨⟩⟩ ⟨⟨j1, j2⟩, j3, j4⟩
      simp only at j1 j2 j3 j4 ⊢
      obtain ⟨j, rfl⟩ := nat_of j1
      have hj : j < l.length := by omega
      rw [Int.toNat_natCast, Int.toNat_natCast] at j4
      simp only [Int.toNat_natCast, List.getElem?_eq_getElem hj, Option.getD_some]
      refine ⟨fun hpos => ?_, fun hz0 => ?_⟩
      · have hb := M.back j hj (by omega)
        refine ⟨⟨j1, j2⟩, ⟨by omega, by omega⟩, ⟨j1, j2⟩, ⟨⟨hb.1, by show l[j].2.1 < (l.length : Int); omega⟩, ?_, ?_⟩, ?_⟩
        · show (((o ++ [l[j].2.2]).length : Nat) : Int) + l[j].2.1 ≤ n
          simp only [List.length_append, List.length_cons, List.length_nil]
          omega
        · show (o ++ [l[j].2.2]) ++ picksN l (20001 - (o ++ [l[j].2.2]).length) l[j].2.1.toNat = picksN l 20001 (n : Int).toNat
          rw [Int.toNat_natCast, ← j4]
          obtain ⟨f, hf⟩ : ∃ f, 20001 - o.length = f + 1 := ⟨20001 - o.length - 1, by omega⟩
          rw [hf, picksN, if_neg (by omega), List.getElem?_eq_getElem hj, List.append_assoc]
          simp only [List.length_append, List.length_cons, List.length_nil, List.cons_append, List.nil_append]
          rw [show 20001 - (o.length + (0 + 1)) = f by omega]
        · show l[j].2.1.toNat < (j : Int).toNat
          omega
      · have hj0 : j = 0 := by omega
        subst hj0
        obtain ⟨f, hf⟩ : ∃ f, 20001 - o.length = f + 1 := ⟨20001 - o.length - 1, by omega⟩
        rw [hf, picksN, if_pos rfl, List.append_nil] at j4
        rw [← j4]
        refine ⟨by show o.length ≤ 1000000; omega, ?_, trivial⟩
        rw [List.take_of_length_le (by simp)]
    · exact nxt (by unfold hitF; rw [he]; simpa using hc)
    · exact nxt (by unfold hitF; rw [he]; rfl)
  · have hf : l.findIdx? (hitF (p, false) e) = none := by
      rw [List.findIdx?_eq_none_iff]
      intro x hx
      obtain ⟨j, hj, rfl⟩ := List.getElem_of_mem hx
      exact i2 j hj (by omega)
    rw [hf]
    refine ⟨fun _ => ⟨rfl, rfl⟩, fun h0 => absurd h0 (by decide)⟩
end Go.Proofs.Tryz
set_option autoImplicit false
set_option linter.all false
namespace Go.Proofs.Tryz
open Go Go.VM
set_option maxRecDepth 100000
def a72 (L : Lv) (I : List Int × Unit → Ds [.sl It, It, It] → Prop) (mu : List Int × Unit → Ds [.sl It, It, It] → Nat) : Nat → LAnn
  | 0 => anE L [0, 2, 3] [] [.h (.ri 0 It)] [.ri 0 It, .s 2 It, .s 3 It] I mu
  | _ => .no
def n72 (L : Lv) (F : BxF) (I : List Int × Unit → Ds [.sl It, It, It] → Prop) (mu : List Int × Unit → Ds [.sl It, It, It] → Nat) (a : List Int)  : VC :=
 let z1 := Lv.llen L It a;
 let z2 := Lv.cast L z1;
 let z3 := Lv.ar L BinOp.sub IntKind.i64 z2 1; VC.obl (St.mk 28 [(0, V.c (C.own 1 z1)), (2, V.c (C.int IntKind.i64 0)), (3, V.c (C.int IntKind.i64 z3))] [(0, Ob.amb), (1, Ob.row 3
   It a)] 2 = St.mk 28 [(0, V.c (C.own 1 z1)), (2, V.c (C.int IntKind.i64 0)), (3, V.c (C.int IntKind.i64 z3))] [(0, Ob.amb), (1, Ob.row 3 It a)] 2) (VC.obl (I (a, ()) (a, 0, Lv.ar
   L BinOp.sub IntKind.i64 z2 1, ())) (VC.all (List Int × Int × Int × Unit) fun (v1 : List Int × Int × Int × Unit) =>
 let z4 := Prod.fst (Prod.snd v1);
 let z5 := Prod.fst (Prod.snd (Prod.snd v1));
 let z6 := Lv.inR L z5 z1;
 let z7 := Lv.toN L z5;
 let z8 := Prod.fst v1;
 let z9 := Lv.llen L It z8;
 let z10 := Lv.inR L z4 z1;
 let z11 := Lv.toN L z4;
 let z12 := Lv.ltN L z11 z9;
 let z13 := Lv.setl L It z8 z11 (Lv.get L It z8 z7);
 let z14 := Lv.ar L BinOp.add IntKind.i64 z4 1;
 let z15 := Lv.ar L BinOp.sub IntKind.i64 z5 1;
 let z16 := Lv.get L It z8 z11;
 let z17 := Lv.setl L It z13 z7 z16;
 let z18 := (Lv.setl L It z13 z7 z16, Lv.ar L BinOp.add IntKind.i64 z4 1, Lv.ar L BinOp.sub IntKind.i64 z5 1, ()); VC.imp (I (a, ()) v1) (VC.br (Lv.cmp L BinOp.lss z4 z5) (VC.obl z6
   (VC.obl (Lv.ltN L z7 z9) (VC.obl z10 (VC.obl z12 (VC.obl z10 (VC.obl z12 (VC.obl z6 (VC.obl (Lv.ltN L z7 (Lv.llen L It z13)) (VC.ok (St.mk 28 [(0, V.c (C.own 1 z1)), (2, V.c
   (C.int IntKind.i64 z14)), (3, V.c (C.int IntKind.i64 z15))] [(0, Ob.amb), (1, Ob.row 3 It z17)] 2 = St.mk 28 [(0, V.c (C.own 1 z1)), (2, V.c (C.int IntKind.i64 z14)), (3, V.c
   (C.int IntKind.i64 z15))] [(0, Ob.amb), (1, Ob.row 3 It z17)] 2 ∧ I (a, ()) z18 ∧ mu (a, ()) z18 < mu (a, ()) v1)))))))))) (VC.ok (3 = 3 ∧ Prod.fst v1 = BxF.rev F a)))))
theorem n72_eq (L : Lv) (F : BxF) (I : List Int × Unit → Ds [.sl It, It, It] → Prop) (mu : List Int × Unit → Ds [.sl It, It, It] → Nat) (a : List Int) : vcU L F [] [] (D72 (a72 L I mu)) (R72 F) a () = n72 L F I mu a := by kernel_rfl
theorem n72_go (L : Lv) (F : BxF) (I : List Int × Unit → Ds [.sl It, It, It] → Prop) (mu : List Int × Unit → Ds [.sl It, It, It] → Nat) (a : List Int) (h : VC.holds (n72 L F I mu a)) : Holds (vcU L F [] [] (D72 (a72 L I mu)) (R72 F) a ()) := Holds.of_eq (n72_eq L F I mu a) h
theorem ok72 (F : BxF) (h : F.rev = List.reverse) (hp : F.bl = bL) : XOk prog 72 (R72 F).u := by
  let I : List Int × Unit → List Int × Int × Int × Unit → Prop := fun e x => 0 ≤ x.2.1 ∧ x.2.1 ≤ e.1.length ∧ x.2.2.1 = e.1.length - 1 - x.2.1 ∧ x.1.length = e.1.length ∧
    ∀ k : Nat, k < e.1.length → x.1[k]? = if (k : Int) < x.2.1 ∨ (e.1.length : Int) - 1 - k < x.2.1 then e.1[e.1.length - 1 - k]? else e.1[k]?
  let mu : List Int × Unit → List Int × Int × Int × Unit → Nat := fun e x => (e.1.length - x.2.1).toNat
  refine updX_ok hm hE 4 (fns := only (tabO [] (cT F)) []) (only_tab tb_nil) (fnok72 (a72 Lv.std I mu)) (R72 F) fun (a : List Int) (z : Unit) hpre => ?_
  have hpre' : F.bl a := hpre
  rw [hp] at hpre'
  have g : a.length ≤ 1000000 := hpre'
  refine n72_go Lv.std F I mu a ?_
  simp only [n72, VC.holds, std_cmp, std_cast, std_llen, std_toN, std_get, std_setl, dflt_int, std_inR, std_ltN, std_ar_add, std_ar_sub, cmp_lss_t, cmp_lss_f, h, List.length_set, Prod.mk.injEq, and_true, true_and]
  have ew : IntKind.i64.wrap ((a.length : Int) - 1) = (a.length : Int) - 1 := wrap_i64 (by omega) (by omega)
  rw [ew]
  refine ⟨⟨Int.le_refl 0, by show (0 : Int) ≤ a.length; omega, by show (a.length : Int) - 1 = a.length - 1 - 0; omega, rfl, fun k hk => ?_⟩, ?_⟩
  · have hk : k < a.length := hk
    show a[k]? = if (k : Int) < 0 ∨ (a.length : Int) - 1 - k < 0 then _ else _
    rw [if_neg (by omega)]
  · rintro ⟨l, i, j, ⟨⟩⟩ ⟨i1, i2, i3, i4, i5⟩
    simp only at i1 i2 i3 i4 i5 ⊢
    obtain ⟨n, rfl⟩ := nat_of i1
    refine ⟨fun hlt => ?_, fun hge => ?_⟩
    · obtain ⟨m, rfl⟩ := nat_of (x := j) (by omega)
      have hn : n < a.length := by omega
      have hm : m < a.length := by omega
      have e1 : IntKind.i64.wrap ((n : Int) + 1) = (n : Int) + 1 := wrap_i64 (by omega) (by omega)
      have e2 : IntKind.i64.wrap ((m : Int) - 1) = (m : Int) - 1 := wrap_i64 (by omega) (by omega)
      rw [e1, e2, Int.toNat_natCast, Int.toNat_natCast, i4]
      refine ⟨⟨by omega, by omega⟩, hm, ⟨i1, by omega⟩, hn, ⟨i1, by omega⟩, hn, ⟨by omega, by omega⟩, hm, ⟨by show (0 : Int) ≤ (n : Int) + 1; omega, by show (n : Int) + 1 ≤ a.length; omega, by show (m : Int) - 1 = (a.length : Int) - 1 - ((n : Int) + 1); omega, by show (List.set _ _ _).length = _; rw [List.length_set, List.length_set]; exact i4, fun k hk => ?_⟩, by show ((a.length : Int) - ((n : Int) + 1)).toNat < ((a.length : Int) - (n : Int)).toNat; omega⟩
      show ((l.set n ((l[m]?).getD 0)).set m ((l[n]?).getD 0))[k]? = if (k : Int) < (n : Int) + 1 ∨ (a.length : Int) - 1 - k < (n : Int) + 1 then a[a.length - 1 - k]? else a[k]?
      have hk : k < a.length := hk
      have h5 := i5 k hk
      have hln := i5 n hn
      have hlm := i5 m hm
      rw [if_neg (by omega)] at hln hlm
      by_cases hkm : k = m
      · subst hkm
        rw [List.getElem?_set_self (by rw [List.length_set, i4]; exact hm), if_pos (by omega), show a.length - 1 - k = n by omega, hln, List.getElem?_eq_getElem hn]; rfl
      · rw [List.getElem?_set_ne (fun e => hkm e.symm)]
        by_cases hkn : k = n
        · subst hkn
          rw [List.getElem?_set_self (by rw [i4]; exact hn), if_pos (by omega), show a.length - 1 - k = m by omega, hlm, List.getElem?_eq_getElem hm]; rfl
        · rw [List.getElem?_set_ne (fun e => hkn e.symm), h5]
          by_cases hc : (k : Int) < n ∨ (a.length : Int) - 1 - k < n
          · rw [if_pos hc, if_pos (by omega)]
          · rw [if_neg hc, if_neg (by omega)]
    · refine List.ext_getElem? fun k => ?_
      by_cases hk : k < a.length
      · rw [i5 k hk, List.getElem?_reverse hk]
        by_cases hc : (k : Int) < n ∨ (a.length : Int) - 1 - k < n
        · rw [if_pos hc]
        · rw [if_neg hc, show a.length - 1 - k = k by omega]
      · rw [List.getElem?_eq_none (by omega), List.getElem?_eq_none (by rw [List.length_reverse]; omega)]
end Go.Proofs.Tryz
