/- What functions of the weak memory compute, proved through the condition generator, and plain facts of it. Conditions: none of ours. -/
import Derived.Test.YthfjgaifdadgnaaGreatK13
import Derived.Test.YthfjgaifdadgnaaGreatK12
set_option autoImplicit false
set_option linter.all false
namespace Go.Proofs.Tryz
open Go Go.VM
set_option maxRecDepth 100000
def aIx (L : Lv) (e : Ty) (I : Int × List e.D × Unit → Ds [It] → Prop) (mu : Int × List e.D × Unit → Ds [It] → Nat) : Nat → LAnn
  | 0 => anE L [0, 1, 7, 8] [] [.fn 1, .h (.s 0 (.sl e))] [.s 8 It] I mu
  | _ => .no
noncomputable def o87 (L : Lv) (I : Int × List Int × Unit → Ds [It] → Prop) (mu : Int × List Int × Unit → Ds [It] → Nat) : List (Nat × FT) := [(96, .inl (D96 a0)), (125, .inl (D125 (aIx L It I mu))), (122, .inl (D122 a0))]
noncomputable def o38 (L : Lv) (I1 : Int × List InD × Unit → Ds [It] → Prop) (mu1 : Int × List InD × Unit → Ds [It] → Nat) (I2 : Int × List (List InD) × Unit → Ds [It] → Prop) (mu2 : Int × List (List InD) × Unit → Ds [It] → Nat) : List (Nat × FT) :=
  [(80, .inl (D80 a0)), (81, .inl (D81 a0)), (82, .inl (D82 a0)), (83, .inl (D83 a0)), (85, .inl (D85 a0)), (119, .inl (D119 (aIx L In I1 mu1))), (121, .inl (D121 (aIx L (.sl In) I2 mu2)))]
def n87 (L : Lv) (F : BxF) (I : Int × List Int × Unit → Ds [It] → Prop) (mu : Int × List Int × Unit → Ds [It] → Nat) (l : List Int)  : VC :=
 let z1 := Lv.cast L (Lv.llen L It l);
 let z2 := (BxF.nums F l, ()); VC.obl (St.mk 19 [(0, V.c (C.sl It l)), (1, V.c (C.fn 122 [])), (7, V.c (C.int IntKind.i64 z1)), (8, V.c (C.int IntKind.i64 0))] [(0, Ob.amb)] 1 =
   St.mk 19 [(0, V.c (C.sl It l)), (1, V.c (C.fn 122 [])), (7, V.c (C.int IntKind.i64 z1)), (8, V.c (C.int IntKind.i64 0))] [(0, Ob.amb)] 1) (VC.obl (I (122, l, ()) (0, ())) (VC.all
   (Int × Unit) fun (v1 : Int × Unit) =>
 let z3 := Prod.fst v1;
 let z4 := Lv.ar L BinOp.add IntKind.i64 z3 1;
 let z5 := (Lv.ar L BinOp.add IntKind.i64 z3 1, ()); VC.imp (I (122, l, ()) v1) (VC.br (Lv.cmp L BinOp.lss z3 z1) (VC.obl (Lv.inR L z3 (Lv.llen L It l)) (VC.obl True (VC.br
   (BxF.isNum F (Lv.get L It l (Lv.toN L z3))) (VC.ok (St.mk 19 [(0, V.c (C.sl It l)), (1, V.c (C.fn 122 [])), (7, V.c (C.int IntKind.i64 z1)), (8, V.c (C.int IntKind.i64 z4))] [(0,
   Ob.amb)] 1 = St.mk 19 [(0, V.c (C.sl It l)), (1, V.c (C.fn 122 [])), (7, V.c (C.int IntKind.i64 z1)), (8, V.c (C.int IntKind.i64 z4))] [(0, Ob.amb)] 1 ∧ I (122, l, ()) z5 ∧ mu
   (122, l, ()) z5 < mu (122, l, ()) v1)) (VC.br (Lv.cmp L BinOp.geq z3 0) (VC.ok ((false, ()) = z2)) (VC.ok ((true, ()) = z2)))))) (VC.br (Lv.cmp L BinOp.geq (Int.negSucc 0) 0)
   (VC.ok ((false, ()) = z2)) (VC.ok ((true, ()) = z2))))))
theorem n87_eq (L : Lv) (F : BxF) (I : Int × List Int × Unit → Ds [It] → Prop) (mu : Int × List Int × Unit → Ds [It] → Nat) (l : List Int) : vcO L F (o87 L I mu) [92, 96, 122, 125] 5 (D87 a0) (S87 F) (l, ()) = n87 L F I mu l := by kernel_rfl
theorem n87_go (L : Lv) (F : BxF) (I : Int × List Int × Unit → Ds [It] → Prop) (mu : Int × List Int × Unit → Ds [It] → Nat) (l : List Int) (h : VC.holds (n87 L F I mu l)) : Holds (vcO L F (o87 L I mu) [92, 96, 122, 125] 5 (D87 a0) (S87 F) (l, ())) := Holds.of_eq (n87_eq L F I mu l) h
def n38 (L : Lv) (F : BxF) (I1 : Int × List InD × Unit → Ds [It] → Prop) (mu1 : Int × List InD × Unit → Ds [It] → Nat) (I2 : Int × List (List InD) × Unit → Ds [It] → Prop) (mu2 : Int × List (List InD) × Unit → Ds [It] → Nat) (p : WkD)  : VC :=
 let z1 := Prod.fst p;
 let z2 := Lv.cast L (Lv.llen L It z1);
 let z3 := (BxF.check F p, ());
 let z4 := Prod.snd p;
 let z5 := Prod.fst z4;
 let z6 := Lv.llen L (Ty.sl In) z5;
 let z7 := Lv.cast L z6;
 let z8 := Prod.snd z4;
 let z9 := Int × Unit;
 let z10 := BxF.within F z8 1 8;
 let z11 := BxF.bl F z1;
 let z12 := BxF.nums F z1;
 let z13 := Lv.cmp L BinOp.eql z2 0;
 let z14 := Lv.cmp L BinOp.eql z7 0;
 let z15 := Lv.cmp L BinOp.geq (Int.negSucc 0) 0; VC.br (Lv.cmp L BinOp.gtr z2 64) (VC.ok ((5, ()) = z3)) (VC.br (Lv.cmp L BinOp.gtr z7 4) (VC.ok ((5, ()) = z3)) (VC.obl (St.mk 19
   [(0, V.c (C.sl (Ty.sl In) z5)), (1, V.c (C.fn 80 [])), (7, V.c (C.int IntKind.i64 z7)), (8, V.c (C.int IntKind.i64 0))] [(0, Ob.amb), (1, Ob.box 25 [C.sl It z1, C.sl (Ty.sl In)
   z5, C.int IntKind.i64 z8])] 2 = St.mk 19 [(0, V.c (C.sl (Ty.sl In) z5)), (1, V.c (C.fn 80 [])), (7, V.c (C.int IntKind.i64 z7)), (8, V.c (C.int IntKind.i64 0))] [(0, Ob.amb), (1,
   Ob.box 25 [C.sl It z1, C.sl (Ty.sl In) z5, C.int IntKind.i64 z8])] 2) (VC.obl (I2 (80, Prod.fst z4, ()) (0, ())) (VC.all z9 fun (v1 : Int × Unit) =>
 let z16 := Prod.fst v1;
 let z17 := Lv.ar L BinOp.add IntKind.i64 z16 1;
 let z18 := (Lv.ar L BinOp.add IntKind.i64 z16 1, ()); VC.imp (I2 (80, Prod.fst z4, ()) v1) (VC.br (Lv.cmp L BinOp.lss z16 z7) (VC.obl (Lv.inR L z16 z6) (VC.br (Lv.cmp L BinOp.gtr
   (Lv.cast L (Lv.llen L In (Lv.get L (Ty.sl In) z5 (Lv.toN L z16)))) 200) (VC.br (Lv.cmp L BinOp.geq z16 0) (VC.ok ((5, ()) = z3)) (VC.obl True (VC.br z10 (VC.obl z11 (VC.br z12
   (VC.br z13 (VC.ok ((4, ()) = z3)) (VC.br z14 (VC.ok ((4, ()) = z3)) (VC.obl (St.mk 19 [(0, V.c (C.sl (Ty.sl In) z5)), (1, V.c (C.fn 81 [])), (7, V.c (C.int IntKind.i64 z7)), (8,
   V.c (C.int IntKind.i64 0))] [(0, Ob.amb), (1, Ob.box 25 [C.sl It z1, C.sl (Ty.sl In) z5, C.int IntKind.i64 z8])] 2 = St.mk 19 [(0, V.c (C.sl (Ty.sl In) z5)), (1, V.c (C.fn 81
   [])), (7, V.c (C.int IntKind.i64 z7)), (8, V.c (C.int IntKind.i64 0))] [(0, Ob.amb), (1, Ob.box 25 [C.sl It z1, C.sl (Ty.sl In) z5, C.int IntKind.i64 z8])] 2) (VC.obl (I2 (81,
   Prod.fst z4, ()) (0, ())) (VC.all z9 fun (v2 : Int × Unit) =>
 let z19 := Prod.fst v2;
 let z20 := Lv.toN L z19;
 let z21 := Lv.get L (Ty.sl In) z5 z20;
 let z22 := Lv.llen L In z21;
 let z23 := Lv.cast L z22;
 let z24 := Lv.cmp L BinOp.geq z19 0;
 let z25 := Lv.ar L BinOp.add IntKind.i64 z19 1;
 let z26 := (Lv.ar L BinOp.add IntKind.i64 z19 1, ()); VC.imp (I2 (81, Prod.fst z4, ()) v2) (VC.br (Lv.cmp L BinOp.lss z19 z7) (VC.obl (Lv.inR L z19 z6) (VC.obl (St.mk 19 [(0, V.c
   (C.sl In z21)), (1, V.c (C.fn 83 [2])), (7, V.c (C.int IntKind.i64 z23)), (8, V.c (C.int IntKind.i64 0))] [(0, Ob.amb), (1, Ob.box 25 [C.sl It z1, C.sl (Ty.sl In) z5, C.int
   IntKind.i64 z8]), (2, Ob.box 54 [C.sl In z21])] 3 = St.mk 19 [(0, V.c (C.sl In z21)), (1, V.c (C.fn 83 [2])), (7, V.c (C.int IntKind.i64 z23)), (8, V.c (C.int IntKind.i64 0))]
   [(0, Ob.amb), (1, Ob.box 25 [C.sl It z1, C.sl (Ty.sl In) z5, C.int IntKind.i64 z8]), (2, Ob.box 54 [C.sl In z21])] 3) (VC.obl (I1 (83, Lv.get L (Ty.sl In) z5 z20, ()) (0, ()))
   (VC.all z9 fun (v3 : Int × Unit) =>
 let z27 := Prod.fst v3;
 let z28 := Lv.get L In z21 (Lv.toN L z27);
 let z29 := Prod.snd z28;
 let z30 := Prod.snd z29;
 let z31 := Prod.snd z30;
 let z32 := Prod.snd z31;
 let z33 := Lv.ar L BinOp.add IntKind.i64 z27 1;
 let z34 := (Lv.ar L BinOp.add IntKind.i64 z27 1, ()); VC.imp (I1 (83, Lv.get L (Ty.sl In) z5 z20, ()) v3) (VC.br (Lv.cmp L BinOp.lss z27 z23) (VC.obl (Lv.inR L z27 z22) (VC.obl
   True (VC.br (BxF.isIns F (Prod.fst z28, Prod.fst z29, Prod.fst z30, Prod.fst z31, Prod.fst z32, Prod.snd z32) z23) (VC.ok (St.mk 19 [(0, V.c (C.sl In z21)), (1, V.c (C.fn 83
   [2])), (7, V.c (C.int IntKind.i64 z23)), (8, V.c (C.int IntKind.i64 z33))] [(0, Ob.amb), (1, Ob.box 25 [C.sl It z1, C.sl (Ty.sl In) z5, C.int IntKind.i64 z8]), (2, Ob.box 54
   [C.sl In z21])] 3 = St.mk 19 [(0, V.c (C.sl In z21)), (1, V.c (C.fn 83 [2])), (7, V.c (C.int IntKind.i64 z23)), (8, V.c (C.int IntKind.i64 z33))] [(0, Ob.amb), (1, Ob.box 25
   [C.sl It z1, C.sl (Ty.sl In) z5, C.int IntKind.i64 z8]), (2, Ob.box 54 [C.sl In z21])] 3 ∧ I1 (83, Lv.get L (Ty.sl In) z5 z20, ()) z34 ∧ mu1 (83, Lv.get L (Ty.sl In) z5 z20, ())
   z34 < mu1 (83, Lv.get L (Ty.sl In) z5 z20, ()) v3)) (VC.br (Lv.cmp L BinOp.geq z27 0) (VC.br z24 (VC.ok ((4, ()) = z3)) (VC.ok ((0, ()) = z3))) (VC.ok (St.mk 19 [(0, V.c (C.sl
   (Ty.sl In) z5)), (1, V.c (C.fn 81 [])), (7, V.c (C.int IntKind.i64 z7)), (8, V.c (C.int IntKind.i64 z25))] [(0, Ob.amb), (1, Ob.box 25 [C.sl It z1, C.sl (Ty.sl In) z5, C.int
   IntKind.i64 z8])] 2 = St.mk 19 [(0, V.c (C.sl (Ty.sl In) z5)), (1, V.c (C.fn 81 [])), (7, V.c (C.int IntKind.i64 z7)), (8, V.c (C.int IntKind.i64 z25))] [(0, Ob.amb), (1, Ob.box
   25 [C.sl It z1, C.sl (Ty.sl In) z5, C.int IntKind.i64 z8])] 2 ∧ I2 (81, Prod.fst z4, ()) z26 ∧ mu2 (81, Prod.fst z4, ()) z26 < mu2 (81, Prod.fst z4, ()) v2)))))) (VC.br z15
   (VC.br z24 (VC.ok ((4, ()) = z3)) (VC.ok ((0, ()) = z3))) (VC.ok (St.mk 19 [(0, V.c (C.sl (Ty.sl In) z5)), (1, V.c (C.fn 81 [])), (7, V.c (C.int IntKind.i64 z7)), (8, V.c (C.int
   IntKind.i64 z25))] [(0, Ob.amb), (1, Ob.box 25 [C.sl It z1, C.sl (Ty.sl In) z5, C.int IntKind.i64 z8])] 2 = St.mk 19 [(0, V.c (C.sl (Ty.sl In) z5)), (1, V.c (C.fn 81 [])), (7,
   V.c (C.int IntKind.i64 z7)), (8, V.c (C.int IntKind.i64 z25))] [(0, Ob.amb), (1, Ob.box 25 [C.sl It z1, C.sl (Ty.sl In) z5, C.int IntKind.i64 z8])] 2 ∧ I2 (81, Prod.fst z4, ())
   z26 ∧ mu2 (81, Prod.fst z4, ()) z26 < mu2 (81, Prod.fst z4, ()) v2)))))))) (VC.br z15 (VC.ok ((4, ()) = z3)) (VC.ok ((0, ()) = z3))))))))) (VC.ok ((3, ()) = z3)))) (VC.ok ((3,
   ()) = z3))))) (VC.ok (St.mk 19 [(0, V.c (C.sl (Ty.sl In) z5)), (1, V.c (C.fn 80 [])), (7, V.c (C.int IntKind.i64 z7)), (8, V.c (C.int IntKind.i64 z17))] [(0, Ob.amb), (1, Ob.box
   25 [C.sl It z1, C.sl (Ty.sl In) z5, C.int IntKind.i64 z8])] 2 = St.mk 19 [(0, V.c (C.sl (Ty.sl In) z5)), (1, V.c (C.fn 80 [])), (7, V.c (C.int IntKind.i64 z7)), (8, V.c (C.int
   IntKind.i64 z17))] [(0, Ob.amb), (1, Ob.box 25 [C.sl It z1, C.sl (Ty.sl In) z5, C.int IntKind.i64 z8])] 2 ∧ I2 (80, Prod.fst z4, ()) z18 ∧ mu2 (80, Prod.fst z4, ()) z18 < mu2
   (80, Prod.fst z4, ()) v1)))) (VC.br z15 (VC.ok ((5, ()) = z3)) (VC.obl True (VC.br z10 (VC.obl z11 (VC.br z12 (VC.br z13 (VC.ok ((4, ()) = z3)) (VC.br z14 (VC.ok ((4, ()) = z3))
   (VC.obl (St.mk 19 [(0, V.c (C.sl (Ty.sl In) z5)), (1, V.c (C.fn 81 [])), (7, V.c (C.int IntKind.i64 z7)), (8, V.c (C.int IntKind.i64 0))] [(0, Ob.amb), (1, Ob.box 25 [C.sl It z1,
   C.sl (Ty.sl In) z5, C.int IntKind.i64 z8])] 2 = St.mk 19 [(0, V.c (C.sl (Ty.sl In) z5)), (1, V.c (C.fn 81 [])), (7, V.c (C.int IntKind.i64 z7)), (8, V.c (C.int IntKind.i64 0))]
   [(0, Ob.amb), (1, Ob.box 25 [C.sl It z1, C.sl (Ty.sl In) z5, C.int IntKind.i64 z8])] 2) (VC.obl (I2 (81, Prod.fst z4, ()) (0, ())) (VC.all z9 fun (v4 : Int × Unit) =>
 let z35 := Prod.fst v4;
 let z36 := Lv.toN L z35;
 let z37 := Lv.get L (Ty.sl In) z5 z36;
 let z38 := Lv.llen L In z37;
 let z39 := Lv.cast L z38;
 let z40 := Lv.cmp L BinOp.geq z35 0;
 let z41 := Lv.ar L BinOp.add IntKind.i64 z35 1;
 let z42 := (Lv.ar L BinOp.add IntKind.i64 z35 1, ()); VC.imp (I2 (81, Prod.fst z4, ()) v4) (VC.br (Lv.cmp L BinOp.lss z35 z7) (VC.obl (Lv.inR L z35 z6) (VC.obl (St.mk 19 [(0, V.c
   (C.sl In z37)), (1, V.c (C.fn 83 [2])), (7, V.c (C.int IntKind.i64 z39)), (8, V.c (C.int IntKind.i64 0))] [(0, Ob.amb), (1, Ob.box 25 [C.sl It z1, C.sl (Ty.sl In) z5, C.int
   IntKind.i64 z8]), (2, Ob.box 54 [C.sl In z37])] 3 = St.mk 19 [(0, V.c (C.sl In z37)), (1, V.c (C.fn 83 [2])), (7, V.c (C.int IntKind.i64 z39)), (8, V.c (C.int IntKind.i64 0))]
   [(0, Ob.amb), (1, Ob.box 25 [C.sl It z1, C.sl (Ty.sl In) z5, C.int IntKind.i64 z8]), (2, Ob.box 54 [C.sl In z37])] 3) (VC.obl (I1 (83, Lv.get L (Ty.sl In) z5 z36, ()) (0, ()))
   (VC.all z9 fun (v5 : Int × Unit) =>
 let z43 := Prod.fst v5;
 let z44 := Lv.get L In z37 (Lv.toN L z43);
 let z45 := Prod.snd z44;
 let z46 := Prod.snd z45;
 let z47 := Prod.snd z46;
 let z48 := Prod.snd z47;
 let z49 := Lv.ar L BinOp.add IntKind.i64 z43 1;
 let z50 := (Lv.ar L BinOp.add IntKind.i64 z43 1, ()); VC.imp (I1 (83, Lv.get L (Ty.sl In) z5 z36, ()) v5) (VC.br (Lv.cmp L BinOp.lss z43 z39) (VC.obl (Lv.inR L z43 z38) (VC.obl
   True (VC.br (BxF.isIns F (Prod.fst z44, Prod.fst z45, Prod.fst z46, Prod.fst z47, Prod.fst z48, Prod.snd z48) z39) (VC.ok (St.mk 19 [(0, V.c (C.sl In z37)), (1, V.c (C.fn 83
   [2])), (7, V.c (C.int IntKind.i64 z39)), (8, V.c (C.int IntKind.i64 z49))] [(0, Ob.amb), (1, Ob.box 25 [C.sl It z1, C.sl (Ty.sl In) z5, C.int IntKind.i64 z8]), (2, Ob.box 54
   [C.sl In z37])] 3 = St.mk 19 [(0, V.c (C.sl In z37)), (1, V.c (C.fn 83 [2])), (7, V.c (C.int IntKind.i64 z39)), (8, V.c (C.int IntKind.i64 z49))] [(0, Ob.amb), (1, Ob.box 25
   [C.sl It z1, C.sl (Ty.sl In) z5, C.int IntKind.i64 z8]), (2, Ob.box 54 [C.sl In z37])] 3 ∧ I1 (83, Lv.get L (Ty.sl In) z5 z36, ()) z50 ∧ mu1 (83, Lv.get L (Ty.sl In) z5 z36, ())
   z50 < mu1 (83, Lv.get L (Ty.sl In) z5 z36, ()) v5)) (VC.br (Lv.cmp L BinOp.geq z43 0) (VC.br z40 (VC.ok ((4, ()) = z3)) (VC.ok ((0, ()) = z3))) (VC.ok (St.mk 19 [(0, V.c (C.sl
   (Ty.sl In) z5)), (1, V.c (C.fn 81 [])), (7, V.c (C.int IntKind.i64 z7)), (8, V.c (C.int IntKind.i64 z41))] [(0, Ob.amb), (1, Ob.box 25 [C.sl It z1, C.sl (Ty.sl In) z5, C.int
   IntKind.i64 z8])] 2 = St.mk 19 [(0, V.c (C.sl (Ty.sl In) z5)), (1, V.c (C.fn 81 [])), (7, V.c (C.int IntKind.i64 z7)), (8, V.c (C.int IntKind.i64 z41))] [(0, Ob.amb), (1, Ob.box
   25 [C.sl It z1, C.sl (Ty.sl In) z5, C.int IntKind.i64 z8])] 2 ∧ I2 (81, Prod.fst z4, ()) z42 ∧ mu2 (81, Prod.fst z4, ()) z42 < mu2 (81, Prod.fst z4, ()) v4)))))) (VC.br z15
   (VC.br z40 (VC.ok ((4, ()) = z3)) (VC.ok ((0, ()) = z3))) (VC.ok (St.mk 19 [(0, V.c (C.sl (Ty.sl In) z5)), (1, V.c (C.fn 81 [])), (7, V.c (C.int IntKind.i64 z7)), (8, V.c (C.int
   IntKind.i64 z41))] [(0, Ob.amb), (1, Ob.box 25 [C.sl It z1, C.sl (Ty.sl In) z5, C.int IntKind.i64 z8])] 2 = St.mk 19 [(0, V.c (C.sl (Ty.sl In) z5)), (1, V.c (C.fn 81 [])), (7,
   V.c (C.int IntKind.i64 z7)), (8, V.c (C.int IntKind.i64 z41))] [(0, Ob.amb), (1, Ob.box 25 [C.sl It z1, C.sl (Ty.sl In) z5, C.int IntKind.i64 z8])] 2 ∧ I2 (81, Prod.fst z4, ())
   z42 ∧ mu2 (81, Prod.fst z4, ()) z42 < mu2 (81, Prod.fst z4, ()) v4)))))))) (VC.br z15 (VC.ok ((4, ()) = z3)) (VC.ok ((0, ()) = z3))))))))) (VC.ok ((3, ()) = z3)))) (VC.ok ((3,
   ()) = z3))))))))))
theorem n38_eq (L : Lv) (F : BxF) (I1 : Int × List InD × Unit → Ds [It] → Prop) (mu1 : Int × List InD × Unit → Ds [It] → Nat) (I2 : Int × List (List InD) × Unit → Ds [It] → Prop) (mu2 : Int × List (List InD) × Unit → Ds [It] → Nat) (p : WkD) : vcO L F (o38 L I1 mu1 I2 mu2) [80, 81, 82, 83, 84, 85, 86, 87, 119, 121] 9 (D38 a0) (S22 F) (p, ()) = n38 L F I1 mu1 I2 mu2 p := by kernel_rfl
theorem n38_go (L : Lv) (F : BxF) (I1 : Int × List InD × Unit → Ds [It] → Prop) (mu1 : Int × List InD × Unit → Ds [It] → Nat) (I2 : Int × List (List InD) × Unit → Ds [It] → Prop) (mu2 : Int × List (List InD) × Unit → Ds [It] → Nat) (p : WkD) (h : VC.holds (n38 L F I1 mu1 I2 mu2 p)) : Holds (vcO L F (o38 L I1 mu1 I2 mu2) [80, 81, 82, 83, 84, 85, 86, 87, 119, 121] 9 (D38 a0) (S22 F) (p, ())) := Holds.of_eq (n38_eq L F I1 mu1 I2 mu2 p) h
theorem ok87 (F : BxF) (h : F.nums = numsF) (h1 : F.isNum = isNumF) (hp : F.bl = bL) (k1 : SpecOk prog 92 (S92 F)) : SpecOk prog 87 (S87 F) := by
  refine contract_by hm hE D87 fnok87 _ fun (z : List Int × Unit) hpre => ?_
  obtain ⟨l, ⟨⟩⟩ := z
  have hpre' : F.bl l := hpre
  rw [hp] at hpre'
  have g : l.length ≤ 1000000 := hpre'
  let I : Int × List Int × Unit → Int × Unit → Prop := fun _ x => 0 ≤ x.1 ∧ x.1 ≤ l.length ∧ (l.drop x.1.toNat).all isNumF = numsF l
  let mu : Int × List Int × Unit → Int × Unit → Nat := fun _ x => (l.length - x.1).toNat
  refine pack _ 5 a0 (only_tab (T := tabO (o87 Lv.std I mu) (cT F)) (l := [92, 96, 122, 125]) (tb_cons (tb_sp k1 (by kernel_rfl)) (tb_cons (tb_d (fnok96 a0) (by kernel_rfl)) (tb_cons (tb_d (fnok122 a0) (by kernel_rfl)) (tb_cons (tb_d (fnok125 (aIx Lv.std It I mu)) (by kernel_rfl)) tb_nil))))) ?_
  refine n87_go Lv.std F I mu l ?_
  simp only [n87, VC.holds, std_cmp, std_scmp, std_ar_add, std_ar_sub, std_ar_mul, std_ar, std_dv, std_shf, std_conv, std_mn, std_mx, std_beq, std_bnot, std_band, std_scat, std_byte, std_ext, std_slen, std_strOf, std_bytes, std_llen, std_get, std_setl, std_app, std_take, std_drop, std_rep, std_mhas, std_mval, std_mput, std_cast, std_toN, std_sub, std_add, std_inR, std_le3, std_leN, std_ltN, std_ne0, std_nonneg, std_catOk, std_room, std_mkOk, std_nth, std_cnt, cmp_lss_t, cmp_lss_f, cmp_leq_t, cmp_leq_f, cmp_gtr_t, cmp_gtr_f, cmp_geq_t, cmp_geq_f, cmp_eql_t, cmp_eql_f, cmp_neq_t, cmp_neq_f, scmp_eql_t, scmp_eql_f, scmp_neq_t, scmp_neq_f, dflt_int, dflt_bool, dflt_str, dflt_sl, dflt_pair, h, h1, Prod.mk.injEq, and_true, true_and]
  refine ⟨⟨Int.le_refl 0, by show (0 : Int) ≤ l.length; omega, rfl⟩, ?_⟩
  rintro ⟨x, ⟨⟩⟩ ⟨i1, i2, i3⟩
  simp only at i1 i2 i3 ⊢
  obtain ⟨k, rfl⟩ := nat_of i1
  rw [Int.toNat_natCast] at i3
  refine ⟨fun hlt => ⟨⟨i1, hlt⟩, fun hn => ?_, fun hn => ⟨fun _ => ?_, fun hc => by omega⟩⟩, fun hge => ⟨fun hc => (by cases hc), fun _ => ?_⟩⟩
  · rw [wr hlt g]
    rw [all_drop isNumF l k 0 (by omega), Int.toNat_natCast] at *
    rw [hn, Bool.true_and] at i3
    exact ⟨⟨by show (0 : Int) ≤ ((k + 1 : Nat) : Int); omega, by show ((k + 1 : Nat) : Int) ≤ l.length; omega, by show (l.drop ((k + 1 : Nat) : Int).toNat).all isNumF = _; rw [Int.toNat_natCast]; exact i3⟩, by show ((l.length : Int) - ((k + 1 : Nat) : Int)).toNat < ((l.length : Int) - k).toNat; omega⟩
  · rw [all_drop isNumF l k 0 (by omega)] at i3
    rw [Int.toNat_natCast] at hn
    rw [hn, Bool.false_and] at i3
    exact i3
  · rw [show k = l.length by omega, List.drop_length] at i3
    exact i3
theorem ok38 (F : BxF) (h : F.check = checkF) (h1 : F.nums = numsF) (h2 : F.within = withinF) (h3 : F.isIns = insOkF) (hp : F.bw = bW) (q1 : F.bl = bL) (k1 : SpecOk prog 84 (S84 F)) (k2 : SpecOk prog 86 (S86 F)) (k3 : SpecOk prog 87 (S87 F)) : SpecOk prog 38 (S22 F) := by
  refine contract_by hm hE D38 fnok38 _ fun (z : WkD × Unit) hpre => ?_
  obtain ⟨p, ⟨⟩⟩ := z
  have hpre' : F.bw p := hpre
  rw [hp] at hpre'
  obtain ⟨g1, g2, g3⟩ := hpre'
  let I1 : Int × List InD × Unit → Int × Unit → Prop := fun e => Iv e.2.1.length fun k => (e.2.1.drop k).all (fun i => insOkF i e.2.1.length) = listOk e.2.1
  let mu1 : Int × List InD × Unit → Int × Unit → Nat := fun e => Mu e.2.1.length
  let I2 : Int × List (List InD) × Unit → Int × Unit → Prop := fun e => Iv p.2.1.length fun k => if e.1 = 80 then (p.2.1.drop k).any longL = p.2.1.any longL else (p.2.1.drop k).all listOk = p.2.1.all listOk
  let mu2 : Int × List (List InD) × Unit → Int × Unit → Nat := fun e => Mu p.2.1.length
  refine pack _ 9 a0 (only_tab (T := tabO (o38 Lv.std I1 mu1 I2 mu2) (cT F)) (l := [80, 81, 82, 83, 84, 85, 86, 87, 119, 121])
    (tb_cons (tb_d (fnok80 a0) (by kernel_rfl)) (tb_cons (tb_d (fnok81 a0) (by kernel_rfl)) (tb_cons (tb_d (fnok82 a0) (by kernel_rfl)) (tb_cons (tb_d (fnok83 a0) (by kernel_rfl)) (tb_cons (tb_sp k1 (by kernel_rfl)) (tb_cons (tb_d (fnok85 a0) (by kernel_rfl)) (tb_cons (tb_sp k2 (by kernel_rfl)) (tb_cons (tb_sp k3 (by kernel_rfl)) (tb_cons (tb_d (fnok119 (aIx Lv.std In I1 mu1)) (by kernel_rfl)) (tb_cons (tb_d (fnok121 (aIx Lv.std (.sl In) I2 mu2)) (by kernel_rfl)) tb_nil))))))))))) ?_
  refine n38_go Lv.std F I1 mu1 I2 mu2 p ?_
  have eI : ∀ (l : List (List InD)) (k : Int), Lv.std.get (.sl In) l k.toNat = (l[k.toNat]?).getD [] := fun _ _ => rfl
  have eJ : ∀ (l : List InD) (k : Int), Lv.std.get In l k.toNat = insIn l k := fun _ _ => rfl
  have ms : ∀ k, k < p.2.1.length → ((p.2.1[k]?).getD []).length ≤ 1000000 := fun k hk => by rw [List.getElem?_eq_getElem hk]; exact g3 _ (List.getElem_mem hk)
  have neg1 : (Int.negSucc 0 : Int) = -1 := rfl
  simp only [n38, VC.holds, std_cmp, std_cast, std_llen, std_toN, eI, eJ, std_inR, std_ar_add, cmp_lss_t, cmp_lss_f, cmp_gtr_t, cmp_gtr_f, cmp_geq_t, cmp_geq_f, cmp_eql_t, cmp_eql_f, neg1, h, h1, h2, h3, q1, Prod.mk.injEq, and_true, true_and]
  refine ⟨fun c1 => (ck5a p (.inl (by omega))).symm, fun c1 => ⟨fun c2 => (ck5a p (.inr (by omega))).symm, fun c2 => ⟨Iv.zero (by simp), fun x hx => ?_⟩⟩⟩
  have n1 : ¬ (64 < p.1.length ∨ 4 < p.2.1.length) := by omega
  obtain ⟨k, rfl, hk, i3⟩ := Iv.elim hx
  simp only [if_true, Int.toNat_natCast] at i3 ⊢
  refine ⟨fun hlt => ⟨⟨by omega, hlt⟩, fun hl => ⟨fun _ => ?_, fun hc => by omega⟩, fun hl => ?_⟩, fun hge => ⟨fun hc => by omega, fun _ => ?_⟩⟩
  · rw [any_drop longL _ k [] (by omega), show longL ((p.2.1[k]?).getD []) = true from decide_eq_true hl, Bool.true_or] at i3
    exact (ck5b p n1 i3.symm).symm
  · rw [any_drop longL _ k [] (by omega), show longL ((p.2.1[k]?).getD []) = false from decide_eq_false (by omega), Bool.false_or] at i3
    rw [wr hlt g2]
    exact ⟨Iv.mk (by omega) (by rw [if_pos rfl]; exact i3), Mu.lt (by omega)⟩
  · rw [show k = p.2.1.length by omega, List.drop_length] at i3
    have n2 : p.2.1.any longL = false := i3.symm
    refine ⟨fun hw => ⟨g1, fun hn => ⟨fun hz => (ck4a p n1 n2 hw hn (.inl (by omega))).symm, fun hz => ⟨fun hy => (ck4a p n1 n2 hw hn (.inr (by omega))).symm, fun hy => ⟨Iv.zero (by simp), fun x hx => ?_⟩⟩⟩, fun hn => (ck3 p n1 n2 (.inr hn)).symm⟩, fun hw => (ck3 p n1 n2 (.inl hw)).symm⟩
    have hz' : ¬ (p.1.length = 0 ∨ p.2.1.length = 0) := by omega
    obtain ⟨k, rfl, hk, j3⟩ := Iv.elim hx
    rw [if_neg (show ¬ ((81 : Int) = 80) by decide)] at j3
    simp only [Int.toNat_natCast]
    refine ⟨fun hlt => ⟨⟨by omega, hlt⟩, Iv.zero rfl, fun y hy' => ?_⟩, fun hge => ⟨fun hc => by omega, fun _ => ?_⟩⟩
    · have hk' : k < p.2.1.length := by omega
      obtain ⟨j, rfl, hj, m3⟩ := Iv.elim hy'
      simp only [Int.toNat_natCast] at hj m3 ⊢
      refine ⟨fun hlt2 => ⟨⟨by omega, hlt2⟩, fun hi => ?_, fun hi => ⟨fun _ => ⟨fun _ => ?_, fun hc => by omega⟩, fun hc => by omega⟩⟩, fun hge2 => ⟨fun hc => by omega, fun _ => ?_⟩⟩
      · rw [wr hlt2 (ms k hk')]
        rw [all_drop _ _ j (0, 0, 0, 0, 0, 0) (by omega)] at m3
        have hi' : insOkF (insIn ((p.2.1[k]?).getD []) j) (((p.2.1[k]?).getD []).length : Int) = true := hi
        rw [show insOkF ((((p.2.1[k]?).getD [])[j]?).getD (0, 0, 0, 0, 0, 0)) (((p.2.1[k]?).getD []).length : Int) = true from hi', Bool.true_and] at m3
        exact ⟨Iv.mk (by show j + 1 ≤ ((p.2.1[k]?).getD []).length; omega) m3, Mu.lt (by show j < ((p.2.1[k]?).getD []).length; omega)⟩
      · rw [all_drop _ _ j (0, 0, 0, 0, 0, 0) (by omega)] at m3
        have hi' : insOkF (insIn ((p.2.1[k]?).getD []) j) (((p.2.1[k]?).getD []).length : Int) = false := hi
        rw [show insOkF ((((p.2.1[k]?).getD [])[j]?).getD (0, 0, 0, 0, 0, 0)) (((p.2.1[k]?).getD []).length : Int) = false from hi', Bool.false_and] at m3
        rw [all_drop listOk _ k [] hk', show listOk ((p.2.1[k]?).getD []) = false from m3.symm, Bool.false_and] at j3
        exact (ck4b p n1 n2 hw hn hz' j3.symm).symm
      · rw [wr hlt g2]
        rw [show j = ((p.2.1[k]?).getD []).length by omega, List.drop_length] at m3
        rw [all_drop listOk _ k [] hk', show listOk ((p.2.1[k]?).getD []) = true from m3.symm, Bool.true_and] at j3
        exact ⟨Iv.mk (by omega) (by rw [if_neg (show ¬ ((81 : Int) = 80) by decide)]; exact j3), Mu.lt (by omega)⟩
    · rw [show k = p.2.1.length by omega, List.drop_length] at j3
      exact (ck0 p n1 n2 hw hn hz' j3.symm).symm
end Go.Proofs.Tryz
set_option autoImplicit false
set_option linter.all false
namespace Go.Proofs.Tryz
open Go Go.VM
set_option maxRecDepth 100000
def tO (L : Lv) (s : StD) (v : MvD) : ThD := Lv.get L Th (Prod.snd s) (Lv.toN L (Prod.fst v))
def iO (L : Lv) (m : McD) (s : StD) (v : MvD) : InD := Lv.get L In (Lv.get L (.sl In) (Prod.fst (Prod.snd (Prod.fst m))) (Lv.toN L (Prod.fst v))) (Lv.toN L (Prod.fst (tO L s v)))
def p1 {α β : Type} (x : α × β) : α := x.1
def p2 {α β : Type} (x : α × β) : β := x.2
def n99 (L : Lv) (F : BxF) (m : McD) (s : StD) (v : MvD)  : VC :=
 let z1 := BxF.pLi F (p1 s);
 let z2 := BxF.pLt F (p2 s);
 let z3 := Lv.llen L Th (p2 s);
 let z4 := Lv.inR L (p1 v) z3;
 let z5 := Lv.toN L (p1 v);
 let z6 := Lv.ltN L z5 z3;
 let z7 := p1 (p2 (tO L s v));
 let z8 := BxF.pLi F z7;
 let z9 := p2 (p2 (tO L s v));
 let z10 := p1 z9;
 let z11 := BxF.pLk F z10;
 let z12 := p2 z9;
 let z13 := p1 z12;
 let z14 := BxF.pLi F z13;
 let z15 := (Lv.toN L (p1 v) = Lv.toN L (p1 v));
 let z16 := Lv.llen L Kp z10;
 let z17 := Lv.inR L 0 z16;
 let z18 := Lv.ltN L (Lv.toN L 0) z16;
 let z19 := Lv.get L Kp z10 (Lv.toN L 0);
 let z20 := p1 z19;
 let z21 := Lv.llen L It (p1 s);
 let z22 := Lv.toN L z20;
 let z23 := Lv.cast L z16;
 let z24 := Lv.llen L It z7;
 let z25 := Lv.llen L It z13;
 let z26 := (BxF.doo F m s v, ());
 let z27 := p1 (tO L s v);
 let z28 := iO L m s v;
 let z29 := p1 z28;
 let z30 := p2 z28;
 let z31 := p2 z30;
 let z32 := p2 z31;
 let z33 := p2 z32;
 let z34 := (Lv.take L It (p1 s) z21, Lv.take L Th (Lv.setl L Th (p2 s) z5 (p2 z33, Lv.take L It z7 z24, Lv.take L Kp z10 z16, Lv.take L It z13 z25, p2 z12)) z3);
 let z35 := p1 z30;
 let z36 := Lv.inR L z35 z24;
 let z37 := Lv.toN L z35;
 let z38 := Lv.ltN L z37 z24;
 let z39 := Lv.get L It z7 z37;
 let z40 := (Lv.setl L Th (p2 s) z5 (Lv.ar L BinOp.add IntKind.i64 z27 1, Lv.take L It z7 z24, Lv.take L Kp z10 z16, Lv.take L It z13 z25, p2 z12));
 let z41 := (Lv.take L It (p1 s) z21, Lv.take L Th z40 z3);
 let z42 := Lv.take L It z13 z25;
 let z43 := Lv.take L It [Lv.get L It z7 z37] 1;
 let z44 := Lv.add L (Lv.llen L It z42) (Lv.llen L It z43);
 let z45 := (Lv.take L It (p1 s) z21, Lv.take L Th (Lv.setl L Th (p2 s) z5 (p1 (tO L s v), Lv.take L It z7 z24, Lv.take L Kp z10 z16, Lv.take L It z13 z25, true)) z3);
 let z46 := Lv.cmp L BinOp.eql z29 8;
 let z47 := (p1 (tO L s v), Lv.take L It z7 z24, Lv.take L Kp z10 z16, Lv.take L It z13 z25, p2 z12);
 let z48 := (Lv.take L It (p1 s) z21, Lv.take L Th (Lv.setl L Th (p2 s) z5 z47) z3);
 let z49 := (p1 z28, p1 z30, p1 z31, p1 z32, p1 z33, p2 z33);
 let z50 := BxF.pPlace F z48 z47 z49;
 let z51 := BxF.place F z48 z47 z49;
 let z52 := p2 z51;
 let z53 := p1 z51;
 let z54 := BxF.pSees F z48 z47 z53;
 let z55 := (Lv.take L It (p1 s) z21, Lv.take L Th (Lv.setl L Th (p2 s) z5 (Lv.ar L BinOp.add IntKind.i64 z27 1, Lv.take L It (Lv.setl L It z7 z37 (BxF.sees F z48 z47 z53)) z24,
   Lv.take L Kp z10 z16, Lv.take L It z13 z25, p2 z12)) z3);
 let z56 := Lv.cmp L BinOp.eql z29 9;
 let z57 := Lv.inR L z53 z21;
 let z58 := Lv.toN L z53;
 let z59 := Lv.ltN L z58 z21;
 let z60 := (Lv.take L It (Lv.setl L It (p1 s) z58 z39) z21, Lv.take L Th z40 z3);
 let z61 := Lv.take L Kp z10 z16;
 let z62 := (Lv.take L Kp [(p1 z51, Lv.get L It z7 z37)] 1);
 let z63 := Lv.add L (Lv.llen L Kp z61) (Lv.llen L Kp z62);
 let z64 := Lv.room L z63 16;
 let z65 := (Lv.take L It (p1 s) z21, Lv.take L Th (Lv.setl L Th (p2 s) z5 (Lv.ar L BinOp.add IntKind.i64 z27 1, Lv.take L It z7 z24, Lv.take L Kp (Lv.app L Kp z61 z62) z63, Lv.take
   L It z13 z25, p2 z12)) z3);
 let z66 := Lv.cmp L BinOp.eql z29 10;
 let z67 := p1 z32;
 let z68 := Lv.inR L z67 z24;
 let z69 := Lv.toN L z67;
 let z70 := Lv.ltN L z69 z24;
 let z71 := Lv.cmp L BinOp.eql (Lv.get L It (p1 s) z58) (Lv.get L It z7 z69);
 let z72 := p1 z33;
 let z73 := Lv.inR L z72 z24;
 let z74 := Lv.toN L z72;
 let z75 := Lv.ltN L z74 z24;
 let z76 := (Lv.take L It (Lv.setl L It (p1 s) z58 (Lv.get L It z7 z74)) z21, Lv.take L Th (Lv.setl L Th (p2 s) z5 (Lv.ar L BinOp.add IntKind.i64 z27 1, Lv.take L It (Lv.setl L It
   z7 z37 (BxF.truth F true)) z24, Lv.take L Kp z10 z16, Lv.take L It z13 z25, p2 z12)) z3);
 let z77 := (Lv.take L It (p1 s) z21, Lv.take L Th (Lv.setl L Th (p2 s) z5 (Lv.ar L BinOp.add IntKind.i64 z27 1, Lv.take L It (Lv.setl L It z7 z37 (BxF.truth F false)) z24, Lv.take
   L Kp z10 z16, Lv.take L It z13 z25, p2 z12)) z3);
 let z78 := Lv.cmp L BinOp.eql z29 12;
 let z79 := Lv.take L It z7 z24;
 let z80 := BxF.pRegs F z79 z49;
 let z81 := BxF.worked F z79 z49;
 let z82 := p2 z81;
 let z83 := (Lv.take L It (p1 s) z21, Lv.take L Th (Lv.setl L Th (p2 s) z5 (Lv.ar L BinOp.add IntKind.i64 z27 1, Lv.take L It (Lv.setl L It z7 z37 (p1 z81)) z24, Lv.take L Kp z10
   z16, Lv.take L It z13 z25, p2 z12)) z3); VC.obl z1 (VC.obl z2 (VC.obl z4 (VC.obl z6 (VC.obl z8 (VC.obl z6 (VC.obl z11 (VC.obl z6 (VC.obl z14 (VC.obl z6 (VC.obl z15 (VC.obl z15
   (VC.obl z4 (VC.br (p2 v) (VC.obl z15 (VC.obl z17 (VC.obl z18 (VC.obl z15 (VC.obl z17 (VC.obl z18 (VC.obl (Lv.inR L z20 z21) (VC.obl (Lv.ltN L z22 z21) (VC.obl z15 (VC.obl (Lv.le3
   L 1 z23 z16) (VC.obl z15 (VC.ok (((Lv.take L It (Lv.setl L It (p1 s) z22 (p2 z19)) z21, Lv.take L Th (Lv.setl L Th (p2 s) z5 (p1 (tO L s v), Lv.take L It z7 z24, Lv.drop L Kp
   (Lv.take L Kp z10 (Lv.toN L z23)) (Lv.toN L 1), Lv.take L It z13 z25, p2 z12)) z3), ()) = z26))))))))))))) (VC.obl (Lv.inR L (p1 v) (Lv.llen L (Ty.sl In) (p1 (p2 (p1 m)))))
   (VC.obl z15 (VC.obl (Lv.inR L z27 (Lv.llen L In (Lv.get L (Ty.sl In) (p1 (p2 (p1 m))) z5))) (VC.obl z15 (VC.br (Lv.cmp L BinOp.eql z29 13) (VC.obl z15 (VC.ok ((z34, ()) = z26)))
   (VC.br (Lv.cmp L BinOp.eql z29 14) (VC.obl z15 (VC.obl z36 (VC.obl z38 (VC.br (Lv.cmp L BinOp.eql z39 0) (VC.obl z15 (VC.ok ((z34, ()) = z26))) (VC.obl z15 (VC.ok ((z41, ()) =
   z26))))))) (VC.br (Lv.cmp L BinOp.eql z29 15) (VC.obl z15 (VC.obl z15 (VC.obl z36 (VC.obl z38 (VC.obl (Lv.room L z44 8) (VC.obl z15 (VC.obl z15 (VC.br (Lv.cmp L BinOp.leq
   (Lv.cast L z44) 20) (VC.obl z15 (VC.ok (((Lv.take L It (p1 s) z21, Lv.take L Th (Lv.setl L Th (p2 s) z5 (Lv.ar L BinOp.add IntKind.i64 z27 1, Lv.take L It z7 z24, Lv.take L Kp
   z10 z16, Lv.take L It (Lv.app L It z42 z43) z44, p2 z12)) z3), ()) = z26))) (VC.obl z1 (VC.obl z2 (VC.obl z4 (VC.obl z6 (VC.obl z8 (VC.obl z6 (VC.obl z11 (VC.obl z6 (VC.obl z14
   (VC.obl z6 (VC.obl z15 (VC.obl z15 (VC.obl z4 (VC.obl z15 (VC.ok ((z45, ()) = z26)))))))))))))))))))))))) (VC.br z46 (VC.obl z15 (VC.obl z50 (VC.br z52 (VC.br z46 (VC.obl z15
   (VC.obl z15 (VC.obl z54 (VC.obl z36 (VC.obl z38 (VC.obl z15 (VC.ok ((z55, ()) = z26)))))))) (VC.br z56 (VC.br (p2 m) (VC.obl z15 (VC.obl z36 (VC.obl z38 (VC.obl z57 (VC.obl z59
   (VC.obl z15 (VC.ok ((z60, ()) = z26)))))))) (VC.obl z15 (VC.obl z15 (VC.obl z36 (VC.obl z38 (VC.obl z64 (VC.obl z15 (VC.obl z15 (VC.ok ((z65, ()) = z26)))))))))) (VC.br z66
   (VC.obl z57 (VC.obl z59 (VC.obl z15 (VC.obl z68 (VC.obl z70 (VC.br z71 (VC.obl z15 (VC.obl z73 (VC.obl z75 (VC.obl z57 (VC.obl z59 (VC.obl z15 (VC.obl True (VC.obl z36 (VC.obl
   z38 (VC.obl z15 (VC.ok ((z76, ()) = z26)))))))))))) (VC.obl z15 (VC.obl True (VC.obl z36 (VC.obl z38 (VC.obl z15 (VC.ok ((z77, ()) = z26))))))))))))) (VC.br z78 (VC.obl z15
   (VC.ok ((z41, ()) = z26))) VC.bad)))) (VC.obl z1 (VC.obl z2 (VC.obl z4 (VC.obl z6 (VC.obl z8 (VC.obl z6 (VC.obl z11 (VC.obl z6 (VC.obl z14 (VC.obl z6 (VC.obl z15 (VC.obl z15
   (VC.obl z4 (VC.obl z15 (VC.ok ((z45, ()) = z26))))))))))))))))))) (VC.br z56 (VC.obl z15 (VC.obl z50 (VC.br z52 (VC.br z46 (VC.obl z15 (VC.obl z15 (VC.obl z54 (VC.obl z36 (VC.obl
   z38 (VC.obl z15 (VC.ok ((z55, ()) = z26)))))))) (VC.br z56 (VC.br (p2 m) (VC.obl z15 (VC.obl z36 (VC.obl z38 (VC.obl z57 (VC.obl z59 (VC.obl z15 (VC.ok ((z60, ()) = z26))))))))
   (VC.obl z15 (VC.obl z15 (VC.obl z36 (VC.obl z38 (VC.obl z64 (VC.obl z15 (VC.obl z15 (VC.ok ((z65, ()) = z26)))))))))) (VC.br z66 (VC.obl z57 (VC.obl z59 (VC.obl z15 (VC.obl z68
   (VC.obl z70 (VC.br z71 (VC.obl z15 (VC.obl z73 (VC.obl z75 (VC.obl z57 (VC.obl z59 (VC.obl z15 (VC.obl True (VC.obl z36 (VC.obl z38 (VC.obl z15 (VC.ok ((z76, ()) =
   z26)))))))))))) (VC.obl z15 (VC.obl True (VC.obl z36 (VC.obl z38 (VC.obl z15 (VC.ok ((z77, ()) = z26))))))))))))) (VC.br z78 (VC.obl z15 (VC.ok ((z41, ()) = z26))) VC.bad))))
   (VC.obl z1 (VC.obl z2 (VC.obl z4 (VC.obl z6 (VC.obl z8 (VC.obl z6 (VC.obl z11 (VC.obl z6 (VC.obl z14 (VC.obl z6 (VC.obl z15 (VC.obl z15 (VC.obl z4 (VC.obl z15 (VC.ok ((z45, ()) =
   z26))))))))))))))))))) (VC.br z66 (VC.obl z15 (VC.obl z50 (VC.br z52 (VC.br z46 (VC.obl z15 (VC.obl z15 (VC.obl z54 (VC.obl z36 (VC.obl z38 (VC.obl z15 (VC.ok ((z55, ()) =
   z26)))))))) (VC.br z56 (VC.br (p2 m) (VC.obl z15 (VC.obl z36 (VC.obl z38 (VC.obl z57 (VC.obl z59 (VC.obl z15 (VC.ok ((z60, ()) = z26)))))))) (VC.obl z15 (VC.obl z15 (VC.obl z36
   (VC.obl z38 (VC.obl z64 (VC.obl z15 (VC.obl z15 (VC.ok ((z65, ()) = z26)))))))))) (VC.br z66 (VC.obl z57 (VC.obl z59 (VC.obl z15 (VC.obl z68 (VC.obl z70 (VC.br z71 (VC.obl z15
   (VC.obl z73 (VC.obl z75 (VC.obl z57 (VC.obl z59 (VC.obl z15 (VC.obl True (VC.obl z36 (VC.obl z38 (VC.obl z15 (VC.ok ((z76, ()) = z26)))))))))))) (VC.obl z15 (VC.obl True (VC.obl
   z36 (VC.obl z38 (VC.obl z15 (VC.ok ((z77, ()) = z26))))))))))))) (VC.br z78 (VC.obl z15 (VC.ok ((z41, ()) = z26))) VC.bad)))) (VC.obl z1 (VC.obl z2 (VC.obl z4 (VC.obl z6 (VC.obl
   z8 (VC.obl z6 (VC.obl z11 (VC.obl z6 (VC.obl z14 (VC.obl z6 (VC.obl z15 (VC.obl z15 (VC.obl z4 (VC.obl z15 (VC.ok ((z45, ()) = z26))))))))))))))))))) (VC.br z78 (VC.obl z15
   (VC.obl z50 (VC.br z52 (VC.br z46 (VC.obl z15 (VC.obl z15 (VC.obl z54 (VC.obl z36 (VC.obl z38 (VC.obl z15 (VC.ok ((z55, ()) = z26)))))))) (VC.br z56 (VC.br (p2 m) (VC.obl z15
   (VC.obl z36 (VC.obl z38 (VC.obl z57 (VC.obl z59 (VC.obl z15 (VC.ok ((z60, ()) = z26)))))))) (VC.obl z15 (VC.obl z15 (VC.obl z36 (VC.obl z38 (VC.obl z64 (VC.obl z15 (VC.obl z15
   (VC.ok ((z65, ()) = z26)))))))))) (VC.br z66 (VC.obl z57 (VC.obl z59 (VC.obl z15 (VC.obl z68 (VC.obl z70 (VC.br z71 (VC.obl z15 (VC.obl z73 (VC.obl z75 (VC.obl z57 (VC.obl z59
   (VC.obl z15 (VC.obl True (VC.obl z36 (VC.obl z38 (VC.obl z15 (VC.ok ((z76, ()) = z26)))))))))))) (VC.obl z15 (VC.obl True (VC.obl z36 (VC.obl z38 (VC.obl z15 (VC.ok ((z77, ()) =
   z26))))))))))))) (VC.br z78 (VC.obl z15 (VC.ok ((z41, ()) = z26))) VC.bad)))) (VC.obl z1 (VC.obl z2 (VC.obl z4 (VC.obl z6 (VC.obl z8 (VC.obl z6 (VC.obl z11 (VC.obl z6 (VC.obl z14
   (VC.obl z6 (VC.obl z15 (VC.obl z15 (VC.obl z4 (VC.obl z15 (VC.ok ((z45, ()) = z26))))))))))))))))))) (VC.br (Lv.cmp L BinOp.eql z29 1) (VC.obl z15 (VC.obl z80 (VC.br z82 (VC.obl
   z15 (VC.obl z36 (VC.obl z38 (VC.obl z15 (VC.ok ((z83, ()) = z26)))))) (VC.obl z15 (VC.obl z36 (VC.obl z38 (VC.obl z1 (VC.obl z2 (VC.obl z4 (VC.obl z6 (VC.obl z8 (VC.obl z6
   (VC.obl z11 (VC.obl z6 (VC.obl z14 (VC.obl z6 (VC.obl z15 (VC.obl z15 (VC.obl z4 (VC.obl z15 (VC.ok ((z45, ()) = z26)))))))))))))))))))))) (VC.br (Lv.cmp L BinOp.eql z29 2)
   (VC.obl z15 (VC.obl z80 (VC.br z82 (VC.obl z15 (VC.obl z36 (VC.obl z38 (VC.obl z15 (VC.ok ((z83, ()) = z26)))))) (VC.obl z15 (VC.obl z36 (VC.obl z38 (VC.obl z1 (VC.obl z2 (VC.obl
   z4 (VC.obl z6 (VC.obl z8 (VC.obl z6 (VC.obl z11 (VC.obl z6 (VC.obl z14 (VC.obl z6 (VC.obl z15 (VC.obl z15 (VC.obl z4 (VC.obl z15 (VC.ok ((z45, ()) = z26))))))))))))))))))))))
   (VC.br (Lv.cmp L BinOp.eql z29 3) (VC.obl z15 (VC.obl z80 (VC.br z82 (VC.obl z15 (VC.obl z36 (VC.obl z38 (VC.obl z15 (VC.ok ((z83, ()) = z26)))))) (VC.obl z15 (VC.obl z36 (VC.obl
   z38 (VC.obl z1 (VC.obl z2 (VC.obl z4 (VC.obl z6 (VC.obl z8 (VC.obl z6 (VC.obl z11 (VC.obl z6 (VC.obl z14 (VC.obl z6 (VC.obl z15 (VC.obl z15 (VC.obl z4 (VC.obl z15 (VC.ok ((z45,
   ()) = z26)))))))))))))))))))))) (VC.br (Lv.cmp L BinOp.eql z29 4) (VC.obl z15 (VC.obl z80 (VC.br z82 (VC.obl z15 (VC.obl z36 (VC.obl z38 (VC.obl z15 (VC.ok ((z83, ()) = z26))))))
   (VC.obl z15 (VC.obl z36 (VC.obl z38 (VC.obl z1 (VC.obl z2 (VC.obl z4 (VC.obl z6 (VC.obl z8 (VC.obl z6 (VC.obl z11 (VC.obl z6 (VC.obl z14 (VC.obl z6 (VC.obl z15 (VC.obl z15
   (VC.obl z4 (VC.obl z15 (VC.ok ((z45, ()) = z26)))))))))))))))))))))) (VC.br (Lv.cmp L BinOp.eql z29 5) (VC.obl z15 (VC.obl z80 (VC.br z82 (VC.obl z15 (VC.obl z36 (VC.obl z38
   (VC.obl z15 (VC.ok ((z83, ()) = z26)))))) (VC.obl z15 (VC.obl z36 (VC.obl z38 (VC.obl z1 (VC.obl z2 (VC.obl z4 (VC.obl z6 (VC.obl z8 (VC.obl z6 (VC.obl z11 (VC.obl z6 (VC.obl z14
   (VC.obl z6 (VC.obl z15 (VC.obl z15 (VC.obl z4 (VC.obl z15 (VC.ok ((z45, ()) = z26)))))))))))))))))))))) (VC.br (Lv.cmp L BinOp.eql z29 6) (VC.obl z15 (VC.obl z80 (VC.br z82
   (VC.obl z15 (VC.obl z36 (VC.obl z38 (VC.obl z15 (VC.ok ((z83, ()) = z26)))))) (VC.obl z15 (VC.obl z36 (VC.obl z38 (VC.obl z1 (VC.obl z2 (VC.obl z4 (VC.obl z6 (VC.obl z8 (VC.obl
   z6 (VC.obl z11 (VC.obl z6 (VC.obl z14 (VC.obl z6 (VC.obl z15 (VC.obl z15 (VC.obl z4 (VC.obl z15 (VC.ok ((z45, ()) = z26)))))))))))))))))))))) (VC.br (Lv.cmp L BinOp.eql z29 7)
   (VC.obl z15 (VC.obl z80 (VC.br z82 (VC.obl z15 (VC.obl z36 (VC.obl z38 (VC.obl z15 (VC.ok ((z83, ()) = z26)))))) (VC.obl z15 (VC.obl z36 (VC.obl z38 (VC.obl z1 (VC.obl z2 (VC.obl
   z4 (VC.obl z6 (VC.obl z8 (VC.obl z6 (VC.obl z11 (VC.obl z6 (VC.obl z14 (VC.obl z6 (VC.obl z15 (VC.obl z15 (VC.obl z4 (VC.obl z15 (VC.ok ((z45, ()) = z26))))))))))))))))))))))
   (VC.obl z15 (VC.ok ((z41, ()) = z26))))))))))))))))))))))))))))))))))
theorem n99_eq (L : Lv) (F : BxF) (m : McD) (s : StD) (v : MvD) : vcB L F [76, 86, 92, 101, 126, 127, 134, 141, 142, 143, 144, 145, 160, 161, 162, 163] (D99 a0) (S99 F) (m, s, v, ()) = n99 L F m s v := by kernel_rfl
theorem n99_go (L : Lv) (F : BxF) (m : McD) (s : StD) (v : MvD) (h : VC.holds (n99 L F m s v)) : Holds (vcB L F [76, 86, 92, 101, 126, 127, 134, 141, 142, 143, 144, 145, 160, 161, 162, 163] (D99 a0) (S99 F) (m, s, v, ())) := Holds.of_eq (n99_eq L F m s v) h
def insAt (m : McD) (v t : Int) : InD := (((m.1.2.1[v.toNat]?).getD [])[t.toNat]?).getD (0, 0, 0, 0, 0, 0)
def stepF (strong : Bool) (s : StD) (t : ThD) (i : InD) : Option (List Int × ThD) :=
  let next := IntKind.i64.wrap (t.1 + 1)
  if i.1 = 13 then some (s.1, i.2.2.2.2.2, t.2)
  else if i.1 = 14 then some (s.1, if regF t.2.1 i.2.1 = 0 then i.2.2.2.2.2 else next, t.2)
  else if i.1 = 15 then (if t.2.2.2.1.length + 1 ≤ 20 then some (s.1, next, t.2.1, t.2.2.1, t.2.2.2.1 ++ [regF t.2.1 i.2.1], t.2.2.2.2) else none)
  else if i.1 = 8 ∨ i.1 = 9 ∨ i.1 = 10 ∨ i.1 = 12 then
    (let q := placeF s t i
    if q.2 = false then none
    else if i.1 = 8 then some (s.1, next, t.2.1.set i.2.1.toNat (seesF s t q.1), t.2.2)
    else if i.1 = 9 then (if strong then some (s.1.set q.1.toNat (regF t.2.1 i.2.1), next, t.2) else some (s.1, next, t.2.1, t.2.2.1 ++ [(q.1, regF t.2.1 i.2.1)], t.2.2.2))
    else if i.1 = 10 then (if regF s.1 q.1 = regF t.2.1 i.2.2.2.1 then some (s.1.set q.1.toNat (regF t.2.1 i.2.2.2.2.1), next, t.2.1.set i.2.1.toNat 1, t.2.2) else some (s.1, next, t.2.1.set i.2.1.toNat 0, t.2.2))
    else some (s.1, next, t.2))
  else if i.1 = 1 ∨ i.1 = 2 ∨ i.1 = 3 ∨ i.1 = 4 ∨ i.1 = 5 ∨ i.1 = 6 ∨ i.1 = 7 then
    (let q := workedF t.2.1 i
    if q.2 = false then none else some (s.1, next, t.2.1.set i.2.1.toNat q.1, t.2.2))
  else some (s.1, next, t.2)
def doF (m : McD) (s : StD) (v : MvD) : StD :=
  let t := thAt s v.1
  if v.2 then (s.1.set (kpAt t.2.2.1 0).1.toNat (kpAt t.2.2.1 0).2, s.2.set v.1.toNat (t.1, t.2.1, t.2.2.1.drop 1, t.2.2.2))
  else match stepF m.2 s t (insAt m v.1 t.1) with
    | some x => (x.1, s.2.set v.1.toNat x.2)
    | none => (s.1, s.2.set v.1.toNat (t.1, t.2.1, t.2.2.1, t.2.2.2.1, true))
def pDoF (m : McD) (s : StD) (v : MvD) : Prop :=
  let t := thAt s v.1
  let i := insAt m v.1 t.1
  (0 ≤ v.1 ∧ v.1 < s.2.length) ∧ (s.1.length ≤ 1000000 ∧ s.2.length ≤ 1000000 ∧ t.2.1.length ≤ 1000000 ∧ t.2.2.1.length ≤ 100000 ∧ t.2.2.2.1.length ≤ 100000) ∧
  (v.2 = true → 0 < t.2.2.1.length ∧ inReg s.1 (kpAt t.2.2.1 0).1) ∧
  (v.2 = false → v.1 < m.1.2.1.length ∧ (0 ≤ t.1 ∧ t.1 < ((m.1.2.1[v.1.toNat]?).getD []).length) ∧ inReg t.2.1 i.2.1 ∧ inReg t.2.1 i.2.2.1 ∧ inReg t.2.1 i.2.2.2.1 ∧ inReg t.2.1 i.2.2.2.2.1)
end Go.Proofs.Tryz
