/- What functions of the weak memory compute, proved through the condition generator, and plain facts of it. Conditions: none of ours. -/
import Derived.Calls
import Derived.Orders
import Derived.Below
import Derived.Lib.ItoaNum
import Derived.Laws.Sem
import Derived.Laws.Cells
import Derived.Laws.Entries
import Derived.Laws.StructEq
import Derived.Lib.IfaceEq
import Derived.Lib.IfaceNeq
import Derived.Laws.MakeOwn
import Derived.Laws.AppendOwn
import Derived.Lib.AppendStr
import Derived.Laws.CopyRow
import Derived.Laws.BytesString
import Derived.MapKept
import Derived.OrdersIn
import Derived.RangeFuncCalls
import Derived.RangeFuncLeaves
import Derived.Test.YthfjgaifdadgnaaGreatProg
import Derived.Shelf.SlSortCmp.Insertion
import GoSem.Step
import Derived.Shelf.SlSortCmp.InsertionK
import Derived.Shelf.SlSortCmp.NoneTotal
import Derived.Ground.SlsfProg
import Derived.Sort.LotA
import Derived.Test.YthfjgaifdadgnaaGreatK0
import Derived.Test.YthfjgaifdadgnaaGreatK1
import Derived.Test.YthfjgaifdadgnaaGreatK2
import Derived.Test.YthfjgaifdadgnaaGreatK3
import Derived.Test.YthfjgaifdadgnaaGreatK4
import Derived.Test.YthfjgaifdadgnaaGreatK5
import Derived.Test.YthfjgaifdadgnaaGreatK6
import Derived.Test.YthfjgaifdadgnaaGreatK7
import Derived.Test.YthfjgaifdadgnaaGreatK8
import Derived.Test.YthfjgaifdadgnaaGreatK9
import Derived.Test.YthfjgaifdadgnaaGreatK10
import Derived.Test.YthfjgaifdadgnaaGreatK11
import Derived.Test.YthfjgaifdadgnaaGreatK12
import Derived.Test.YthfjgaifdadgnaaGreatK13
import Derived.Test.YthfjgaifdadgnaaGreatK14
import Derived.Test.YthfjgaifdadgnaaGreatK15
import Derived.Test.YthfjgaifdadgnaaGreatK16
import Derived.Test.YthfjgaifdadgnaaGreatK17
import Derived.Test.YthfjgaifdadgnaaGreatK18
import Derived.Test.YthfjgaifdadgnaaGreatK19
import Derived.Test.YthfjgaifdadgnaaGreatK20
import Derived.Test.YthfjgaifdadgnaaGreatK21
import Derived.Test.YthfjgaifdadgnaaGreatK22
import Derived.Test.YthfjgaifdadgnaaGreatK23
import Derived.Test.YthfjgaifdadgnaaGreatK24
import Derived.Test.YthfjgaifdadgnaaGreatK25
import Derived.Test.YthfjgaifdadgnaaGreatK26
set_option autoImplicit false
set_option linter.all false
namespace Go.Proofs.Tryz
open Go Go.VM
set_option maxRecDepth 100000
theorem at28 : prog.funcs[28]? = some f28 := by kernel_rfl
def pl28 : Nat → Plan
  | _ => []
noncomputable def D28 (ann : Nat → LAnn) : FnD := ⟨f28.body.getD .skip, f28.ntmps, f28.results.toList, pl28, ann⟩
theorem fnok28 (ann : Nat → LAnn) : FnOk prog 28 (D28 ann) := ⟨f28, at28, by kernel_rfl, by kernel_rfl, rfl, rfl, by kernel_rfl⟩
theorem at30 : prog.funcs[30]? = some f30 := by kernel_rfl
def pl30 : Nat → Plan
  | 1 => [(7, []), (0, [7]), (1, [7, 0]), (2, [7, 0]), (3, [7]), (4, [7, 0, 1, 2, 3]), (5, [7, 0, 1, 2, 3]), (6, [7]), (8, [])]
  | _ => []
noncomputable def D30 (ann : Nat → LAnn) : FnD := ⟨f30.body.getD .skip, f30.ntmps, f30.results.toList, pl30, ann⟩
theorem fnok30 (ann : Nat → LAnn) : FnOk prog 30 (D30 ann) := ⟨f30, at30, by kernel_rfl, by kernel_rfl, rfl, rfl, by kernel_rfl⟩
theorem at31 : prog.funcs[31]? = some f31 := by kernel_rfl
def pl31 : Nat → Plan
  | 6 => [(0, []), (1, []), (2, [0, 1]), (3, []), (4, []), (5, []), (6, [0, 1, 2, 3, 4, 5]), (7, [0, 1, 2, 3, 4, 5]), (8, [0, 1, 2, 3, 4, 5, 6, 7]), (9, [0, 1, 2, 3, 4, 5]), (10, [0, 1, 2, 3, 4, 5]), (11, [0, 1, 2, 3, 4, 5]), (12, [])]
  | 11 => [(0, []), (1, []), (2, [0, 1]), (3, []), (4, []), (5, [0, 1, 2, 3, 4]), (6, []), (7, []), (8, [0, 1, 2, 3, 4, 5, 6, 7]), (9, [0, 1, 2, 3, 4, 5, 6, 7]), (10, [0, 1, 2, 3, 4, 5, 6, 7, 8, 9]), (11, [0, 1, 2, 3, 4, 5, 6, 7]), (12, [0, 1, 2, 3, 4, 5, 6, 7]), (13, [0, 1, 2, 3, 4, 5, 6, 7, 8, 9, 10, 11, 12]), (14, [0, 1, 2, 3, 4, 5, 6, 7]), (15, [0, 1, 2, 3, 4, 5, 6, 7]), (16, [])]
  | _ => []
noncomputable def D31 (ann : Nat → LAnn) : FnD := ⟨f31.body.getD .skip, f31.ntmps, f31.results.toList, pl31, ann⟩
theorem fnok31 (ann : Nat → LAnn) : FnOk prog 31 (D31 ann) := ⟨f31, at31, by kernel_rfl, by kernel_rfl, rfl, rfl, by kernel_rfl⟩
end Go.Proofs.Tryz
set_option autoImplicit false
set_option linter.all false
namespace Go.Proofs.Tryz
open Go Go.VM
set_option maxRecDepth 100000
theorem at5 : prog.funcs[5]? = some f5 := by kernel_rfl
def pl5 : Nat → Plan
  | _ => []
noncomputable def D5 (ann : Nat → LAnn) : FnD := ⟨f5.body.getD .skip, f5.ntmps, f5.results.toList, pl5, ann⟩
theorem fnok5 (ann : Nat → LAnn) : FnOk prog 5 (D5 ann) := ⟨f5, at5, by kernel_rfl, by kernel_rfl, rfl, rfl, by kernel_rfl⟩
end Go.Proofs.Tryz
set_option autoImplicit false
set_option linter.all false
namespace Go.Proofs.Tryz
open Go Go.VM
theorem ok_bW {p : WkD} (hp : OkP p) : bW p := ⟨by have := hp.w64; omega, by have := hp.t4; omega, fun l hl => by have := (hp.list l hl).1; omega⟩
end Go.Proofs.Tryz
set_option autoImplicit false
set_option linter.all false
namespace Go.Proofs.Tryz
open Go Go.VM
set_option maxRecDepth 100000
def a30 (L : Lv) (I0 : Ds [.sl (.sl In), It] → Prop) (m0 : Ds [.sl (.sl In), It] → Nat) (I2 : List InD × Unit → Ds [.sl It, It, It] → Prop) (m2 : List InD × Unit → Ds [.sl It, It, It] → Nat) (I4 : List InD × List Int × Unit → Ds [.sl In, It] → Prop) (m4 : List InD × List Int × Unit → Ds [.sl In, It] → Nat) : Nat → LAnn
  | 0 => anH L [1, 2, 4, 5] [(4, some 1, 54, .sl In)] [.br 4 1 (.sl In), .s 5 It] I0 m0
  | 2 => anE L [1, 2, 4, 5, 6, 7, 8, 9] [] [.h (.s 6 (.sl In))] [.r 7 It, .s 8 It, .s 9 It] I2 m2
  | 4 => anE L [1, 2, 4, 5, 6, 7, 10, 11] [(10, none, 56, In)] [.h (.s 6 (.sl In)), .h (.r 7 It)] [.r 10 In, .s 11 It] I4 m4
  | _ => .no
def n30 (L : Lv) (F : BxF) (I0 : Ds [.sl (.sl In), It] → Prop) (m0 : Ds [.sl (.sl In), It] → Nat) (I2 : List InD × Unit → Ds [.sl It, It, It] → Prop) (m2 : List InD × Unit → Ds [.sl It, It, It] → Nat) (I4 : List InD × List Int × Unit → Ds [.sl In, It] → Prop) (m4 : List InD × List Int × Unit → Ds [.sl In, It] → Nat) (p : WkD)  : VC :=
 let z1 := Lv.take L It [] 0;
 let z2 := Prod.fst p;
 let z3 := Lv.add L (Lv.llen L It z1) (Lv.llen L It z2);
 let z4 := Prod.snd p;
 let z5 := Prod.fst z4;
 let z6 := Prod.snd z4;
 let z7 := Lv.app L It z1 z2;
 let z8 := Int × Int × Int × Int × Int × Int;
 let z9 := List z8;
 let z10 := Lv.llen L (Ty.sl In) z5;
 let z11 := (Lv.take L In [(11, 0, 0, 0, 0, 0)] 1);
 let z12 := Lv.llen L In z11;
 let z13 := (Prod.fst (BxF.fenR F p), Prod.snd (BxF.fenR F p), ()); VC.obl (Lv.room L z3 8) (VC.obl (St.mk 99 [(1, V.c (C.ptr 1 0)), (2, V.c (C.ptr 2 0)), (4, V.c (C.ptr 3 0)), (5,
   V.c (C.int IntKind.i64 0))] [(0, Ob.amb), (1, Ob.box 25 [C.sl It z2, C.sl (Ty.sl In) z5, C.int IntKind.i64 z6]), (2, Ob.box 25 [C.nils, C.nils, C.int IntKind.i64 0]), (3, Ob.box
   25 [C.own 5 z3, C.own 7 0, C.int IntKind.i64 z6]), (5, Ob.row 3 It z7), (7, Ob.row 54 (Ty.sl In) [])] 8 = St.mk 99 [(1, V.c (C.ptr 1 0)), (2, V.c (C.ptr 2 0)), (4, V.c (C.ptr 3
   0)), (5, V.c (C.int IntKind.i64 0))] [(0, Ob.amb), (1, Ob.box 25 [C.sl It z2, C.sl (Ty.sl In) z5, C.int IntKind.i64 z6]), (2, Ob.box 25 [C.nils, C.nils, C.int IntKind.i64 0]),
   (3, Ob.box 25 [C.own 5 z3, C.own 7 (Lv.llen L (Ty.sl In) []), C.int IntKind.i64 z6]), (5, Ob.row 3 It z7), (7, Ob.row 54 (Ty.sl In) [])] 8) (VC.obl (I0 ([], 0, ())) (VC.all (List
   z9 × Int × Unit) fun (v1 : List (List (Int × Int × Int × Int × Int × Int)) × Int × Unit) =>
 let z14 := Prod.fst (Prod.snd v1);
 let z15 := Lv.toN L z14;
 let z16 := Lv.get L (Ty.sl In) z5 z15;
 let z17 := Prod.fst v1;
 let z18 := Lv.llen L (Ty.sl In) z17;
 let z19 := (Lv.get L (Ty.sl In) z5 z15, ());
 let z20 := Lv.llen L In z16;
 let z21 := Lv.cast L z20;
 let z22 := Lv.take L (Ty.sl In) z17 z18;
 let z23 := Lv.llen L (Ty.sl In) z22;
 let z24 := Lv.ar L BinOp.add IntKind.i64 z14 1; VC.imp (I0 v1) (VC.br (Lv.cmp L BinOp.lss z14 (Lv.cast L z10)) (VC.obl (Lv.inR L z14 z10) (VC.obl (St.mk 99 [(1, V.c (C.ptr 1 0)),
   (2, V.c (C.ptr 2 0)), (4, V.c (C.ptr 3 0)), (5, V.c (C.int IntKind.i64 z14)), (6, V.c (C.sl In z16)), (7, V.c (C.own 9 0)), (8, V.c (C.int IntKind.i64 0)), (9, V.c (C.int
   IntKind.i64 0))] [(0, Ob.amb), (1, Ob.box 25 [C.sl It z2, C.sl (Ty.sl In) z5, C.int IntKind.i64 z6]), (2, Ob.box 25 [C.nils, C.nils, C.int IntKind.i64 0]), (3, Ob.box 25 [C.own 5
   z3, C.own 7 z18, C.int IntKind.i64 z6]), (5, Ob.row 3 It z7), (7, Ob.row 54 (Ty.sl In) z17), (9, Ob.row 3 It [])] 10 = St.mk 99 [(1, V.c (C.ptr 1 0)), (2, V.c (C.ptr 2 0)), (4,
   V.c (C.ptr 3 0)), (5, V.c (C.int IntKind.i64 z14)), (6, V.c (C.sl In z16)), (7, V.c (C.own 9 (Lv.llen L It []))), (8, V.c (C.int IntKind.i64 0)), (9, V.c (C.int IntKind.i64 0))]
   [(0, Ob.amb), (1, Ob.box 25 [C.sl It z2, C.sl (Ty.sl In) z5, C.int IntKind.i64 z6]), (2, Ob.box 25 [C.nils, C.nils, C.int IntKind.i64 0]), (3, Ob.box 25 [C.own 5 z3, C.own 7 z18,
   C.int IntKind.i64 z6]), (5, Ob.row 3 It z7), (7, Ob.row 54 (Ty.sl In) z17), (9, Ob.row 3 It [])] 10) (VC.obl (I2 z19 ([], 0, 0, ())) (VC.all (List Int × Int × Int × Unit) fun (v2
   : List Int × Int × Int × Unit) =>
 let z25 := Prod.snd v2;
 let z26 := Prod.fst (Prod.snd z25);
 let z27 := Lv.take L It (Prod.fst v2) (Lv.llen L It (Prod.fst v2));
 let z28 := Lv.take L It [Prod.fst z25] 1;
 let z29 := Lv.add L (Lv.llen L It z27) (Lv.llen L It z28);
 let z30 := Lv.room L z29 8;
 let z31 := Prod.fst z25;
 let z32 := Lv.ar L BinOp.add IntKind.i64 z31 1;
 let z33 := Lv.ar L BinOp.add IntKind.i64 z32 1;
 let z34 := Lv.ar L BinOp.add IntKind.i64 z26 1;
 let z35 := Lv.app L It z27 z28;
 let z36 := Lv.llen L It z35;
 let z37 := (Lv.app L It z27 z28, Lv.ar L BinOp.add IntKind.i64 z32 1, Lv.ar L BinOp.add IntKind.i64 z26 1, ());
 let z38 := (Lv.app L It z27 z28, Lv.ar L BinOp.add IntKind.i64 z31 1, Lv.ar L BinOp.add IntKind.i64 z26 1, ());
 let z39 := (Lv.get L (Ty.sl In) z5 z15, Lv.app L It z27 z28, ()); VC.imp (I2 z19 v2) (VC.br (Lv.cmp L BinOp.lss z26 z21) (VC.obl z30 (VC.obl (Lv.inR L z26 z20) (VC.br (Lv.cmp L
   BinOp.eql (Prod.fst (Lv.get L In z16 (Lv.toN L z26))) 9) (VC.ok (St.mk 99 [(1, V.c (C.ptr 1 0)), (2, V.c (C.ptr 2 0)), (4, V.c (C.ptr 3 0)), (5, V.c (C.int IntKind.i64 z14)), (6,
   V.c (C.sl In z16)), (7, V.c (C.own 9 z29)), (8, V.c (C.int IntKind.i64 z33)), (9, V.c (C.int IntKind.i64 z34))] [(0, Ob.amb), (1, Ob.box 25 [C.sl It z2, C.sl (Ty.sl In) z5, C.int
   IntKind.i64 z6]), (2, Ob.box 25 [C.nils, C.nils, C.int IntKind.i64 0]), (3, Ob.box 25 [C.own 5 z3, C.own 7 z18, C.int IntKind.i64 z6]), (5, Ob.row 3 It z7), (7, Ob.row 54 (Ty.sl
   In) z17), (9, Ob.row 3 It z35)] 10 = St.mk 99 [(1, V.c (C.ptr 1 0)), (2, V.c (C.ptr 2 0)), (4, V.c (C.ptr 3 0)), (5, V.c (C.int IntKind.i64 z14)), (6, V.c (C.sl In z16)), (7, V.c
   (C.own 9 z36)), (8, V.c (C.int IntKind.i64 z33)), (9, V.c (C.int IntKind.i64 z34))] [(0, Ob.amb), (1, Ob.box 25 [C.sl It z2, C.sl (Ty.sl In) z5, C.int IntKind.i64 z6]), (2,
   Ob.box 25 [C.nils, C.nils, C.int IntKind.i64 0]), (3, Ob.box 25 [C.own 5 z3, C.own 7 z18, C.int IntKind.i64 z6]), (5, Ob.row 3 It z7), (7, Ob.row 54 (Ty.sl In) z17), (9, Ob.row 3
   It z35)] 10 ∧ I2 z19 z37 ∧ m2 z19 z37 < m2 z19 v2)) (VC.ok (St.mk 99 [(1, V.c (C.ptr 1 0)), (2, V.c (C.ptr 2 0)), (4, V.c (C.ptr 3 0)), (5, V.c (C.int IntKind.i64 z14)), (6, V.c
   (C.sl In z16)), (7, V.c (C.own 9 z29)), (8, V.c (C.int IntKind.i64 z32)), (9, V.c (C.int IntKind.i64 z34))] [(0, Ob.amb), (1, Ob.box 25 [C.sl It z2, C.sl (Ty.sl In) z5, C.int
   IntKind.i64 z6]), (2, Ob.box 25 [C.nils, C.nils, C.int IntKind.i64 0]), (3, Ob.box 25 [C.own 5 z3, C.own 7 z18, C.int IntKind.i64 z6]), (5, Ob.row 3 It z7), (7, Ob.row 54 (Ty.sl
   In) z17), (9, Ob.row 3 It z35)] 10 = St.mk 99 [(1, V.c (C.ptr 1 0)), (2, V.c (C.ptr 2 0)), (4, V.c (C.ptr 3 0)), (5, V.c (C.int IntKind.i64 z14)), (6, V.c (C.sl In z16)), (7, V.c
   (C.own 9 z36)), (8, V.c (C.int IntKind.i64 z32)), (9, V.c (C.int IntKind.i64 z34))] [(0, Ob.amb), (1, Ob.box 25 [C.sl It z2, C.sl (Ty.sl In) z5, C.int IntKind.i64 z6]), (2,
   Ob.box 25 [C.nils, C.nils, C.int IntKind.i64 0]), (3, Ob.box 25 [C.own 5 z3, C.own 7 z18, C.int IntKind.i64 z6]), (5, Ob.row 3 It z7), (7, Ob.row 54 (Ty.sl In) z17), (9, Ob.row 3
   It z35)] 10 ∧ I2 z19 z38 ∧ m2 z19 z38 < m2 z19 v2))))) (VC.obl z30 (VC.obl (St.mk 99 [(1, V.c (C.ptr 1 0)), (2, V.c (C.ptr 2 0)), (4, V.c (C.ptr 3 0)), (5, V.c (C.int IntKind.i64
   z14)), (6, V.c (C.sl In z16)), (7, V.c (C.own 11 z29)), (10, V.c (C.own 13 0)), (11, V.c (C.int IntKind.i64 0))] [(0, Ob.amb), (1, Ob.box 25 [C.sl It z2, C.sl (Ty.sl In) z5,
   C.int IntKind.i64 z6]), (2, Ob.box 25 [C.nils, C.nils, C.int IntKind.i64 0]), (3, Ob.box 25 [C.own 5 z3, C.own 7 z18, C.int IntKind.i64 z6]), (5, Ob.row 3 It z7), (7, Ob.row 54
   (Ty.sl In) z17), (10, Ob.row 3 It [Prod.fst z25]), (11, Ob.row 3 It z35), (13, Ob.row 56 In [])] 14 = St.mk 99 [(1, V.c (C.ptr 1 0)), (2, V.c (C.ptr 2 0)), (4, V.c (C.ptr 3 0)),
   (5, V.c (C.int IntKind.i64 z14)), (6, V.c (C.sl In z16)), (7, V.c (C.own 11 z29)), (10, V.c (C.own 13 (Lv.llen L In []))), (11, V.c (C.int IntKind.i64 0))] [(0, Ob.amb), (1,
   Ob.box 25 [C.sl It z2, C.sl (Ty.sl In) z5, C.int IntKind.i64 z6]), (2, Ob.box 25 [C.nils, C.nils, C.int IntKind.i64 0]), (3, Ob.box 25 [C.own 5 z3, C.own 7 z18, C.int IntKind.i64
   z6]), (5, Ob.row 3 It z7), (7, Ob.row 54 (Ty.sl In) z17), (10, Ob.row 3 It [Prod.fst z25]), (11, Ob.row 3 It z35), (13, Ob.row 56 In [])] 14) (VC.obl (I4 z39 ([], 0, ())) (VC.all
   (List z8 × Int × Unit) fun (v3 : List (Int × Int × Int × Int × Int × Int) × Int × Unit) =>
 let z40 := Prod.fst (Prod.snd v3);
 let z41 := Lv.get L In z16 (Lv.toN L z40);
 let z42 := Prod.fst z41;
 let z43 := BxF.fields F z42;
 let z44 := Prod.snd z41;
 let z45 := Prod.snd z44;
 let z46 := Prod.snd z45;
 let z47 := Prod.snd z46;
 let z48 := Prod.snd z47;
 let z49 := Lv.toN L z48;
 let z50 := Prod.fst v3;
 let z51 := Lv.llen L In z50;
 let z52 := Lv.take L In z50 z51;
 let z53 := Lv.llen L In z52;
 let z54 := (Lv.take L In [(Prod.fst z41, Prod.fst z44, Prod.fst z45, Prod.fst z46, Prod.fst z47, Lv.get L It z35 z49)] 1);
 let z55 := Lv.add L z53 (Lv.llen L In z54);
 let z56 := Lv.cmp L BinOp.eql z42 9;
 let z57 := Lv.app L In z52 z54;
 let z58 := Lv.take L In z57 z55;
 let z59 := Lv.add L (Lv.llen L In z58) z12;
 let z60 := Lv.ar L BinOp.add IntKind.i64 z40 1;
 let z61 := Lv.app L In z58 z11;
 let z62 := (Lv.app L In z58 z11, Lv.ar L BinOp.add IntKind.i64 z40 1, ());
 let z63 := (Lv.app L In z52 z54, Lv.ar L BinOp.add IntKind.i64 z40 1, ());
 let z64 := (Lv.take L In [(Prod.fst z41, Prod.fst z44, Prod.fst z45, Prod.fst z46, Prod.fst z47, Prod.snd z47)] 1);
 let z65 := Lv.add L z53 (Lv.llen L In z64);
 let z66 := Lv.app L In z52 z64;
 let z67 := Lv.take L In z66 z65;
 let z68 := Lv.add L (Lv.llen L In z67) z12;
 let z69 := Lv.app L In z67 z11;
 let z70 := (Lv.app L In z67 z11, Lv.ar L BinOp.add IntKind.i64 z40 1, ());
 let z71 := (Lv.app L In z52 z64, Lv.ar L BinOp.add IntKind.i64 z40 1, ());
 let z72 := Lv.take L (Ty.sl In) [Lv.take L In z50 z51] 1;
 let z73 := Lv.add L z23 (Lv.llen L (Ty.sl In) z72);
 let z74 := Lv.app L (Ty.sl In) z22 z72;
 let z75 := (Lv.app L (Ty.sl In) z22 z72, Lv.ar L BinOp.add IntKind.i64 z14 1, ()); VC.imp (I4 z39 v3) (VC.br (Lv.cmp L BinOp.lss z40 z21) (VC.obl (Lv.inR L z40 z20) (VC.obl True
   (VC.obl (BxF.pHas F z43) (VC.br (BxF.has F z43 74) (VC.obl (Lv.inR L z48 z29) (VC.obl (Lv.ltN L z49 z36) (VC.obl (Lv.room L z55 48) (VC.br z56 (VC.obl (Lv.room L z59 48) (VC.ok
   (St.mk 99 [(1, V.c (C.ptr 1 0)), (2, V.c (C.ptr 2 0)), (4, V.c (C.ptr 3 0)), (5, V.c (C.int IntKind.i64 z14)), (6, V.c (C.sl In z16)), (7, V.c (C.own 11 z29)), (10, V.c (C.own 13
   z59)), (11, V.c (C.int IntKind.i64 z60))] [(0, Ob.amb), (1, Ob.box 25 [C.sl It z2, C.sl (Ty.sl In) z5, C.int IntKind.i64 z6]), (2, Ob.box 25 [C.nils, C.nils, C.int IntKind.i64
   0]), (3, Ob.box 25 [C.own 5 z3, C.own 7 z18, C.int IntKind.i64 z6]), (5, Ob.row 3 It z7), (7, Ob.row 54 (Ty.sl In) z17), (10, Ob.row 3 It [Prod.fst z25]), (11, Ob.row 3 It z35),
   (13, Ob.row 56 In z61)] 14 = St.mk 99 [(1, V.c (C.ptr 1 0)), (2, V.c (C.ptr 2 0)), (4, V.c (C.ptr 3 0)), (5, V.c (C.int IntKind.i64 z14)), (6, V.c (C.sl In z16)), (7, V.c (C.own
   11 z29)), (10, V.c (C.own 13 (Lv.llen L In z61))), (11, V.c (C.int IntKind.i64 z60))] [(0, Ob.amb), (1, Ob.box 25 [C.sl It z2, C.sl (Ty.sl In) z5, C.int IntKind.i64 z6]), (2,
   Ob.box 25 [C.nils, C.nils, C.int IntKind.i64 0]), (3, Ob.box 25 [C.own 5 z3, C.own 7 z18, C.int IntKind.i64 z6]), (5, Ob.row 3 It z7), (7, Ob.row 54 (Ty.sl In) z17), (10, Ob.row
   3 It [Prod.fst z25]), (11, Ob.row 3 It z35), (13, Ob.row 56 In z61)] 14 ∧ I4 z39 z62 ∧ m4 z39 z62 < m4 z39 v3))) (VC.ok (St.mk 99 [(1, V.c (C.ptr 1 0)), (2, V.c (C.ptr 2 0)), (4,
   V.c (C.ptr 3 0)), (5, V.c (C.int IntKind.i64 z14)), (6, V.c (C.sl In z16)), (7, V.c (C.own 11 z29)), (10, V.c (C.own 13 z55)), (11, V.c (C.int IntKind.i64 z60))] [(0, Ob.amb),
   (1, Ob.box 25 [C.sl It z2, C.sl (Ty.sl In) z5, C.int IntKind.i64 z6]), (2, Ob.box 25 [C.nils, C.nils, C.int IntKind.i64 0]), (3, Ob.box 25 [C.own 5 z3, C.own 7 z18, C.int
   IntKind.i64 z6]), (5, Ob.row 3 It z7), (7, Ob.row 54 (Ty.sl In) z17), (10, Ob.row 3 It [Prod.fst z25]), (11, Ob.row 3 It z35), (13, Ob.row 56 In z57)] 14 = St.mk 99 [(1, V.c
   (C.ptr 1 0)), (2, V.c (C.ptr 2 0)), (4, V.c (C.ptr 3 0)), (5, V.c (C.int IntKind.i64 z14)), (6, V.c (C.sl In z16)), (7, V.c (C.own 11 z29)), (10, V.c (C.own 13 (Lv.llen L In
   z57))), (11, V.c (C.int IntKind.i64 z60))] [(0, Ob.amb), (1, Ob.box 25 [C.sl It z2, C.sl (Ty.sl In) z5, C.int IntKind.i64 z6]), (2, Ob.box 25 [C.nils, C.nils, C.int IntKind.i64
   0]), (3, Ob.box 25 [C.own 5 z3, C.own 7 z18, C.int IntKind.i64 z6]), (5, Ob.row 3 It z7), (7, Ob.row 54 (Ty.sl In) z17), (10, Ob.row 3 It [Prod.fst z25]), (11, Ob.row 3 It z35),
   (13, Ob.row 56 In z57)] 14 ∧ I4 z39 z63 ∧ m4 z39 z63 < m4 z39 v3)))))) (VC.obl (Lv.room L z65 48) (VC.br z56 (VC.obl (Lv.room L z68 48) (VC.ok (St.mk 99 [(1, V.c (C.ptr 1 0)),
   (2, V.c (C.ptr 2 0)), (4, V.c (C.ptr 3 0)), (5, V.c (C.int IntKind.i64 z14)), (6, V.c (C.sl In z16)), (7, V.c (C.own 11 z29)), (10, V.c (C.own 13 z68)), (11, V.c (C.int
   IntKind.i64 z60))] [(0, Ob.amb), (1, Ob.box 25 [C.sl It z2, C.sl (Ty.sl In) z5, C.int IntKind.i64 z6]), (2, Ob.box 25 [C.nils, C.nils, C.int IntKind.i64 0]), (3, Ob.box 25 [C.own
   5 z3, C.own 7 z18, C.int IntKind.i64 z6]), (5, Ob.row 3 It z7), (7, Ob.row 54 (Ty.sl In) z17), (10, Ob.row 3 It [Prod.fst z25]), (11, Ob.row 3 It z35), (13, Ob.row 56 In z69)] 14
   = St.mk 99 [(1, V.c (C.ptr 1 0)), (2, V.c (C.ptr 2 0)), (4, V.c (C.ptr 3 0)), (5, V.c (C.int IntKind.i64 z14)), (6, V.c (C.sl In z16)), (7, V.c (C.own 11 z29)), (10, V.c (C.own
   13 (Lv.llen L In z69))), (11, V.c (C.int IntKind.i64 z60))] [(0, Ob.amb), (1, Ob.box 25 [C.sl It z2, C.sl (Ty.sl In) z5, C.int IntKind.i64 z6]), (2, Ob.box 25 [C.nils, C.nils,
   C.int IntKind.i64 0]), (3, Ob.box 25 [C.own 5 z3, C.own 7 z18, C.int IntKind.i64 z6]), (5, Ob.row 3 It z7), (7, Ob.row 54 (Ty.sl In) z17), (10, Ob.row 3 It [Prod.fst z25]), (11,
   Ob.row 3 It z35), (13, Ob.row 56 In z69)] 14 ∧ I4 z39 z70 ∧ m4 z39 z70 < m4 z39 v3))) (VC.ok (St.mk 99 [(1, V.c (C.ptr 1 0)), (2, V.c (C.ptr 2 0)), (4, V.c (C.ptr 3 0)), (5, V.c
   (C.int IntKind.i64 z14)), (6, V.c (C.sl In z16)), (7, V.c (C.own 11 z29)), (10, V.c (C.own 13 z65)), (11, V.c (C.int IntKind.i64 z60))] [(0, Ob.amb), (1, Ob.box 25 [C.sl It z2,
   C.sl (Ty.sl In) z5, C.int IntKind.i64 z6]), (2, Ob.box 25 [C.nils, C.nils, C.int IntKind.i64 0]), (3, Ob.box 25 [C.own 5 z3, C.own 7 z18, C.int IntKind.i64 z6]), (5, Ob.row 3 It
   z7), (7, Ob.row 54 (Ty.sl In) z17), (10, Ob.row 3 It [Prod.fst z25]), (11, Ob.row 3 It z35), (13, Ob.row 56 In z66)] 14 = St.mk 99 [(1, V.c (C.ptr 1 0)), (2, V.c (C.ptr 2 0)),
   (4, V.c (C.ptr 3 0)), (5, V.c (C.int IntKind.i64 z14)), (6, V.c (C.sl In z16)), (7, V.c (C.own 11 z29)), (10, V.c (C.own 13 (Lv.llen L In z66))), (11, V.c (C.int IntKind.i64
   z60))] [(0, Ob.amb), (1, Ob.box 25 [C.sl It z2, C.sl (Ty.sl In) z5, C.int IntKind.i64 z6]), (2, Ob.box 25 [C.nils, C.nils, C.int IntKind.i64 0]), (3, Ob.box 25 [C.own 5 z3, C.own
   7 z18, C.int IntKind.i64 z6]), (5, Ob.row 3 It z7), (7, Ob.row 54 (Ty.sl In) z17), (10, Ob.row 3 It [Prod.fst z25]), (11, Ob.row 3 It z35), (13, Ob.row 56 In z66)] 14 ∧ I4 z39
   z71 ∧ m4 z39 z71 < m4 z39 v3)))))))) (VC.br (Lv.cmp L BinOp.gtr (Lv.cast L z51) 200) (VC.ok ((([], [], 0), false, ()) = z13)) (VC.obl (Lv.room L z73 24) (VC.ok (St.mk 99 [(1, V.c
   (C.ptr 1 0)), (2, V.c (C.ptr 2 0)), (4, V.c (C.ptr 3 0)), (5, V.c (C.int IntKind.i64 z24))] [(0, Ob.amb), (1, Ob.box 25 [C.sl It z2, C.sl (Ty.sl In) z5, C.int IntKind.i64 z6]),
   (2, Ob.box 25 [C.nils, C.nils, C.int IntKind.i64 0]), (3, Ob.box 25 [C.own 5 z3, C.own 7 z73, C.int IntKind.i64 z6]), (5, Ob.row 3 It z7), (7, Ob.row 54 (Ty.sl In) z74)] 8 =
   St.mk 99 [(1, V.c (C.ptr 1 0)), (2, V.c (C.ptr 2 0)), (4, V.c (C.ptr 3 0)), (5, V.c (C.int IntKind.i64 z24))] [(0, Ob.amb), (1, Ob.box 25 [C.sl It z2, C.sl (Ty.sl In) z5, C.int
   IntKind.i64 z6]), (2, Ob.box 25 [C.nils, C.nils, C.int IntKind.i64 0]), (3, Ob.box 25 [C.own 5 z3, C.own 7 (Lv.llen L (Ty.sl In) z74), C.int IntKind.i64 z6]), (5, Ob.row 3 It
   z7), (7, Ob.row 54 (Ty.sl In) z74)] 8 ∧ I0 z75 ∧ m0 z75 < m0 v1)))))))))))))) (VC.ok (((Lv.take L It z7 z3, Lv.take L (Ty.sl In) z17 z18, Prod.snd z4), true, ()) = z13))))))
theorem n30_eq (L : Lv) (F : BxF) (I0 : Ds [.sl (.sl In), It] → Prop) (m0 : Ds [.sl (.sl In), It] → Nat) (I2 : List InD × Unit → Ds [.sl It, It, It] → Prop) (m2 : List InD × Unit → Ds [.sl It, It, It] → Nat) (I4 : List InD × List Int × Unit → Ds [.sl In, It] → Prop) (m4 : List InD × List Int × Unit → Ds [.sl In, It] → Nat) (p : WkD) : vcC L F [77, 78] (D30 (a30 L I0 m0 I2 m2 I4 m4)) (S30 F) (p, ()) = n30 L F I0 m0 I2 m2 I4 m4 p := by kernel_rfl
theorem n30_go (L : Lv) (F : BxF) (I0 : Ds [.sl (.sl In), It] → Prop) (m0 : Ds [.sl (.sl In), It] → Nat) (I2 : List InD × Unit → Ds [.sl It, It, It] → Prop) (m2 : List InD × Unit → Ds [.sl It, It, It] → Nat) (I4 : List InD × List Int × Unit → Ds [.sl In, It] → Prop) (m4 : List InD × List Int × Unit → Ds [.sl In, It] → Nat) (p : WkD) (h : VC.holds (n30 L F I0 m0 I2 m2 I4 m4 p)) : Holds (vcC L F [77, 78] (D30 (a30 L I0 m0 I2 m2 I4 m4)) (S30 F) (p, ())) := Holds.of_eq (n30_eq L F I0 m0 I2 m2 I4 m4 p) h
def fenRF (p : WkD) : WkD × Bool := if p.2.1.any tooF = true then (([], [], 0), false) else ((p.1, p.2.1.map fenL, p.2.2), true)
theorem fields_size (op : Int) : (fieldsF op).size ≤ 1000000 := by
  unfold fieldsF
  repeat' split
  all_goals decide
theorem hasJ {op : Int} (h : 1 ≤ op ∧ op ≤ 15) : hasF (fieldsF op) 74 = decide (op = 13 ∨ op = 14) := by
  obtain rfl | rfl | rfl | rfl | rfl | rfl | rfl | rfl | rfl | rfl | rfl | rfl | rfl | rfl | rfl : op = 1 ∨ op = 2 ∨ op = 3 ∨ op = 4 ∨ op = 5 ∨ op = 6 ∨ op = 7 ∨ op = 8 ∨ op = 9 ∨ op = 10 ∨ op = 11 ∨ op = 12 ∨ op = 13 ∨ op = 14 ∨ op = 15 := by omega
  all_goals kernel_rfl
theorem ok30 (F : BxF) (h : F.fenR = fenRF) (h3 : F.has = hasF) (h4 : F.fields = fieldsF) (hp : F.okW = OkP) (q : F.pHas = fun s => s.size ≤ 1000000) (k1 : SpecOk prog 77 (S77 F)) (k2 : SpecOk prog 78 (S78 F)) : SpecOk prog 30 (S30 F) := by
  refine contract_by hm hE D30 fnok30 _ fun (z : WkD × Unit) hpre => ?_
  obtain ⟨p, ⟨⟩⟩ := z
  have o1 : F.okW p := hpre
  rw [hp] at o1
  have g2 : p.2.1.length ≤ 1000000 := by have := o1.t4; omega
  let I0 : List (List InD) × Int × Unit → Prop := fun x => (0 ≤ x.2.1 ∧ x.2.1 ≤ p.2.1.length) ∧ x.1 = (p.2.1.take x.2.1.toNat).map fenL ∧ (p.2.1.drop x.2.1.toNat).any tooF = p.2.1.any tooF
  let m0 : List (List InD) × Int × Unit → Nat := fun x => (p.2.1.length - x.2.1).toNat
  let I2 : List InD × Unit → List Int × Int × Int × Unit → Prop := fun e x => (0 ≤ x.2.2.1 ∧ x.2.2.1 ≤ e.1.length) ∧ x.1 = toN e.1 x.2.2.1.toNat ∧ x.2.1 = offN e.1 x.2.2.1.toNat
  let m2 : List InD × Unit → List Int × Int × Int × Unit → Nat := fun e x => (e.1.length - x.2.2.1).toNat
  let I4 : List InD × List Int × Unit → List InD × Int × Unit → Prop := fun e x => (0 ≤ x.2.1 ∧ x.2.1 ≤ e.1.length) ∧ x.1 = (exN e.1 x.2.1.toNat).map (relab e.2.1)
  let m4 : List InD × List Int × Unit → List InD × Int × Unit → Nat := fun e x => (e.1.length - x.2.1).toNat
  refine pack _ 3 (a30 Lv.std I0 m0 I2 m2 I4 m4) (only_tab (T := cT F) (l := [77, 78]) (tb_cons (tb_sp k1 (by kernel_rfl)) (tb_cons (tb_sp k2 (by kernel_rfl)) tb_nil))) ?_
  refine n30_go Lv.std F I0 m0 I2 m2 I4 m4 p ?_
  have e2 : ∀ (l : List (List InD)) (k : Int), Lv.std.get (.sl In) l k.toNat = (l[k.toNat]?).getD [] := fun _ _ => rfl
  have e3 : ∀ (l : List InD) (k : Int), Lv.std.get In l k.toNat = insIn l k := fun _ _ => rfl
  have e4 : ∀ (l : List Int) (k : Int), Lv.std.get It l k.toNat = regF l k := fun _ _ => rfl
  simp only [n30, VC.holds, std_cmp, std_cast, std_llen, std_toN, e2, e3, e4, std_inR, std_ltN, std_ar_add, std_app, std_setl, std_take, std_room, std_add, List.take_length, List.take_succ_cons, List.take_zero, List.take_nil, List.nil_append, List.length_append, List.length_cons, List.length_nil, List.length_set, Nat.zero_add, cmp_lss_t, cmp_lss_f, cmp_gtr_t, cmp_gtr_f, cmp_eql_t, cmp_eql_f, cmp_neq_t, cmp_neq_f, h, h3, h4, q, pe5, Prod.mk.injEq, and_true, true_and]
  have ht4 := o1.t4
  have h64 := o1.w64
  refine ⟨⟨by omega, by omega⟩, ⟨⟨Int.le_refl 0, by show (0 : Int) ≤ p.2.1.length; omega⟩, rfl, rfl⟩, ?_⟩
  rintro ⟨a, x, ⟨⟩⟩ ⟨⟨i1, i2⟩, i3, i4⟩
  simp only at i1 i2 i3 i4 ⊢
  obtain ⟨k, rfl⟩ := nat_of i1
  rw [Int.toNat_natCast] at i3 i4 ⊢
  have hal : a.length = k := by rw [i3, List.length_map, List.length_take]; omega
  refine ⟨fun hlt => ⟨⟨i1, hlt⟩, ?_⟩, fun hge => ?_⟩
  · have hk : k < p.2.1.length := by omega
    have hl := o1.list _ (List.getElem_mem hk)
    rw [any_drop tooF _ k [] hk] at i4
    rw [List.getElem?_eq_getElem hk, Option.getD_some] at i4 ⊢
    generalize hlg : p.2.1[k] = l at *
    have h200 := hl.1
    refine ⟨⟨⟨Int.le_refl 0, by show (0 : Int) ≤ l.length; omega⟩, rfl, rfl⟩, ?_⟩
    rintro ⟨to, ex, y, ⟨⟩⟩ ⟨⟨j1, j2⟩, j3, j4⟩
    simp only at j1 j2 j3 j4 ⊢
    obtain ⟨j, rfl⟩ := nat_of j1
    rw [Int.toNat_natCast] at j3 j4
    have htl : to.length = j := by rw [j3, toN_len]
    have hof := offN_le l j
    refine ⟨fun hlt2 => ?_, fun hge2 => ?_⟩
    · have w1 : IntKind.i64.wrap (ex + 1) = ex + 1 := wrap_i64 (by omega) (by omega)
      have w2 : IntKind.i64.wrap (ex + 1 + 1) = ex + 1 + 1 := wrap_i64 (by omega) (by omega)
      rw [wr hlt2 (by omega), w1, w2]
      have m2l : ∀ u v : _, m2 (l, ()) (u, v, ((j + 1 : Nat) : Int), ()) < m2 (l, ()) (to, ex, (j : Int), ()) := fun u v => by show ((l.length : Int) - ((j + 1 : Nat) : Int)).toNat < ((l.length : Int) - (j : Int)).toNat; omega
      have nx : ∀ v, v = (offN l (j + 1) : Int) → I2 (l, ()) (to ++ [ex], v, ((j + 1 : Nat) : Int), ()) := fun v hv => by
        refine ⟨⟨by show (0 : Int) ≤ ((j + 1 : Nat) : Int); omega, by show ((j + 1 : Nat) : Int) ≤ (l.length : Int); omega⟩, ?_, ?_⟩
        · show to ++ [ex] = toN l ((j + 1 : Nat) : Int).toNat
          rw [Int.toNat_natCast, toN_succ, j3, j4]
        · show v = (offN l ((j + 1 : Nat) : Int).toNat : Int)
          rw [Int.toNat_natCast]; exact hv
      refine ⟨⟨by omega, by omega⟩, ⟨j1, hlt2⟩, fun c9 => ⟨nx _ ?_, m2l _ _⟩, fun c9 => ⟨nx _ ?_, m2l _ _⟩⟩
      · rw [offN, if_pos c9, j4]; omega
      · rw [offN, if_neg c9, j4]; omega
    · have hj : j = l.length := by omega
      subst hj
      have hto : to ++ [ex] = toN l (l.length + 1) := by rw [toN_succ, j3, j4]
      rw [hto, htl]
      refine ⟨⟨by omega, by omega⟩, ⟨⟨Int.le_refl 0, by show (0 : Int) ≤ l.length; omega⟩, rfl⟩, ?_⟩
      rintro ⟨w, y, ⟨⟩⟩ ⟨⟨n1, n2⟩, n3⟩
      simp only at n1 n2 n3 ⊢
      obtain ⟨n, rfl⟩ := nat_of n1
      rw [Int.toNat_natCast] at n3
      have hwl : w.length = offN l n := by rw [n3, List.length_map, exN_len]
      have hofn := offN_le l n
      refine ⟨fun hlt3 => ?_, fun hge3 => ?_⟩
      · have hn : n < l.length := by omega
        have hi := insOk_ok (hl.2 _ (insIn_mem (l := l) (k := n) ⟨n1, hlt3⟩))
        rw [wr hlt3 (by omega)]
        have m4l : ∀ u, m4 (l, toN l (l.length + 1), ()) (u, ((n + 1 : Nat) : Int), ()) < m4 (l, toN l (l.length + 1), ()) (w, (n : Int), ()) := fun u => by show ((l.length : Int) - ((n + 1 : Nat) : Int)).toNat < ((l.length : Int) - (n : Int)).toNat; omega
        have nx : ∀ u, u = (exN l (n + 1)).map (relab (toN l (l.length + 1))) → I4 (l, toN l (l.length + 1), ()) (u, ((n + 1 : Nat) : Int), ()) := fun u hu => by
          refine ⟨⟨by show (0 : Int) ≤ ((n + 1 : Nat) : Int); omega, by show ((n + 1 : Nat) : Int) ≤ (l.length : Int); omega⟩, ?_⟩
          show u = (exN l ((n + 1 : Nat) : Int).toNat).map (relab (toN l (l.length + 1)))
          rw [Int.toNat_natCast]; exact hu
        generalize hig : insIn l n = i at *
        have hfen : relab (toN l (l.length + 1)) fence = fence := rfl
        have rm1 : w.length + 1 ≤ 140737488355328 ∧ (w.length + 1) * 48 ≤ 140737488355328 := ⟨by omega, by omega⟩
        have rm2 : ∀ z : InD, (List.take (w.length + 1) (w ++ [z])).length + 1 ≤ 140737488355328 ∧ ((List.take (w.length + 1) (w ++ [z])).length + 1) * 48 ≤ 140737488355328 := fun z => by
          rw [tk1, List.length_append, List.length_cons, List.length_nil]; exact ⟨by omega, by omega⟩
        have gx : exN l (n + 1) = exN l n ++ (if i.1 = 9 then [i, fence] else [i]) := by rw [exN, hig]
        refine ⟨⟨n1, hlt3⟩, fields_size _, fun hJ => ?_, fun hJ => ?_⟩
        · rw [hasJ hi.op] at hJ
          have h13 := of_decide_eq_true hJ
          have hN := hi.j h13
          have er : relab (toN l (l.length + 1)) i = (i.1, i.2.1, i.2.2.1, i.2.2.2.1, i.2.2.2.2.1, regF (toN l (l.length + 1)) i.2.2.2.2.2) := by rw [relab, if_pos h13]
          refine ⟨⟨hN.1, by omega⟩, by omega, rm1, fun c9 => by omega, fun c9 => ⟨nx _ ?_, m4l _⟩⟩
          rw [gx, if_neg c9, List.map_append, ← n3, List.map_cons, List.map_nil, er]
        · rw [hasJ hi.op] at hJ
          have h13 := of_decide_eq_false hJ
          have er : relab (toN l (l.length + 1)) i = i := by rw [relab, if_neg h13]
          refine ⟨rm1, fun c9 => ⟨rm2 _, nx _ ?_, m4l _⟩, fun c9 => ⟨nx _ ?_, m4l _⟩⟩
          · rw [gx, if_pos c9, List.map_append, ← n3, List.map_cons, List.map_cons, List.map_nil, er, hfen, tk1, List.append_assoc]; rfl
          · rw [gx, if_neg c9, List.map_append, ← n3, List.map_cons, List.map_nil, er]
      · have hn : n = l.length := by omega
        subst hn
        refine ⟨fun hbig => ?_, fun hsm => ?_⟩
        · rw [show tooF l = true from decide_eq_true (by omega), Bool.true_or] at i4
          rw [fenRF, if_pos i4.symm]; exact ⟨rfl, rfl⟩
        · rw [show tooF l = false from decide_eq_false (by omega), Bool.false_or] at i4
          rw [wr hlt g2, hal]
          refine ⟨⟨by omega, by omega⟩, ⟨⟨by show (0 : Int) ≤ ((k + 1 : Nat) : Int); omega, by show ((k + 1 : Nat) : Int) ≤ (p.2.1.length : Int); omega⟩, ?_, ?_⟩, by show ((p.2.1.length : Int) - ((k + 1 : Nat) : Int)).toNat < ((p.2.1.length : Int) - (k : Int)).toNat; omega⟩
          · show a ++ [w] = (p.2.1.take ((k + 1 : Nat) : Int).toNat).map fenL
            rw [Int.toNat_natCast, List.take_succ, List.getElem?_eq_getElem hk, hlg, i3, n3, List.map_append]; rfl
          · show (p.2.1.drop ((k + 1 : Nat) : Int).toNat).any tooF = _
            rw [Int.toNat_natCast]; exact i4
  · rw [show k = p.2.1.length by omega, List.drop_length] at i4
    rw [fenRF, if_neg (by rw [← i4]; simp), i3, show k = p.2.1.length by omega, List.take_length]
    exact ⟨rfl, rfl⟩
end Go.Proofs.Tryz
set_option autoImplicit false
set_option linter.all false
namespace Go.Proofs.Tryz
open Go Go.VM
set_option maxRecDepth 100000
def n28 (L : Lv) (F : BxF) (I : Ds [It] → Prop) (mu : Ds [It] → Nat) (p : WkD)  : VC :=
 let z1 := Prod.fst p;
 let z2 := Prod.fst (Prod.snd p);
 let z3 := Prod.snd (Prod.snd p);
 let z4 := Lv.llen L (Ty.sl In) z2;
 let z5 := Lv.cast L z4;
 let z6 := (BxF.long F p, ()); VC.obl (St.mk 28 [(1, V.c (C.ptr 1 0)), (3, V.c (C.int IntKind.i64 0))] [(0, Ob.amb), (1, Ob.box 25 [C.sl It z1, C.sl (Ty.sl In) z2, C.int IntKind.i64
   z3])] 2 = St.mk 28 [(1, V.c (C.ptr 1 0)), (3, V.c (C.int IntKind.i64 0))] [(0, Ob.amb), (1, Ob.box 25 [C.sl It z1, C.sl (Ty.sl In) z2, C.int IntKind.i64 z3])] 2) (VC.obl (I (0,
   ())) (VC.all (Int × Unit) fun (v1 : Int × Unit) =>
 let z7 := Prod.fst v1;
 let z8 := Lv.ar L BinOp.add IntKind.i64 z7 1;
 let z9 := (Lv.ar L BinOp.add IntKind.i64 z7 1, ()); VC.imp (I v1) (VC.br (Lv.cmp L BinOp.lss z7 z5) (VC.obl (Lv.inR L z7 z4) (VC.br (Lv.cmp L BinOp.gtr (Lv.cast L (Lv.llen L In
   (Lv.get L (Ty.sl In) z2 (Lv.toN L z7)))) 205) (VC.ok ((false, ()) = z6)) (VC.ok (St.mk 28 [(1, V.c (C.ptr 1 0)), (3, V.c (C.int IntKind.i64 z8))] [(0, Ob.amb), (1, Ob.box 25
   [C.sl It z1, C.sl (Ty.sl In) z2, C.int IntKind.i64 z3])] 2 = St.mk 28 [(1, V.c (C.ptr 1 0)), (3, V.c (C.int IntKind.i64 z8))] [(0, Ob.amb), (1, Ob.box 25 [C.sl It z1, C.sl (Ty.sl
   In) z2, C.int IntKind.i64 z3])] 2 ∧ I z9 ∧ mu z9 < mu v1)))) (VC.br (Lv.cmp L BinOp.leq (Lv.cast L (Lv.llen L It z1)) 70) (VC.br (Lv.cmp L BinOp.leq z5 6) (VC.ok ((true, ()) =
   z6)) (VC.ok ((false, ()) = z6))) (VC.ok ((false, ()) = z6))))))
theorem n28_eq (L : Lv) (F : BxF) (I : Ds [It] → Prop) (mu : Ds [It] → Nat) (p : WkD) : vcC L F [] (D28 (aT3 L I mu)) (S28 F) (p, ()) = n28 L F I mu p := by kernel_rfl
theorem n28_go (L : Lv) (F : BxF) (I : Ds [It] → Prop) (mu : Ds [It] → Nat) (p : WkD) (h : VC.holds (n28 L F I mu p)) : Holds (vcC L F [] (D28 (aT3 L I mu)) (S28 F) (p, ())) := Holds.of_eq (n28_eq L F I mu p) h
def longL2 (l : List InD) : Bool := decide ((l.length : Int) ≤ 205)
def longF (p : WkD) : Bool := p.2.1.all longL2 && decide ((p.1.length : Int) ≤ 70) && decide ((p.2.1.length : Int) ≤ 6)
theorem ok28 (F : BxF) (h : F.long = longF) (hp : F.bwT = bwTF) : SpecOk prog 28 (S28 F) := by
  refine contract_by hm hE D28 fnok28 _ fun (z : WkD × Unit) hpre => ?_
  obtain ⟨p, ⟨⟩⟩ := z
  have hpre' : F.bwT p := hpre
  rw [hp] at hpre'
  obtain ⟨g1, g2, g3⟩ := hpre'
  let I : Int × Unit → Prop := Iv p.2.1.length fun k => (p.2.1.drop k).all longL2 = p.2.1.all longL2
  refine pack _ 3 (aT3 Lv.std I (Mu p.2.1.length)) (only_tab (T := cT F) (l := []) tb_nil) ?_
  refine n28_go Lv.std F I (Mu p.2.1.length) p ?_
  have e2 : ∀ (l : List (List InD)) (k : Int), Lv.std.get (.sl In) l k.toNat = (l[k.toNat]?).getD [] := fun _ _ => rfl
  simp only [n28, VC.holds, std_cmp, std_cast, std_llen, std_toN, e2, std_inR, std_ar_add, cmp_lss_t, cmp_lss_f, cmp_gtr_t, cmp_gtr_f, cmp_leq_t, cmp_leq_f, h, and_true, true_and]
  have et : ∀ l, longL2 l = true ↔ l.length ≤ 205 := fun l => by unfold longL2; rw [decide_eq_true_eq]; omega
  refine ⟨Iv.zero rfl, fun x hx => ?_⟩
  obtain ⟨k, rfl, hk, i3⟩ := Iv.elim hx
  simp only [Int.toNat_natCast]
  refine ⟨fun hlt => ⟨⟨by omega, hlt⟩, fun hb => ?_, fun hb => ?_⟩, fun hge => ?_⟩
  · rw [all_drop longL2 _ k [] (by omega), show longL2 ((p.2.1[k]?).getD []) = false from decide_eq_false (by omega), Bool.false_and] at i3
    unfold longF; rw [← i3]; rfl
  · rw [all_drop longL2 _ k [] (by omega), show longL2 ((p.2.1[k]?).getD []) = true from decide_eq_true hb, Bool.true_and] at i3
    rw [wrB hlt g2]
    exact ⟨Iv.mk (by omega) i3, Mu.lt (by omega)⟩
  · rw [show k = p.2.1.length by omega, List.drop_length] at i3
    have i3 : true = p.2.1.all longL2 := i3
    unfold longF
    rw [← i3]
    refine ⟨fun h1 => ⟨fun h2 => ?_, fun h2 => ?_⟩, fun h1 => ?_⟩
    · rw [decide_eq_true h1, decide_eq_true h2]; rfl
    · rw [decide_eq_false (show ¬ (p.2.1.length : Int) ≤ 6 by omega), Bool.and_false]
    · rw [decide_eq_false (show ¬ (p.1.length : Int) ≤ 70 by omega)]; rfl
end Go.Proofs.Tryz
set_option autoImplicit false
set_option linter.all false
namespace Go.Proofs.Tryz
open Go Go.VM
set_option maxRecDepth 100000
def a31 (L : Lv) (I : Ds [It] → Prop) (mu : Ds [It] → Nat) (I2 : Int × Unit → Ds [It] → Prop) (m2 : Int × Unit → Ds [It] → Nat) : Nat → LAnn
  | 0 => anH L [2, 3, 5] [] [.s 5 It] I mu
  | 2 => anE L [2, 3, 5, 6] [] [.h (.s 5 It)] [.s 6 It] I2 m2
  | _ => .no
def n31 (L : Lv) (F : BxF) (I : Ds [It] → Prop) (mu : Ds [It] → Nat) (I2 : Int × Unit → Ds [It] → Prop) (m2 : Int × Unit → Ds [It] → Nat) (a b : WkD)  : VC :=
 let z1 := Prod.snd (Prod.snd a);
 let z2 := Prod.snd (Prod.snd b);
 let z3 := (BxF.sameW F a b, ());
 let z4 := Prod.fst a;
 let z5 := Prod.fst b;
 let z6 := Prod.fst (Prod.snd a);
 let z7 := Lv.llen L (Ty.sl In) z6;
 let z8 := Lv.cast L z7;
 let z9 := Prod.fst (Prod.snd b);
 let z10 := Lv.llen L (Ty.sl In) z9; VC.br (Lv.cmp L BinOp.neq z1 z2) (VC.ok ((false, ()) = z3)) (VC.obl (BxF.bl F z4 ∧ BxF.bl F z5) (VC.br (BxF.sameL F z4 z5) (VC.br (Lv.cmp L
   BinOp.neq z8 (Lv.cast L z10)) (VC.ok ((false, ()) = z3)) (VC.obl (St.mk 76 [(2, V.c (C.ptr 1 0)), (3, V.c (C.ptr 2 0)), (5, V.c (C.int IntKind.i64 0))] [(0, Ob.amb), (1, Ob.box
   25 [C.sl It z4, C.sl (Ty.sl In) z6, C.int IntKind.i64 z1]), (2, Ob.box 25 [C.sl It z5, C.sl (Ty.sl In) z9, C.int IntKind.i64 z2])] 3 = St.mk 76 [(2, V.c (C.ptr 1 0)), (3, V.c
   (C.ptr 2 0)), (5, V.c (C.int IntKind.i64 0))] [(0, Ob.amb), (1, Ob.box 25 [C.sl It z4, C.sl (Ty.sl In) z6, C.int IntKind.i64 z1]), (2, Ob.box 25 [C.sl It z5, C.sl (Ty.sl In) z9,
   C.int IntKind.i64 z2])] 3) (VC.obl (I (0, ())) (VC.all (Int × Unit) fun (v1 : Int × Unit) =>
 let z11 := Prod.fst v1;
 let z12 := Lv.inR L z11 z7;
 let z13 := Lv.inR L z11 z10;
 let z14 := Lv.toN L z11;
 let z15 := Lv.get L (Ty.sl In) z6 z14;
 let z16 := Lv.llen L In z15;
 let z17 := Lv.cast L z16;
 let z18 := Lv.get L (Ty.sl In) z9 z14;
 let z19 := Lv.llen L In z18;
 let z20 := (Prod.fst v1, ());
 let z21 := Lv.ar L BinOp.add IntKind.i64 z11 1;
 let z22 := (Lv.ar L BinOp.add IntKind.i64 z11 1, ()); VC.imp (I v1) (VC.br (Lv.cmp L BinOp.lss z11 z8) (VC.obl z12 (VC.obl z13 (VC.br (Lv.cmp L BinOp.neq z17 (Lv.cast L z19))
   (VC.ok ((false, ()) = z3)) (VC.obl (St.mk 76 [(2, V.c (C.ptr 1 0)), (3, V.c (C.ptr 2 0)), (5, V.c (C.int IntKind.i64 z11)), (6, V.c (C.int IntKind.i64 0))] [(0, Ob.amb), (1,
   Ob.box 25 [C.sl It z4, C.sl (Ty.sl In) z6, C.int IntKind.i64 z1]), (2, Ob.box 25 [C.sl It z5, C.sl (Ty.sl In) z9, C.int IntKind.i64 z2])] 3 = St.mk 76 [(2, V.c (C.ptr 1 0)), (3,
   V.c (C.ptr 2 0)), (5, V.c (C.int IntKind.i64 z11)), (6, V.c (C.int IntKind.i64 0))] [(0, Ob.amb), (1, Ob.box 25 [C.sl It z4, C.sl (Ty.sl In) z6, C.int IntKind.i64 z1]), (2,
   Ob.box 25 [C.sl It z5, C.sl (Ty.sl In) z9, C.int IntKind.i64 z2])] 3) (VC.obl (I2 z20 (0, ())) (VC.all (Int × Unit) fun (v2 : Int × Unit) =>
 let z23 := Prod.fst v2;
 let z24 := Lv.toN L z23;
 let z25 := Lv.get L In z15 z24;
 let z26 := Lv.get L In z18 z24;
 let z27 := Prod.snd z25;
 let z28 := Prod.snd z26;
 let z29 := Prod.snd z27;
 let z30 := Prod.snd z28;
 let z31 := Prod.snd z29;
 let z32 := Prod.snd z30;
 let z33 := Prod.snd z31;
 let z34 := Prod.snd z32;
 let z35 := Lv.ar L BinOp.add IntKind.i64 z23 1;
 let z36 := (Lv.ar L BinOp.add IntKind.i64 z23 1, ()); VC.imp (I2 z20 v2) (VC.obl z12 (VC.br (Lv.cmp L BinOp.lss z23 z17) (VC.obl z12 (VC.obl (Lv.inR L z23 z16) (VC.obl z13 (VC.obl
   (Lv.inR L z23 z19) (VC.br (Lv.bnot L (Lv.band L (Lv.cmp L BinOp.eql (Prod.fst z25) (Prod.fst z26)) (Lv.band L (Lv.cmp L BinOp.eql (Prod.fst z27) (Prod.fst z28)) (Lv.band L
   (Lv.cmp L BinOp.eql (Prod.fst z29) (Prod.fst z30)) (Lv.band L (Lv.cmp L BinOp.eql (Prod.fst z31) (Prod.fst z32)) (Lv.band L (Lv.cmp L BinOp.eql (Prod.fst z33) (Prod.fst z34))
   (Lv.band L (Lv.cmp L BinOp.eql (Prod.snd z33) (Prod.snd z34)) true))))))) (VC.ok ((false, ()) = z3)) (VC.ok (St.mk 76 [(2, V.c (C.ptr 1 0)), (3, V.c (C.ptr 2 0)), (5, V.c (C.int
   IntKind.i64 z11)), (6, V.c (C.int IntKind.i64 z35))] [(0, Ob.amb), (1, Ob.box 25 [C.sl It z4, C.sl (Ty.sl In) z6, C.int IntKind.i64 z1]), (2, Ob.box 25 [C.sl It z5, C.sl (Ty.sl
   In) z9, C.int IntKind.i64 z2])] 3 = St.mk 76 [(2, V.c (C.ptr 1 0)), (3, V.c (C.ptr 2 0)), (5, V.c (C.int IntKind.i64 z11)), (6, V.c (C.int IntKind.i64 z35))] [(0, Ob.amb), (1,
   Ob.box 25 [C.sl It z4, C.sl (Ty.sl In) z6, C.int IntKind.i64 z1]), (2, Ob.box 25 [C.sl It z5, C.sl (Ty.sl In) z9, C.int IntKind.i64 z2])] 3 ∧ I2 z20 z36 ∧ m2 z20 z36 < m2 z20
   v2))))))) (VC.ok (St.mk 76 [(2, V.c (C.ptr 1 0)), (3, V.c (C.ptr 2 0)), (5, V.c (C.int IntKind.i64 z21))] [(0, Ob.amb), (1, Ob.box 25 [C.sl It z4, C.sl (Ty.sl In) z6, C.int
   IntKind.i64 z1]), (2, Ob.box 25 [C.sl It z5, C.sl (Ty.sl In) z9, C.int IntKind.i64 z2])] 3 = St.mk 76 [(2, V.c (C.ptr 1 0)), (3, V.c (C.ptr 2 0)), (5, V.c (C.int IntKind.i64
   z21))] [(0, Ob.amb), (1, Ob.box 25 [C.sl It z4, C.sl (Ty.sl In) z6, C.int IntKind.i64 z1]), (2, Ob.box 25 [C.sl It z5, C.sl (Ty.sl In) z9, C.int IntKind.i64 z2])] 3 ∧ I z22 ∧ mu
   z22 < mu v1)))))))))) (VC.ok ((true, ()) = z3))))))) (VC.ok ((false, ()) = z3))))
theorem n31_eq (L : Lv) (F : BxF) (I : Ds [It] → Prop) (mu : Ds [It] → Nat) (I2 : Int × Unit → Ds [It] → Prop) (m2 : Int × Unit → Ds [It] → Nat) (a b : WkD) : vcC L F [27] (D31 (a31 L I mu I2 m2)) (S31 F) (a, b, ()) = n31 L F I mu I2 m2 a b := by kernel_rfl
theorem n31_go (L : Lv) (F : BxF) (I : Ds [It] → Prop) (mu : Ds [It] → Nat) (I2 : Int × Unit → Ds [It] → Prop) (m2 : Int × Unit → Ds [It] → Nat) (a b : WkD) (h : VC.holds (n31 L F I mu I2 m2 a b)) : Holds (vcC L F [27] (D31 (a31 L I mu I2 m2)) (S31 F) (a, b, ())) := Holds.of_eq (n31_eq L F I mu I2 m2 a b) h
theorem eqIn (u v : InD) : (VM.compare BinOp.eql u.1 v.1 && (VM.compare BinOp.eql u.2.1 v.2.1 && (VM.compare BinOp.eql u.2.2.1 v.2.2.1 && (VM.compare BinOp.eql u.2.2.2.1 v.2.2.2.1 && (VM.compare BinOp.eql u.2.2.2.2.1 v.2.2.2.2.1 && (VM.compare BinOp.eql u.2.2.2.2.2 v.2.2.2.2.2 && true)))))) = decide (u = v) := by
  obtain ⟨u1, u2, u3, u4, u5, u6⟩ := u
  obtain ⟨v1, v2, v3, v4, v5, v6⟩ := v
  show ((u1 == v1) && ((u2 == v2) && ((u3 == v3) && ((u4 == v4) && ((u5 == v5) && ((u6 == v6) && true)))))) = _
  rw [Bool.eq_iff_iff]; simp
theorem ok31 (F : BxF) (h : F.sameW = fun a b => decide (a = b)) (h1 : F.sameL = fun a b => decide (a = b)) (hp : F.bw = bW) (q : F.bl = bL) (k1 : SpecOk prog 27 (S27 F)) : SpecOk prog 31 (S31 F) := by
  refine contract_by hm hE D31 fnok31 _ fun (z : WkD × WkD × Unit) hpre => ?_
  obtain ⟨a, b, ⟨⟩⟩ := z
  have hpre' : F.bw a ∧ F.bw b := hpre
  rw [hp] at hpre'
  obtain ⟨⟨a1, a2, a3⟩, b1, b2, b3⟩ := hpre'
  let I : Int × Unit → Prop := Iv a.2.1.length fun k => (a.2.1.drop k = b.2.1.drop k ↔ a = b)
  let I2 : Int × Unit → Int × Unit → Prop := fun e => Iv (listAt (a, false) e.1).length fun k => ((listAt (a, false) e.1).drop k = (listAt (b, false) e.1).drop k ↔ listAt (a, false) e.1 = listAt (b, false) e.1)
  let m2 : Int × Unit → Int × Unit → Nat := fun e => Mu (listAt (a, false) e.1).length
  refine pack _ 3 (a31 Lv.std I (Mu a.2.1.length) I2 m2) (only_tab (T := cT F) (l := [27]) (tb_cons (tb_sp k1 (by kernel_rfl)) tb_nil)) ?_
  refine n31_go Lv.std F I (Mu a.2.1.length) I2 m2 a b ?_
  have e1 : ∀ k : Int, Lv.std.get (.sl In) a.2.1 k.toNat = listAt (a, false) k := fun _ => rfl
  have e2 : ∀ k : Int, Lv.std.get (.sl In) b.2.1 k.toNat = listAt (b, false) k := fun _ => rfl
  have e3 : ∀ (l : List InD) (k : Int), Lv.std.get In l k.toNat = insIn l k := fun _ _ => rfl
  simp only [n31, VC.holds, std_cmp, std_cast, std_llen, std_toN, std_beq, std_band, std_bnot, e1, e2, e3, std_inR, std_ar_add, cmp_lss_t, cmp_lss_f, cmp_neq_t, cmp_neq_f, h, h1, q, Prod.mk.injEq, and_true, true_and]
  have fls : a ≠ b → false = decide (a = b) := fun e => (decide_eq_false e).symm
  refine ⟨fun hn => fls fun e => hn (by rw [e]), fun h3 => ⟨⟨a1, b1⟩, fun h0 => ⟨fun hn => fls fun e => hn (by rw [e]), fun hlen => ⟨Iv.zero ⟨fun e => ?_, fun e => by rw [e]⟩, fun x hx => ?_⟩⟩, fun h0 => fls fun e => of_decide_eq_false h0 (by rw [e])⟩⟩
  · exact Prod.ext (of_decide_eq_true h0) (Prod.ext e h3)
  · obtain ⟨k, rfl, hk, i3⟩ := Iv.elim hx
    refine ⟨fun hlt => ?_, fun hge => ?_⟩
    · have k1 : k < a.2.1.length := by omega
      have k2 : k < b.2.1.length := by omega
      have ea : listAt (a, false) (k : Int) = a.2.1[k] := by show (a.2.1[(k : Int).toNat]?).getD [] = _; rw [Int.toNat_natCast, List.getElem?_eq_getElem k1]; rfl
      have eb : listAt (b, false) (k : Int) = b.2.1[k] := by show (b.2.1[(k : Int).toNat]?).getD [] = _; rw [Int.toNat_natCast, List.getElem?_eq_getElem k2]; rfl
      rw [List.drop_eq_getElem_cons k1, List.drop_eq_getElem_cons k2] at i3
      have nek : a.2.1[k] ≠ b.2.1[k] → false = decide (a = b) := fun e => fls fun e' => e (by have := i3.2 e'; injection this)
      have J : I2 ((k : Int), ()) = Iv a.2.1[k].length fun j => (a.2.1[k].drop j = b.2.1[k].drop j ↔ a.2.1[k] = b.2.1[k]) := by show Iv (listAt (a, false) (k : Int)).length (fun j => ((listAt (a, false) (k : Int)).drop j = (listAt (b, false) (k : Int)).drop j ↔ listAt (a, false) (k : Int) = listAt (b, false) (k : Int))) = _; rw [ea, eb]
      have M : m2 ((k : Int), ()) = Mu a.2.1[k].length := by show Mu (listAt (a, false) (k : Int)).length = _; rw [ea]
      have la := a3 _ (List.getElem_mem k1)
      simp only [ea, eb, J, M]
      refine ⟨⟨by omega, hlt⟩, ⟨by omega, by omega⟩, fun hn => nek fun e => hn (by rw [e]), fun hl => ⟨Iv.zero Iff.rfl, fun y hy => ?_⟩⟩
      obtain ⟨j, rfl, hj, j3⟩ := Iv.elim hy
      refine ⟨⟨by omega, hlt⟩, fun hlt2 => ?_, fun hge2 => ?_⟩
      · have j1 : j < a.2.1[k].length := by omega
        have j2 : j < b.2.1[k].length := by omega
        rw [List.drop_eq_getElem_cons j1, List.drop_eq_getElem_cons j2] at j3
        have ia : insIn a.2.1[k] (j : Int) = a.2.1[k][j] := by show (a.2.1[k][(j : Int).toNat]?).getD _ = _; rw [Int.toNat_natCast, List.getElem?_eq_getElem j1]; rfl
        have ib : insIn b.2.1[k] (j : Int) = b.2.1[k][j] := by show (b.2.1[k][(j : Int).toNat]?).getD _ = _; rw [Int.toNat_natCast, List.getElem?_eq_getElem j2]; rfl
        simp only [ia, ib, eqIn, Bool.not_eq_true', Bool.not_eq_false']
        refine ⟨⟨by omega, hlt⟩, ⟨by omega, hlt2⟩, ⟨by omega, by omega⟩, ⟨by omega, by omega⟩, fun he => nek fun e => ?_, fun he => ?_⟩
        · have := j3.2 e; injection this with e1 _; exact of_decide_eq_false he e1
        · rw [wr hlt2 la]
          refine ⟨Iv.mk (by omega) ?_, Mu.lt j1⟩
          rw [← j3, of_decide_eq_true he]; simp only [List.cons.injEq, true_and]
      · rw [wr hlt a2]
        have e0 : a.2.1[k] = b.2.1[k] := by rw [← j3, List.drop_eq_nil_of_le (by omega), List.drop_eq_nil_of_le (by omega)]
        refine ⟨Iv.mk (by omega) ?_, Mu.lt k1⟩
        rw [← i3, e0]; simp only [List.cons.injEq, true_and]
    · have e0 : a = b := i3.1 (by rw [List.drop_eq_nil_of_le (by omega), List.drop_eq_nil_of_le (by omega)])
      exact (decide_eq_true e0).symm
end Go.Proofs.Tryz
set_option autoImplicit false
set_option linter.all false
namespace Go.Proofs.Tryz
open Go Go.VM
set_option maxRecDepth 100000
noncomputable def oL (G : AwF) : List (Nat × FT) := [(18, .spec (S18 G))]
def LW : VM.Spec := ⟨[Wk], [.bool], fun x => bwTF x.1, fun _ => (true, ())⟩
def n5 (L : Lv) (F : BxF) (G : AwF) (p : WkD)  : VC :=
 let z1 := (Prod.fst p, Prod.fst (Prod.snd p), Prod.snd (Prod.snd p));
 let z2 := BxF.bw F z1;
 let z3 := BxF.check F z1;
 let z4 := BxF.fenR F z1;
 let z5 := BxF.fenE F z1;
 let z6 := Prod.snd z5;
 let z7 := Lv.cmp L BinOp.eql z6 z3;
 let z8 := Prod.fst z5;
 let z9 := Prod.snd z8;
 let z10 := (Prod.fst z8, Prod.fst z9, Prod.snd z9);
 let z11 := Prod.fst z4;
 let z12 := Prod.snd z11;
 let z13 := (Prod.fst z11, Prod.fst z12, Prod.snd z12);
 let z14 := (BxF.bw F z10 ∧ BxF.bw F z13);
 let z15 := BxF.sameW F z10 z13; VC.obl (BxF.bwT F z1) (VC.br (BxF.long F z1) (VC.obl z2 (VC.obl z2 (VC.obl z2 (VC.br (Lv.cmp L BinOp.eql z3 0) (VC.obl (BxF.okW F z1) (VC.br
   (Prod.snd z4) (VC.br z7 (VC.obl z14 (VC.br z15 (VC.obl True (VC.br (AwF.aw G) (VC.ok ((true, ()) = (true, ()))) (VC.ok ((false, ()) = (true, ()))))) (VC.ok ((false, ()) = (true,
   ()))))) (VC.ok ((false, ()) = (true, ())))) (VC.br (Lv.cmp L BinOp.eql z6 5) (VC.obl z14 (VC.br z15 (VC.obl True (VC.br (AwF.aw G) (VC.ok ((true, ()) = (true, ()))) (VC.ok
   ((false, ()) = (true, ()))))) (VC.ok ((false, ()) = (true, ()))))) (VC.ok ((false, ()) = (true, ())))))) (VC.br z7 (VC.obl (BxF.bw F z10 ∧ BxF.bw F ([], [], 0)) (VC.br (BxF.sameW
   F z10 ([], [], 0)) (VC.obl True (VC.br (AwF.aw G) (VC.ok ((true, ()) = (true, ()))) (VC.ok ((false, ()) = (true, ()))))) (VC.ok ((false, ()) = (true, ()))))) (VC.ok ((false, ())
   = (true, ())))))))) (VC.obl True (VC.br (AwF.aw G) (VC.ok ((true, ()) = (true, ()))) (VC.ok ((false, ()) = (true, ()))))))
theorem n5_eq (L : Lv) (F : BxF) (G : AwF) (p : WkD) : vcO L F (oL G) [18, 20, 22, 28, 29, 30, 31] 3 (D5 a0) LW (p, ()) = n5 L F G p := by kernel_rfl
theorem n5_go (L : Lv) (F : BxF) (G : AwF) (p : WkD) (h : VC.holds (n5 L F G p)) : Holds (vcO L F (oL G) [18, 20, 22, 28, 29, 30, 31] 3 (D5 a0) LW (p, ())) := Holds.of_eq (n5_eq L F G p) h
theorem long_bW {p : WkD} (h : longF p = true) : bW p := by
  unfold longF at h
  simp only [Bool.and_eq_true, decide_eq_true_eq] at h
  obtain ⟨⟨h1, h2⟩, h3⟩ := h
  refine ⟨by omega, by omega, fun l hl => ?_⟩
  have := of_decide_eq_true (List.all_eq_true.1 h1 l hl)
  omega
theorem bW0 : bW ([], [], 0) := ⟨by decide, by decide, fun _ h => by cases h⟩
theorem fen_bW {p : WkD} (hp : OkP p) (ht : ¬ p.2.1.any tooF = true) : bW (p.1, p.2.1.map fenL, p.2.2) := by
  have hb := ok_bW hp
  refine ⟨hb.1, by rw [List.length_map]; exact hb.2.1, fun l hl => ?_⟩
  obtain ⟨m, hm, rfl⟩ := List.mem_map.1 hl
  have h2 := (hp.list m hm).1
  have := offN_le m m.length
  unfold fenL
  rw [List.length_map, exN_len]
  omega
theorem ok5 (F : BxF) (G : AwF) (g : G.aw = true) (h1 : F.long = longF) (h2 : F.check = checkF) (h3 : F.fenE = fenF) (h4 : F.fenR = fenRF) (h5 : F.sameW = fun a b => decide (a = b)) (q1 : F.bwT = bwTF) (q2 : F.bw = bW) (q3 : F.okW = OkP)
    (k1 : SpecOk prog 18 (S18 G)) (k2 : SpecOk prog 20 (S20 F)) (k3 : SpecOk prog 22 (S22 F)) (k4 : SpecOk prog 28 (S28 F)) (k5 : SpecOk prog 29 (S29 F)) (k6 : SpecOk prog 30 (S30 F)) (k7 : SpecOk prog 31 (S31 F)) : SpecOk prog 5 LW := by
  refine contract_by hm hE D5 fnok5 _ fun (z : WkD × Unit) hpre => ?_
  obtain ⟨p, ⟨⟩⟩ := z
  have hpre : bwTF p := hpre
  refine pack _ 3 a0 (only_tab (T := tabO (oL G) (cT F)) (l := [18, 20, 22, 28, 29, 30, 31]) (tb_cons (tb_sp k1 (by kernel_rfl)) (tb_cons (tb_sp k2 (by kernel_rfl)) (tb_cons (tb_sp k3 (by kernel_rfl)) (tb_cons (tb_sp k4 (by kernel_rfl)) (tb_cons (tb_sp k5 (by kernel_rfl)) (tb_cons (tb_sp k6 (by kernel_rfl)) (tb_cons (tb_sp k7 (by kernel_rfl)) tb_nil)))))))) ?_
  refine n5_go Lv.std F G p ?_
  simp only [n5, VC.holds, std_cmp, std_scmp, std_ar_add, std_ar_sub, std_ar_mul, std_ar, std_dv, std_shf, std_conv, std_mn, std_mx, std_beq, std_bnot, std_band, std_scat, std_byte, std_ext, std_slen, std_strOf, std_bytes, std_llen, std_get, std_setl, std_app, std_take, std_drop, std_rep, std_mhas, std_mval, std_mput, std_cast, std_toN, std_sub, std_add, std_inR, std_le3, std_leN, std_ltN, std_ne0, std_nonneg, std_catOk, std_room, std_mkOk, std_nth, std_cnt, cmp_lss_t, cmp_lss_f, cmp_leq_t, cmp_leq_f, cmp_gtr_t, cmp_gtr_f, cmp_geq_t, cmp_geq_f, cmp_eql_t, cmp_eql_f, cmp_neq_t, cmp_neq_f, scmp_eql_t, scmp_eql_f, scmp_neq_t, scmp_neq_f, dflt_int, dflt_bool, dflt_str, dflt_sl, dflt_pair, g, h1, h2, h3, h4, h5, q1, q2, q3, pe5, Prod.mk.injEq, and_true, true_and]
  refine ⟨hpre, fun hl => ?_, fun _ => by simp⟩
  have hb := long_bW hl
  by_cases c : checkF p = 0
  · have op := (okP_iff p).1 c
    by_cases ht : p.2.1.any tooF = true
    · have t1 : fenF p = (([], [], 0), 5) := by rw [fenF, if_neg (by simpa using c), if_pos ht]
      have t2 : fenRF p = (([], [], 0), false) := by rw [fenRF, if_pos ht]
      simp [c, hb, op, t1, t2, bW0]
    · have t1 : fenF p = ((p.1, p.2.1.map fenL, p.2.2), 0) := by rw [fenF, if_neg (by simpa using c), if_neg ht]
      have t2 : fenRF p = ((p.1, p.2.1.map fenL, p.2.2), true) := by rw [fenRF, if_neg ht]
      have t3 : bW (p.1, p.2.1.map fenL, p.2.2) := fen_bW op ht
      simp [c, hb, op, t1, t2, t3]
  · have t1 : fenF p = (([], [], 0), checkF p) := by rw [fenF, if_pos c]
    simp [c, hb, t1, bW0]
end Go.Proofs.Tryz
set_option autoImplicit false
set_option linter.all false
namespace Go.Proofs.Tryz
open Go Go.VM
set_option maxRecDepth 100000
noncomputable def FF : BxF where
  within := withinF
  isNum := isNumF
  truth := truthF
  has := hasF
  fields := fieldsF
  shape := shapeF
  isIns := insOkF
  worked := workedF
  place := placeF
  value := default
  sees := seesF
  pRegs := fun l i => inReg l i.2.2.1 ∧ inReg l i.2.2.2.1
  pPlace := fun _ t i => inReg t.2.1 i.2.2.1
  pSees := fun s t p => inReg s.1 p ∧ t.2.2.1.length ≤ 1000000
  back := backF
  pBack := fun l => l.length ≤ 1000000
  see := default
  pSee := default
  waits := waitsF
  pW := fun _ s t i => pWF s t i
  can := canF
  pC := pCF
  each := eachF
  pE := pEF
  moves := movesF
  ended := endedF
  endOf := endOfF
  pEnd := fun m s => bS s ∧ s.2.length ≤ m.1.2.1.length
  first := firstF
  pFirst := fun p => p.1.length ≤ 1000000 ∧ p.2.1.length ≤ 1000000
  pHas := fun s => s.size ≤ 1000000
  pLi := fun l => l.length ≤ 1000000
  pLt := fun l => l.length ≤ 1000000
  pLk := fun l => l.length ≤ 1000000
  doo := doF
  pDo := pDoF
  step := default
  bl := bL
  bw := bW
  bs := default
  be := sEn
  ble := fun l => l.length ≤ 1000000 ∧ ∀ e ∈ l, sEn e
  nums := numsF
  check := checkF
  isTh := default
  pTh := default
  isSt := default
  pSt := default
  ckSt := default
  begE := default
  mvE := default
  ok := default
  okD := default
  okT := default
  doE := default
  endE := default
  endR := default
  seesE := default
  runE := default
  runR := default
  pRunR := default
  fenE := fenF
  fenR := fenRF
  okW := OkP
  sameL := fun a b => decide (a = b)
  sameE := fun a b => decide (a = b)
  sameEs := fun a b => decide (a = b)
  sameS := default
  sameW := fun a b => decide (a = b)
  sameM := default
  sameK := default
  bm := default
  bk := default
  isMv := default
  isIn := default
  cmpL := cmpLF
  cmpLL := cmpLLF
  cmpE := cmpEF
  cmpR := lexR
  cmpRE := cmpREF
  hows := fun e => e.2.2
  thin := default
  long := longF
  thinS := default
  bwT := bwTF
  pCl := default
  or1 := orF3
  bll := fun l => l.length ≤ 1000000 ∧ ∀ x ∈ l, x.length ≤ 1000000
  put := putF
  pPut := fun b l => b.length ≤ 100000000 ∧ l.length ≤ 1000000
  comp := compL
  sort := fun l => List.mergeSort (α := EnD) l fun x y => !(Go.Proofs.ltOf cmpEF) y x
  rev := List.reverse
  key := keyF
  pKey := fun s => s.1.length ≤ 64 ∧ s.2.length ≤ 4 ∧ ∀ t ∈ s.2, t.2.1.length ≤ 100 ∧ t.2.2.1.length ≤ 100 ∧ t.2.2.2.1.length ≤ 100
  all := allF
  okM := fun m => OkP m.1
  ends := endsG (fun l => List.mergeSort (α := EnD) l fun x y => !(Go.Proofs.ltOf cmpEF) y x) compL
  bM := fun m => bW m.1
  way := wayG
  pWay := fun p _ => bW p
  over := default
  waR := default
  okW2 := default
  bsT := default
noncomputable def GG : AwF where
  ins := insF
  cr := ([0, 0], [[insF 1 1 [1], insF 9 0 [1], insF 8 1 [2], insF 15 0 [2]], [insF 1 1 [1], insF 9 1 [1], insF 8 0 [2], insF 15 0 [2]]], 1)
  ce := fun a b => ([1, 1], [[a], [b]], [1, 1])
  aw := true
theorem h86 : SpecOk prog 86 (S86 FF) := ok86 FF rfl
theorem h92 : SpecOk prog 92 (S92 FF) := ok92 FF rfl rfl h86
theorem h120 : SpecOk prog 120 (S120 FF) := ok120 FF rfl
theorem h84 : SpecOk prog 84 (S84 FF) := ok84 FF rfl rfl rfl rfl h86 h92 h120
theorem h87 : SpecOk prog 87 (S87 FF) := ok87 FF rfl rfl rfl h92
theorem h38 : SpecOk prog 38 (S22 FF) := ok38 FF rfl rfl rfl rfl rfl rfl h84 h86 h87
theorem h76 : XOk prog 76 (R76 FF).x := ok76 FF rfl
theorem h79 : SpecOk prog 79 (S79 FF) := ok79 FF rfl rfl rfl h76
theorem h146 : ItOk prog 146 (I146 FF) := ok146 FF rfl rfl
theorem h101 : SpecOk prog 101 (S101 FF) := ok101 FF rfl rfl rfl rfl h146
theorem h143 : SpecOk prog 143 (S143 FF) := ok143 FF rfl rfl rfl h86
theorem h157 : SpecOk prog 157 (S157 FF) := ok157 FF rfl rfl rfl rfl rfl rfl h101 h143
theorem h136 : SpecOk prog 136 (S136 FF) := ok136 FF rfl rfl rfl rfl h157
theorem h135 : ItOk prog 135 (I135 FF) := ok135 FF rfl rfl rfl rfl h136
theorem h90 : SpecOk prog 90 (S90 FF) := ok90 FF rfl rfl rfl h135
theorem h134 : SpecOk prog 134 (S134 FF) := ok134 FF rfl
theorem h141 : XOk prog 141 (R141 FF).x := ok141 FF rfl
theorem h142 : XOk prog 142 (R142 FF).x := ok142 FF rfl
theorem h144 : XOk prog 144 (mapcX acT) := ok144 FF
theorem h145 : SpecOk prog 145 (S145 FF) := ok145 FF rfl rfl rfl rfl h92 h134
theorem h99 : SpecOk prog 99 (S99 FF) := ok99 FF rfl rfl rfl rfl rfl rfl rfl rfl rfl rfl rfl rfl rfl rfl h76 h86 h92 h101 h134 h141 h142 h143 h144 h145
theorem h133 : XOk prog 133 (R133 FF).x := ok133 FF rfl rfl
theorem h109 : SpecOk prog 109 (S109 FF) := ok109 FF rfl rfl rfl rfl rfl h133 h134
theorem h66 : SpecOk prog 66 (S66 FF) := ok66 FF rfl rfl rfl rfl rfl rfl rfl rfl rfl rfl h79 h90 h99 h109
theorem h69 : SpecOk prog 69 (S69 FF) := ok69 FF rfl rfl rfl h135
theorem h71 : SpecOk prog 71 (S71 FF) := ok71 FF rfl rfl rfl h76
theorem h111 : SpecOk prog 111 (S111 FF) := ok111 FF rfl rfl
theorem h112 : SpecOk prog 112 (S112 FF) := ok112 FF rfl rfl
theorem h113 : XOk prog 113 (R113 FF).x := ok113 FF rfl rfl rfl rfl h112
theorem h114 : SpecOk prog 114 (S114 FF) := ok114 FF rfl rfl
theorem h70 : SpecOk prog 70 (S70 FF) := ok70 FF rfl rfl rfl rfl rfl rfl rfl h111 h112 h113 h114
theorem h106 : XOk prog 106 (R106 FF).u := ok106 FF rfl rfl rfl rfl h70
theorem h108 : SpecOk prog 108 (S108 FF) := ok108 FF rfl rfl h70
theorem h107 : XOk prog 107 (R107 FF).x := ok107 FF rfl rfl rfl rfl h108
theorem h62 : SpecOk prog 62 (S62 FF) := ok62 FF rfl rfl rfl rfl rfl (fun l => List.mergeSort_perm l _) rfl rfl rfl rfl rfl rfl h38 h66 h69 h71 h106 h107
theorem h19 : SpecOk prog 19 (S19 FF) := ok19 FF rfl rfl h62
theorem h21 : SpecOk prog 21 (S21 FF) := ok21 FF rfl rfl h62
theorem h72 : XOk prog 72 (R72 FF).u := ok72 FF rfl rfl
theorem h24 : SpecOk prog 24 (S24 FF) := ok24 FF rfl rfl rfl rfl rfl rfl rfl rfl rfl rfl rfl rfl rfl rfl h38 h66 h69 h71 h70 h72
theorem h75 : SpecOk prog 75 (S75 FF) := ok75 FF rfl rfl
theorem h27 : SpecOk prog 27 (S27 FF) := ok27 FF rfl rfl h75
theorem h29 : SpecOk prog 29 (S29 FF) := ok29 FF rfl rfl rfl rfl h38 h76
theorem h118 : SpecOk prog 118 (S118 FF) := ok118 FF rfl rfl
theorem h74 : SpecOk prog 74 (S74 FF) := ok74 FF rfl rfl rfl rfl rfl h75 h118
theorem h46 : SpecOk prog 46 (S46 FF) := ok46 FF rfl rfl h74
theorem h35 : SpecOk prog 35 (S35 FF) := ok35 FF rfl rfl rfl rfl h46
theorem h105 : SpecOk prog 105 (S105 GG) := ok105 FF GG rfl
theorem h60 : SpecOk prog 60 (S60 GG) := ok60 FF GG rfl rfl h105
theorem h61 : SpecOk prog 61 (S61 GG) := ok61 FF GG rfl
theorem h18 : SpecOk prog 18 (S18 GG) := ok18 FF GG rfl rfl rfl rfl rfl rfl rfl rfl rfl rfl rfl rfl h19 h21 h24 h27 h29 h35 h60 h61
theorem h20 : SpecOk prog 20 (S20 FF) := ok20 FF rfl
theorem h54 : SpecOk prog 54 (S86 FF) := ok54 FF rfl
theorem h63 : SpecOk prog 63 (S92 FF) := ok63 FF rfl rfl h54
theorem h77 : SpecOk prog 77 (S77 FF) := ok77 FF rfl rfl
theorem h78 : SpecOk prog 78 (S78 FF) := ok78 FF rfl
theorem h64 : SpecOk prog 64 (S84 FF) := ok64 FF rfl rfl rfl rfl rfl rfl h54 h63 h77 h78
theorem h22 : SpecOk prog 22 (S22 FF) := ok22 FF rfl rfl rfl rfl rfl h54 h63 h64
theorem h28 : SpecOk prog 28 (S28 FF) := ok28 FF rfl rfl
theorem h30 : SpecOk prog 30 (S30 FF) := ok30 FF rfl rfl rfl rfl rfl h77 h78
theorem h31 : SpecOk prog 31 (S31 FF) := ok31 FF rfl rfl rfl rfl h27
theorem h5 : SpecOk prog 5 LW := ok5 FF GG rfl rfl rfl rfl rfl rfl rfl rfl rfl h18 h20 h22 h28 h29 h30 h31
end Go.Proofs.Tryz
