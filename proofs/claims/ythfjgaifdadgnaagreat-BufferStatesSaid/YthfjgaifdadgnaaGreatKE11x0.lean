/- What functions of the weak memory compute, proved through the condition generator, and plain facts of it. Conditions: none of ours. -/
import Derived.Calls
import Derived.Orders
import Derived.Below
import Derived.Lib.ItoaNum
import Derived.Laws.Sem
import Derived.Laws.Cells
import Derived.Laws.Entries
import Derived.Laws.StructEq
import Derived.Lib.IfaceEq
import Derived.Lib.IfaceNeq
import Derived.Laws.MakeOwn
import Derived.Laws.AppendOwn
import Derived.Lib.AppendStr
import Derived.Laws.CopyRow
import Derived.Laws.BytesString
import Derived.MapKept
import Derived.OrdersIn
import Derived.RangeFuncCalls
import Derived.RangeFuncLeaves
import Derived.Test.YthfjgaifdadgnaaGreatProg
import Derived.Shelf.SlSortCmp.Insertion
import GoSem.Step
import Derived.Shelf.SlSortCmp.InsertionK
import Derived.Shelf.SlSortCmp.NoneTotal
import Derived.Ground.SlsfProg
import Derived.Sort.LotA
import Derived.Test.YthfjgaifdadgnaaGreatK0
import Derived.Test.YthfjgaifdadgnaaGreatK1
import Derived.Test.YthfjgaifdadgnaaGreatK2
import Derived.Test.YthfjgaifdadgnaaGreatK3
import Derived.Test.YthfjgaifdadgnaaGreatK4
import Derived.Test.YthfjgaifdadgnaaGreatK5
import Derived.Test.YthfjgaifdadgnaaGreatK6
import Derived.Test.YthfjgaifdadgnaaGreatK7
import Derived.Test.YthfjgaifdadgnaaGreatK8
import Derived.Test.YthfjgaifdadgnaaGreatK9
import Derived.Test.YthfjgaifdadgnaaGreatK10
import Derived.Test.YthfjgaifdadgnaaGreatK11
import Derived.Test.YthfjgaifdadgnaaGreatK12
import Derived.Test.YthfjgaifdadgnaaGreatK13
import Derived.Test.YthfjgaifdadgnaaGreatK14
import Derived.Test.YthfjgaifdadgnaaGreatK15
import Derived.Test.YthfjgaifdadgnaaGreatK16
import Derived.Test.YthfjgaifdadgnaaGreatK17
import Derived.Test.YthfjgaifdadgnaaGreatK18
import Derived.Test.YthfjgaifdadgnaaGreatK19
import Derived.Test.YthfjgaifdadgnaaGreatK20
import Derived.Test.YthfjgaifdadgnaaGreatK21
import Derived.Test.YthfjgaifdadgnaaGreatK22
import Derived.Test.YthfjgaifdadgnaaGreatK23
import Derived.Test.YthfjgaifdadgnaaGreatK24
import Derived.Test.YthfjgaifdadgnaaGreatK25
import Derived.Test.YthfjgaifdadgnaaGreatK26
set_option autoImplicit false
set_option linter.all false
namespace Go.Proofs.Tryz
open Go Go.VM
set_option maxRecDepth 100000
theorem at28 : prog.funcs[28]? = some f28 := by kernel_rfl
def pl28 : Nat → Plan
  | _ => []
noncomputable def D28 (ann : Nat → LAnn) : FnD := ⟨f28.body.getD .skip, f28.ntmps, f28.results.toList, pl28, ann⟩
theorem fnok28 (ann : Nat → LAnn) : FnOk prog 28 (D28 ann) := ⟨f28, at28, by kernel_rfl, by kernel_rfl, rfl, rfl, by kernel_rfl⟩
theorem at40 : prog.funcs[40]? = some f40 := by kernel_rfl
def pl40 : Nat → Plan
  | _ => []
noncomputable def D40 (ann : Nat → LAnn) : FnD := ⟨f40.body.getD .skip, f40.ntmps, f40.results.toList, pl40, ann⟩
theorem fnok40 (ann : Nat → LAnn) : FnOk prog 40 (D40 ann) := ⟨f40, at40, by kernel_rfl, by kernel_rfl, rfl, rfl, by kernel_rfl⟩
theorem at41 : prog.funcs[41]? = some f41 := by kernel_rfl
def pl41 : Nat → Plan
  | 6 => [(0, []), (1, [0]), (2, [0, 1]), (3, [0, 1]), (4, [0, 1, 2, 3]), (5, [0, 1]), (6, [0, 1]), (7, []), (8, [])]
  | _ => []
noncomputable def D41 (ann : Nat → LAnn) : FnD := ⟨f41.body.getD .skip, f41.ntmps, f41.results.toList, pl41, ann⟩
theorem fnok41 (ann : Nat → LAnn) : FnOk prog 41 (D41 ann) := ⟨f41, at41, by kernel_rfl, by kernel_rfl, rfl, rfl, by kernel_rfl⟩
theorem at42 : prog.funcs[42]? = some f42 := by kernel_rfl
def pl42 : Nat → Plan
  | _ => []
noncomputable def D42 (ann : Nat → LAnn) : FnD := ⟨f42.body.getD .skip, f42.ntmps, f42.results.toList, pl42, ann⟩
theorem fnok42 (ann : Nat → LAnn) : FnOk prog 42 (D42 ann) := ⟨f42, at42, by kernel_rfl, by kernel_rfl, rfl, rfl, by kernel_rfl⟩
theorem at43 : prog.funcs[43]? = some f43 := by kernel_rfl
def pl43 : Nat → Plan
  | 6 => [(0, []), (1, [0]), (2, [0]), (3, []), (4, [0, 1, 2, 3]), (5, [0, 1, 2, 3, 4]), (6, [0, 1, 2, 3, 4]), (7, []), (8, [0, 1, 2, 3, 4, 5, 6, 7]), (9, [0, 1, 2, 3, 4, 5, 6, 7, 8]), (10, [0, 1, 2, 3, 4, 5, 6, 7, 8]), (11, []), (12, [4, 7, 8, 11]), (13, []), (14, []), (15, []), (16, []), (17, [])]
  | _ => []
noncomputable def D43 (ann : Nat → LAnn) : FnD := ⟨f43.body.getD .skip, f43.ntmps, f43.results.toList, pl43, ann⟩
theorem fnok43 (ann : Nat → LAnn) : FnOk prog 43 (D43 ann) := ⟨f43, at43, by kernel_rfl, by kernel_rfl, rfl, rfl, by kernel_rfl⟩
theorem at44 : prog.funcs[44]? = some f44 := by kernel_rfl
def pl44 : Nat → Plan
  | _ => []
noncomputable def D44 (ann : Nat → LAnn) : FnD := ⟨f44.body.getD .skip, f44.ntmps, f44.results.toList, pl44, ann⟩
theorem fnok44 (ann : Nat → LAnn) : FnOk prog 44 (D44 ann) := ⟨f44, at44, by kernel_rfl, by kernel_rfl, rfl, rfl, by kernel_rfl⟩
theorem at45 : prog.funcs[45]? = some f45 := by kernel_rfl
def pl45 : Nat → Plan
  | 10 => [(46, [46, 47]), (0, []), (1, []), (2, []), (3, []), (4, []), (5, []), (6, []), (7, []), (8, []), (9, []), (10, []), (11, []), (12, []), (13, []), (14, []), (15, []), (16, []), (17, []), (18, []), (19, [17, 18]), (20, [17, 18]), (21, [17, 18, 19, 20]), (22, [17, 18]), (23, [17, 18]), (24, [17, 18]), (25, []), (26, []), (27, []), (28, []), (29, []), (30, []), (31, []), (32, [29, 30, 31]), (33, [29, 30, 31]), (34, []), (35, []), (36, []), (37, []), (38, []), (39, []), (40, []), (41, []), (42, []), (43, []), (44, []), (45, [43, 44])]
  | _ => []
noncomputable def D45 (ann : Nat → LAnn) : FnD := ⟨f45.body.getD .skip, f45.ntmps, f45.results.toList, pl45, ann⟩
theorem fnok45 (ann : Nat → LAnn) : FnOk prog 45 (D45 ann) := ⟨f45, at45, by kernel_rfl, by kernel_rfl, rfl, rfl, by kernel_rfl⟩
theorem at47 : prog.funcs[47]? = some f47 := by kernel_rfl
def pl47 : Nat → Plan
  | 11 => [(0, []), (1, []), (2, [0, 1]), (3, [0, 1]), (4, [0, 1, 2, 3]), (5, [0, 1]), (6, [0, 1]), (7, [0, 1]), (8, [])]
  | 13 => [(0, []), (1, []), (2, [0, 1]), (3, [0, 1, 2]), (4, [0, 1, 2]), (5, [0, 1]), (6, [0, 1]), (7, []), (8, [0, 1, 2, 3, 4, 5, 6, 7]), (9, [0, 1, 2, 3, 4, 5, 6, 7]), (10, [0, 1, 2, 3, 4, 5, 6, 7, 8, 9]), (11, [0, 1, 2, 3, 4, 5, 6, 7, 8, 9]), (12, []), (13, [10, 11, 12]), (14, []), (15, []), (16, [])]
  | _ => []
noncomputable def D47 (ann : Nat → LAnn) : FnD := ⟨f47.body.getD .skip, f47.ntmps, f47.results.toList, pl47, ann⟩
theorem fnok47 (ann : Nat → LAnn) : FnOk prog 47 (D47 ann) := ⟨f47, at47, by kernel_rfl, by kernel_rfl, rfl, rfl, by kernel_rfl⟩
theorem at48 : prog.funcs[48]? = some f48 := by kernel_rfl
def pl48 : Nat → Plan
  | 6 => [(0, []), (1, [0]), (2, []), (3, []), (4, [0, 1, 2, 3]), (5, [0, 1, 2, 3, 4]), (6, [0, 1, 2, 3]), (7, [0, 1, 2, 3]), (8, [])]
  | _ => []
noncomputable def D48 (ann : Nat → LAnn) : FnD := ⟨f48.body.getD .skip, f48.ntmps, f48.results.toList, pl48, ann⟩
theorem fnok48 (ann : Nat → LAnn) : FnOk prog 48 (D48 ann) := ⟨f48, at48, by kernel_rfl, by kernel_rfl, rfl, rfl, by kernel_rfl⟩
theorem at49 : prog.funcs[49]? = some f49 := by kernel_rfl
def pl49 : Nat → Plan
  | _ => []
noncomputable def D49 (ann : Nat → LAnn) : FnD := ⟨f49.body.getD .skip, f49.ntmps, f49.results.toList, pl49, ann⟩
theorem fnok49 (ann : Nat → LAnn) : FnOk prog 49 (D49 ann) := ⟨f49, at49, by kernel_rfl, by kernel_rfl, rfl, rfl, by kernel_rfl⟩
theorem at55 : prog.funcs[55]? = some f55 := by kernel_rfl
def pl55 : Nat → Plan
  | _ => []
noncomputable def D55 (ann : Nat → LAnn) : FnD := ⟨f55.body.getD .skip, f55.ntmps, f55.results.toList, pl55, ann⟩
theorem fnok55 (ann : Nat → LAnn) : FnOk prog 55 (D55 ann) := ⟨f55, at55, by kernel_rfl, by kernel_rfl, rfl, rfl, by kernel_rfl⟩
theorem at88 : prog.funcs[88]? = some f88 := by kernel_rfl
def pl88 : Nat → Plan
  | _ => []
noncomputable def D88 (ann : Nat → LAnn) : FnD := ⟨f88.body.getD .skip, f88.ntmps, f88.results.toList, pl88, ann⟩
theorem fnok88 (ann : Nat → LAnn) : FnOk prog 88 (D88 ann) := ⟨f88, at88, by kernel_rfl, by kernel_rfl, rfl, rfl, by kernel_rfl⟩
theorem at89 : prog.funcs[89]? = some f89 := by kernel_rfl
def pl89 : Nat → Plan
  | 4 => [(0, []), (1, []), (2, [0, 1]), (3, []), (4, []), (5, []), (6, [0, 1, 2, 3, 4, 5]), (7, [0, 1, 2, 3, 4, 5]), (8, [0, 1, 2, 3, 4, 5]), (9, [0, 1, 2, 3, 4, 5]), (10, []), (11, []), (12, []), (13, []), (14, []), (15, [13, 14]), (16, []), (17, []), (18, []), (19, []), (20, []), (21, [])]
  | 6 => [(0, []), (1, []), (2, [0, 1]), (3, [0, 1]), (4, [0, 1, 2, 3]), (5, [0, 1]), (6, [0, 1]), (7, [0, 1]), (8, []), (9, []), (10, []), (11, []), (12, []), (13, []), (14, []), (15, []), (16, []), (17, []), (18, []), (19, []), (20, []), (21, []), (22, []), (23, []), (24, [21, 22, 23]), (25, [21, 22, 23]), (26, []), (27, []), (28, []), (29, []), (30, []), (31, []), (32, []), (33, []), (34, []), (35, []), (36, []), (37, []), (38, []), (39, [])]
  | _ => []
noncomputable def D89 (ann : Nat → LAnn) : FnD := ⟨f89.body.getD .skip, f89.ntmps, f89.results.toList, pl89, ann⟩
theorem fnok89 (ann : Nat → LAnn) : FnOk prog 89 (D89 ann) := ⟨f89, at89, by kernel_rfl, by kernel_rfl, rfl, rfl, by kernel_rfl⟩
theorem at91 : prog.funcs[91]? = some f91 := by kernel_rfl
def pl91 : Nat → Plan
  | _ => []
noncomputable def D91 (ann : Nat → LAnn) : FnD := ⟨f91.body.getD .skip, f91.ntmps, f91.results.toList, pl91, ann⟩
theorem fnok91 (ann : Nat → LAnn) : FnOk prog 91 (D91 ann) := ⟨f91, at91, by kernel_rfl, by kernel_rfl, rfl, rfl, by kernel_rfl⟩
theorem at93 : prog.funcs[93]? = some f93 := by kernel_rfl
def pl93 : Nat → Plan
  | _ => []
noncomputable def D93 (ann : Nat → LAnn) : FnD := ⟨f93.body.getD .skip, f93.ntmps, f93.results.toList, pl93, ann⟩
theorem fnok93 (ann : Nat → LAnn) : FnOk prog 93 (D93 ann) := ⟨f93, at93, by kernel_rfl, by kernel_rfl, rfl, rfl, by kernel_rfl⟩
theorem at94 : prog.funcs[94]? = some f94 := by kernel_rfl
def pl94 : Nat → Plan
  | 1 => [(0, []), (1, []), (2, [0, 1]), (3, []), (4, []), (5, []), (6, []), (7, []), (8, []), (9, [7, 8]), (10, []), (11, []), (12, []), (13, [7, 8, 9, 10, 11, 12]), (14, [7, 8, 9, 10, 11, 12]), (15, [7, 8, 9, 10, 11, 12, 13, 14]), (16, [7, 8, 9, 10, 11, 12]), (17, [7, 8, 9, 10, 11, 12]), (18, [7, 8, 9, 10, 11, 12]), (19, []), (20, []), (21, [])]
  | _ => []
noncomputable def D94 (ann : Nat → LAnn) : FnD := ⟨f94.body.getD .skip, f94.ntmps, f94.results.toList, pl94, ann⟩
theorem fnok94 (ann : Nat → LAnn) : FnOk prog 94 (D94 ann) := ⟨f94, at94, by kernel_rfl, by kernel_rfl, rfl, rfl, by kernel_rfl⟩
theorem at95 : prog.funcs[95]? = some f95 := by kernel_rfl
def pl95 : Nat → Plan
  | 2 => [(9, []), (0, [9]), (1, [9]), (2, [9, 0, 1]), (3, [9]), (4, [9]), (5, [9, 0, 1, 2, 3, 4]), (6, [9, 0, 1, 2, 3, 4]), (7, [9]), (8, [9]), (10, [])]
  | 10 => [(0, []), (1, []), (2, [0, 1]), (3, [0, 1]), (4, []), (5, []), (6, [0, 1, 2, 3, 4, 5]), (7, [0, 1, 2, 3, 4, 5]), (8, []), (9, [])]
  | _ => []
noncomputable def D95 (ann : Nat → LAnn) : FnD := ⟨f95.body.getD .skip, f95.ntmps, f95.results.toList, pl95, ann⟩
theorem fnok95 (ann : Nat → LAnn) : FnOk prog 95 (D95 ann) := ⟨f95, at95, by kernel_rfl, by kernel_rfl, rfl, rfl, by kernel_rfl⟩
end Go.Proofs.Tryz
set_option autoImplicit false
set_option linter.all false
namespace Go.Proofs.Tryz
open Go Go.VM
set_option maxRecDepth 100000
theorem at11 : prog.funcs[11]? = some f11 := by kernel_rfl
def pl11 : Nat → Plan
  | 6 => [(0, []), (1, []), (2, [0, 1]), (3, []), (4, []), (5, []), (6, []), (7, [6]), (8, [7]), (9, [])]
  | 7 => [(8, []), (0, [8]), (1, [8]), (2, [8, 0, 1]), (3, [8]), (4, [8]), (5, [8]), (6, [8]), (7, [8, 6]), (9, [7]), (10, [])]
  | 8 => [(0, []), (1, []), (2, [0, 1]), (3, []), (4, []), (5, [0, 1, 2, 3, 4]), (6, []), (7, []), (8, []), (9, [8]), (10, []), (11, [])]
  | _ => []
noncomputable def D11 (ann : Nat → LAnn) : FnD := ⟨f11.body.getD .skip, f11.ntmps, f11.results.toList, pl11, ann⟩
theorem fnok11 (ann : Nat → LAnn) : FnOk prog 11 (D11 ann) := ⟨f11, at11, by kernel_rfl, by kernel_rfl, rfl, rfl, by kernel_rfl⟩
theorem at124 : prog.funcs[124]? = some f124 := by kernel_rfl
def pl124 : Nat → Plan
  | _ => []
noncomputable def D124 (ann : Nat → LAnn) : FnD := ⟨f124.body.getD .skip, f124.ntmps, f124.results.toList, pl124, ann⟩
theorem fnok124 (ann : Nat → LAnn) : FnOk prog 124 (D124 ann) := ⟨f124, at124, by kernel_rfl, by kernel_rfl, rfl, rfl, by kernel_rfl⟩
end Go.Proofs.Tryz
set_option autoImplicit false
set_option linter.all false
namespace Go.Proofs.Tryz
open Go Go.VM
set_option maxRecDepth 100000
def n55 (L : Lv) (F : BxF) (I : Ds [It] → Prop) (mu : Ds [It] → Nat) (s : StD) (t p : Int)  : VC :=
 let z1 := Prod.snd s;
 let z2 := Prod.fst (Prod.snd (Prod.snd (Lv.get L Th z1 (Lv.toN L t))));
 let z3 := Lv.llen L Kp z2;
 let z4 := Lv.cast L z3;
 let z5 := Lv.ar L BinOp.sub IntKind.i64 z4 1;
 let z6 := Prod.fst s;
 let z7 := (BxF.see F s t p, ()); VC.obl (Lv.inR L t (Lv.llen L Th z1)) (VC.obl (St.mk 39 [(2, V.c (C.int IntKind.i64 p)), (3, V.c (C.ptr 1 0)), (7, V.c (C.sl Kp z2)), (8, V.c
   (C.int IntKind.i64 z5))] [(0, Ob.amb), (1, Ob.box 59 [C.sl It z6, C.sl Th z1])] 2 = St.mk 39 [(2, V.c (C.int IntKind.i64 p)), (3, V.c (C.ptr 1 0)), (7, V.c (C.sl Kp z2)), (8, V.c
   (C.int IntKind.i64 z5))] [(0, Ob.amb), (1, Ob.box 59 [C.sl It z6, C.sl Th z1])] 2) (VC.obl (I (Lv.ar L BinOp.sub IntKind.i64 z4 1, ())) (VC.all (Int × Unit) fun (v1 : Int × Unit)
   =>
 let z8 := Prod.fst v1;
 let z9 := Lv.inR L z8 z3;
 let z10 := Lv.get L Kp z2 (Lv.toN L z8);
 let z11 := Lv.ar L BinOp.sub IntKind.i64 z8 1;
 let z12 := (Lv.ar L BinOp.sub IntKind.i64 z8 1, ()); VC.imp (I v1) (VC.br (Lv.cmp L BinOp.geq z8 0) (VC.obl z9 (VC.br (Lv.cmp L BinOp.eql (Prod.fst z10) p) (VC.obl z9 (VC.ok
   ((Prod.snd z10, ()) = z7))) (VC.ok (St.mk 39 [(2, V.c (C.int IntKind.i64 p)), (3, V.c (C.ptr 1 0)), (7, V.c (C.sl Kp z2)), (8, V.c (C.int IntKind.i64 z11))] [(0, Ob.amb), (1,
   Ob.box 59 [C.sl It z6, C.sl Th z1])] 2 = St.mk 39 [(2, V.c (C.int IntKind.i64 p)), (3, V.c (C.ptr 1 0)), (7, V.c (C.sl Kp z2)), (8, V.c (C.int IntKind.i64 z11))] [(0, Ob.amb),
   (1, Ob.box 59 [C.sl It z6, C.sl Th z1])] 2 ∧ I z12 ∧ mu z12 < mu v1)))) (VC.obl (Lv.inR L p (Lv.llen L It z6)) (VC.ok ((Lv.get L It z6 (Lv.toN L p), ()) = z7)))))))
theorem n55_eq (L : Lv) (F : BxF) (I : Ds [It] → Prop) (mu : Ds [It] → Nat) (s : StD) (t p : Int) : vcB L F [] (D55 (a55 L I mu)) (S55 F) (s, t, p, ()) = n55 L F I mu s t p := by kernel_rfl
theorem n55_go (L : Lv) (F : BxF) (I : Ds [It] → Prop) (mu : Ds [It] → Nat) (s : StD) (t p : Int) (h : VC.holds (n55 L F I mu s t p)) : Holds (vcB L F [] (D55 (a55 L I mu)) (S55 F) (s, t, p, ())) := Holds.of_eq (n55_eq L F I mu s t p) h
def seeF (s : StD) (t p : Int) : Int := seesF s (thAt s t) p
theorem ok55 (F : BxF) (h : F.see = seeF) (hp : F.pSee = fun s t p => inReg s.1 p ∧ (0 ≤ t ∧ t < s.2.length) ∧ (thAt s t).2.2.1.length ≤ 1000000) : SpecOk prog 55 (S55 F) := by
  refine contract_by hm hE D55 fnok55 _ fun (z : StD × Int × Int × Unit) hpre => ?_
  obtain ⟨s, t, p, ⟨⟩⟩ := z
  have hpre' : F.pSee s t p := hpre
  rw [hp] at hpre'
  obtain ⟨hr, ht, hl⟩ := hpre'
  have hr' : 0 ≤ p ∧ p < s.1.length := hr
  let I : Int × Unit → Prop := fun x => -1 ≤ x.1 ∧ x.1 < (thAt s t).2.2.1.length ∧ lkF (thAt s t).2.2.1 p (thAt s t).2.2.1.length = lkF (thAt s t).2.2.1 p (x.1 + 1).toNat
  let mu : Int × Unit → Nat := fun x => (x.1 + 1).toNat
  refine pack _ 3 (a55 Lv.std I mu) (only_tab (T := bT F) (l := []) tb_nil) ?_
  refine n55_go Lv.std F I mu s t p ?_
  simp only [n55, VC.holds, std_cmp, std_scmp, std_ar_add, std_ar_sub, std_ar_mul, std_ar, std_dv, std_shf, std_conv, std_mn, std_mx, std_beq, std_bnot, std_band, std_scat, std_byte, std_ext, std_slen, std_strOf, std_bytes, std_llen, std_get, std_setl, std_app, std_take, std_drop, std_rep, std_mhas, std_mval, std_mput, std_cast, std_toN, std_sub, std_add, std_inR, std_le3, std_leN, std_ltN, std_ne0, std_nonneg, std_catOk, std_room, std_mkOk, std_nth, std_cnt, cmp_lss_t, cmp_lss_f, cmp_leq_t, cmp_leq_f, cmp_gtr_t, cmp_gtr_f, cmp_geq_t, cmp_geq_f, cmp_eql_t, cmp_eql_f, cmp_neq_t, cmp_neq_f, scmp_eql_t, scmp_eql_f, scmp_neq_t, scmp_neq_f, dflt_int, dflt_bool, dflt_str, dflt_sl, dflt_pair, h, Prod.mk.injEq, and_true, true_and]
  change _ ∧ I (IntKind.i64.wrap (((thAt s t).2.2.1.length : Int) - 1), ()) ∧ _
  have e0 : IntKind.i64.wrap (((thAt s t).2.2.1.length : Int) - 1) = ((thAt s t).2.2.1.length : Int) - 1 := wrap_i64 (by omega) (by omega)
  rw [e0]
  refine ⟨ht, ⟨by show (-1 : Int) ≤ _; omega, by show ((thAt s t).2.2.1.length : Int) - 1 < _; omega, by show lkF (thAt s t).2.2.1 p (thAt s t).2.2.1.length = lkF (thAt s t).2.2.1 p (((thAt s t).2.2.1.length : Int) - 1 + 1).toNat; congr 1; omega⟩, ?_⟩
  rintro ⟨x, ⟨⟩⟩ ⟨i1, i2, i3⟩
  simp only at i1 i2 i3 ⊢
  refine ⟨fun hx => ?_, fun hx => ⟨hr', ?_⟩⟩
  · obtain ⟨k, rfl⟩ : ∃ k : Nat, x = k := ⟨x.toNat, by omega⟩
    have e1 : IntKind.i64.wrap ((k : Int) - 1) = (k : Int) - 1 := wrap_i64 (by omega) (by omega)
    rw [show ((k : Int) + 1).toNat = k + 1 by omega, lkF] at i3
    rw [e1, Int.toNat_natCast]
    refine ⟨⟨by omega, i2⟩, fun hq => ⟨⟨by omega, i2⟩, ?_⟩, fun hq => ⟨⟨by show (-1 : Int) ≤ (k : Int) - 1; omega, by show (k : Int) - 1 < _; omega, ?_⟩, by show ((k : Int) - 1 + 1).toNat < ((k : Int) + 1).toNat; omega⟩⟩
    · have hq' : (kpAt (thAt s t).2.2.1 k).1 = p := hq
      rw [if_pos hq'] at i3
      simp only [seeF, seesF, i3]
      rfl
    · have hq' : (kpAt (thAt s t).2.2.1 k).1 ≠ p := hq
      rw [if_neg hq'] at i3
      show lkF _ p _ = lkF _ p ((k : Int) - 1 + 1).toNat
      rw [show ((k : Int) - 1 + 1).toNat = k by omega]; exact i3
  · have hx1 : x = -1 := by omega
    subst hx1
    have i3' : lkF (thAt s t).2.2.1 p (thAt s t).2.2.1.length = none := i3
    simp only [seeF, seesF, i3', regF]
end Go.Proofs.Tryz
set_option autoImplicit false
set_option linter.all false
namespace Go.Proofs.Tryz
open Go Go.VM
def kpOk (n : Nat) (k : KpD) : Bool := withinF k.1 0 ((n : Int) - 1) && isNumF k.2
def thOk (p : WkD) (k : Nat) (t : ThD) : Bool :=
  decide (t.2.1.length = 10) && numsF t.2.1 && numsF t.2.2.2.1 && withinF t.1 0 ((p.2.1[k]?).getD []).length && decide ((t.2.2.1.length : Int) ≤ p.2.2) && decide (t.2.2.2.1.length ≤ 20) && t.2.2.1.all (kpOk p.1.length)
def thsN (p : WkD) (s : StD) : Nat → Bool
  | 0 => true
  | n + 1 => thOk p (s.2.length - (n + 1)) ((s.2[s.2.length - (n + 1)]?).getD (0, [], [], [], false)) && thsN p s n
def isStF (p : WkD) (s : StD) : Bool := decide (s.1.length = p.1.length) && decide (s.2.length = p.2.1.length) && numsF s.1 && thsN p s s.2.length
def ckStF (p : WkD) (s : StD) : Int := if checkF p ≠ 0 then checkF p else if isStF p s then 0 else 2
theorem thsN_step (p : WkD) (s : StD) (k : Nat) (h : k < s.2.length) : thsN p s (s.2.length - k) = (thOk p k ((s.2[k]?).getD (0, [], [], [], false)) && thsN p s (s.2.length - (k + 1))) := by
  obtain ⟨n, hn⟩ : ∃ n, s.2.length - k = n + 1 := ⟨s.2.length - k - 1, by omega⟩
  rw [hn, thsN, show s.2.length - (n + 1) = k by omega, show s.2.length - (k + 1) = n by omega]
end Go.Proofs.Tryz
set_option autoImplicit false
set_option linter.all false
namespace Go.Proofs.Tryz
open Go Go.VM
set_option maxRecDepth 100000
def a88 (L : Lv) (I : Ds [It] → Prop) (mu : Ds [It] → Nat) : Nat → LAnn
  | 0 => anH L [0, 3] [] [.s 3 It] I mu
  | _ => .no
def n88 (L : Lv) (F : BxF) (I : Ds [It] → Prop) (mu : Ds [It] → Nat) (l : List Int)  : VC :=
 VC.obl (St.mk 16 [(0, V.c (C.sl It l)), (3, V.c (C.int IntKind.i64 0))] [(0, Ob.amb)] 1 = St.mk 16 [(0, V.c (C.sl It l)), (3, V.c (C.int IntKind.i64 0))] [(0, Ob.amb)] 1) (VC.obl
   (I (0, ())) (VC.all (Int × Unit) fun (v1 : Int × Unit) =>
 let z1 := Prod.fst v1;
 let z2 := Lv.ar L BinOp.add IntKind.i64 z1 1;
 let z3 := (Lv.ar L BinOp.add IntKind.i64 z1 1, ()); VC.imp (I v1) (VC.br (Lv.cmp L BinOp.lss z1 (Lv.cast L (Lv.llen L It l))) (VC.obl (Lv.inR L z1 (Lv.llen L It l)) (VC.obl True
   (VC.br (BxF.isNum F (Lv.get L It l (Lv.toN L z1))) (VC.ok (St.mk 16 [(0, V.c (C.sl It l)), (3, V.c (C.int IntKind.i64 z2))] [(0, Ob.amb)] 1 = St.mk 16 [(0, V.c (C.sl It l)), (3,
   V.c (C.int IntKind.i64 z2))] [(0, Ob.amb)] 1 ∧ I z3 ∧ mu z3 < mu v1)) (VC.ok ((false, ()) = (BxF.nums F l, ())))))) (VC.ok ((true, ()) = (BxF.nums F l, ()))))))
theorem n88_eq (L : Lv) (F : BxF) (I : Ds [It] → Prop) (mu : Ds [It] → Nat) (l : List Int) : vcC L F [63] (D88 (a88 L I mu)) (S87 F) (l, ()) = n88 L F I mu l := by kernel_rfl
theorem n88_go (L : Lv) (F : BxF) (I : Ds [It] → Prop) (mu : Ds [It] → Nat) (l : List Int) (h : VC.holds (n88 L F I mu l)) : Holds (vcC L F [63] (D88 (a88 L I mu)) (S87 F) (l, ())) := Holds.of_eq (n88_eq L F I mu l) h
theorem ok88 (F : BxF) (h : F.nums = numsF) (h1 : F.isNum = isNumF) (hp : F.bl = bL) (k1 : SpecOk prog 63 (S92 F)) : SpecOk prog 88 (S87 F) := by
  refine contract_by hm hE D88 fnok88 _ fun (z : List Int × Unit) hpre => ?_
  obtain ⟨l, ⟨⟩⟩ := z
  have hpre' : F.bl l := hpre
  rw [hp] at hpre'
  have g : l.length ≤ 1000000 := hpre'
  let I : Int × Unit → Prop := fun x => 0 ≤ x.1 ∧ x.1 ≤ l.length ∧ (l.drop x.1.toNat).all isNumF = numsF l
  let mu : Int × Unit → Nat := fun x => (l.length - x.1).toNat
  refine pack _ 3 (a88 Lv.std I mu) (only_tab (T := cT F) (l := [63]) (tb_cons (tb_sp k1 (by kernel_rfl)) tb_nil)) ?_
  refine n88_go Lv.std F I mu l ?_
  simp only [n88, VC.holds, std_cmp, std_scmp, std_ar_add, std_ar_sub, std_ar_mul, std_ar, std_dv, std_shf, std_conv, std_mn, std_mx, std_beq, std_bnot, std_band, std_scat, std_byte, std_ext, std_slen, std_strOf, std_bytes, std_llen, std_get, std_setl, std_app, std_take, std_drop, std_rep, std_mhas, std_mval, std_mput, std_cast, std_toN, std_sub, std_add, std_inR, std_le3, std_leN, std_ltN, std_ne0, std_nonneg, std_catOk, std_room, std_mkOk, std_nth, std_cnt, cmp_lss_t, cmp_lss_f, cmp_leq_t, cmp_leq_f, cmp_gtr_t, cmp_gtr_f, cmp_geq_t, cmp_geq_f, cmp_eql_t, cmp_eql_f, cmp_neq_t, cmp_neq_f, scmp_eql_t, scmp_eql_f, scmp_neq_t, scmp_neq_f, dflt_int, dflt_bool, dflt_str, dflt_sl, dflt_pair, h, h1, Prod.mk.injEq, and_true, true_and]
  refine ⟨⟨Int.le_refl 0, by show (0 : Int) ≤ l.length; omega, rfl⟩, ?_⟩
  rintro ⟨x, ⟨⟩⟩ ⟨i1, i2, i3⟩
  simp only at i1 i2 i3 ⊢
  obtain ⟨k, rfl⟩ := nat_of i1
  rw [Int.toNat_natCast] at i3
  refine ⟨fun hlt => ⟨⟨i1, hlt⟩, fun hn => ?_, fun hn => ?_⟩, fun hge => ?_⟩
  · rw [wr hlt g]
    rw [all_drop isNumF l k 0 (by omega), Int.toNat_natCast] at *
    rw [hn, Bool.true_and] at i3
    exact ⟨⟨by show (0 : Int) ≤ ((k + 1 : Nat) : Int); omega, by show ((k + 1 : Nat) : Int) ≤ l.length; omega, by show (l.drop ((k + 1 : Nat) : Int).toNat).all isNumF = _; rw [Int.toNat_natCast]; exact i3⟩, by show ((l.length : Int) - ((k + 1 : Nat) : Int)).toNat < ((l.length : Int) - k).toNat; omega⟩
  · rw [all_drop isNumF l k 0 (by omega)] at i3
    rw [Int.toNat_natCast] at hn
    rw [hn, Bool.false_and] at i3
    exact i3
  · rw [show k = l.length by omega, List.drop_length] at i3
    exact i3
end Go.Proofs.Tryz
set_option autoImplicit false
set_option linter.all false
namespace Go.Proofs.Tryz
open Go Go.VM
theorem okT_iff (p : WkD) (k : Nat) (t : ThD) : thOk p k t = true ↔ OkT p k t := by
  unfold thOk
  simp only [Bool.and_eq_true, decide_eq_true_eq, withinF_t, List.all_eq_true, kpOk]
  constructor
  · rintro ⟨⟨⟨⟨⟨⟨h1, h2⟩, h3⟩, h4⟩, h5⟩, h6⟩, h7⟩
    refine ⟨h1, h2, h3, h4.1, by rw [listAt_nat]; exact h4.2, h5, h6, fun x hx => ?_⟩
    obtain ⟨⟨a1, a2⟩, a3⟩ := h7 x hx
    exact ⟨⟨a1, by omega⟩, a3⟩
  · rintro ⟨h1, h2, h3, h4, h4', h5, h6, h7⟩
    refine ⟨⟨⟨⟨⟨⟨h1, h2⟩, h3⟩, h4, by rw [listAt_nat] at h4'; exact h4'⟩, h5⟩, h6⟩, fun x hx => ?_⟩
    obtain ⟨⟨a1, a2⟩, a3⟩ := h7 x hx
    exact ⟨⟨a1, by omega⟩, a3⟩
theorem thsN_iff (p : WkD) (s : StD) : ∀ n, n ≤ s.2.length → (thsN p s n = true ↔ ∀ k : Nat, s.2.length - n ≤ k → k < s.2.length → thOk p k (thAt s k) = true)
  | 0, _ => by
    simp only [thsN, true_iff]
    intro k h1 h2; omega
  | n + 1, hn => by
    rw [thsN, Bool.and_eq_true, thsN_iff p s n (by omega)]
    have e : (s.2[s.2.length - (n + 1)]?).getD (0, [], [], [], false) = thAt s ((s.2.length - (n + 1) : Nat) : Int) := by unfold thAt; rw [Int.toNat_natCast]
    rw [e]
    constructor
    · rintro ⟨h1, h2⟩ k hk hk2
      by_cases hx : k = s.2.length - (n + 1)
      · subst hx; exact h1
      · exact h2 k (by omega) hk2
    · exact fun h => ⟨h _ (Nat.le_refl _) (by omega), fun k hk hk2 => h k (by omega) hk2⟩
theorem okS_iff (p : WkD) (s : StD) : isStF p s = true ↔ OkS p s := by
  unfold isStF
  simp only [Bool.and_eq_true, decide_eq_true_eq, thsN_iff p s _ (Nat.le_refl _)]
  constructor
  · rintro ⟨⟨⟨h1, h2⟩, h3⟩, h4⟩
    exact ⟨h1, h2, h3, fun k hk => (okT_iff p k _).1 (h4 k (by omega) hk)⟩
  · rintro ⟨h1, h2, h3, h4⟩
    exact ⟨⟨⟨h1, h2⟩, h3⟩, fun k _ hk => (okT_iff p k _).2 (h4 k hk)⟩
theorem ckSt_iff (p : WkD) (s : StD) : ckStF p s = 0 ↔ OkP p ∧ OkS p s := by
  unfold ckStF
  rw [← okP_iff, ← okS_iff]
  by_cases h : checkF p = 0
  · rw [if_neg (by simpa using h)]
    by_cases h2 : isStF p s = true
    · simp [h, h2]
    · simp only [h2]; simp
  · rw [if_pos h]; simp [h]
end Go.Proofs.Tryz
set_option autoImplicit false
set_option linter.all false
namespace Go.Proofs.Tryz
open Go Go.VM
set_option maxRecDepth 100000
def aIk (L : Lv) (I : Int × List KpD × Unit → Ds [It] → Prop) (mu : Int × List KpD × Unit → Ds [It] → Nat) : Nat → LAnn
  | 0 => anE L [0, 1, 7, 8] [] [.fn 1, .h (.s 0 (.sl Kp))] [.s 8 It] I mu
  | _ => .no
noncomputable def o45 (L : Lv) (I : Int × List KpD × Unit → Ds [It] → Prop) (mu : Int × List KpD × Unit → Ds [It] → Nat) : List (Nat × FT) := [(91, .inl (D91 a0)), (93, .inl (D93 a0)), (124, .inl (D124 (aIk L I mu)))]
def n45 (L : Lv) (F : BxF) (I0 : Ds [It] → Prop) (mu0 : Ds [It] → Nat) (I : Int × List KpD × Unit → Ds [It] → Prop) (mu : Int × List KpD × Unit → Ds [It] → Nat) (p : WkD) (s : StD)  : VC :=
 let z1 := Prod.snd p;
 let z2 := (Prod.fst p, Prod.fst z1, Prod.snd z1);
 let z3 := (BxF.ckSt F p s, ());
 let z4 := Prod.fst s;
 let z5 := Lv.cast L (Lv.llen L It z4);
 let z6 := Prod.fst p;
 let z7 := Prod.snd s;
 let z8 := Lv.llen L Th z7;
 let z9 := Lv.cast L z8;
 let z10 := Prod.fst z1;
 let z11 := Lv.llen L (Ty.sl In) z10;
 let z12 := Prod.snd z1; VC.obl (BxF.bw F z2) (VC.br (Lv.cmp L BinOp.neq (BxF.check F z2) 0) (VC.ok ((BxF.check F z2, ()) = z3)) (VC.br (Lv.cmp L BinOp.neq z5 (Lv.cast L (Lv.llen L
   It z6))) (VC.ok ((2, ()) = z3)) (VC.br (Lv.cmp L BinOp.neq z9 (Lv.cast L z11)) (VC.ok ((2, ()) = z3)) (VC.obl (BxF.bl F z4) (VC.br (BxF.nums F z4) (VC.obl (St.mk 94 [(2, V.c
   (C.ptr 1 0)), (3, V.c (C.ptr 2 0)), (37, V.c (C.sl Th z7)), (38, V.c (C.int IntKind.i64 z9)), (39, V.c (C.int IntKind.i64 0))] [(0, Ob.amb), (1, Ob.box 25 [C.sl It z6, C.sl
   (Ty.sl In) z10, C.int IntKind.i64 z12]), (2, Ob.box 59 [C.sl It z4, C.sl Th z7])] 3 = St.mk 94 [(2, V.c (C.ptr 1 0)), (3, V.c (C.ptr 2 0)), (37, V.c (C.sl Th z7)), (38, V.c
   (C.int IntKind.i64 z9)), (39, V.c (C.int IntKind.i64 0))] [(0, Ob.amb), (1, Ob.box 25 [C.sl It z6, C.sl (Ty.sl In) z10, C.int IntKind.i64 z12]), (2, Ob.box 59 [C.sl It z4, C.sl
   Th z7])] 3) (VC.obl (I0 (0, ())) (VC.all (Int × Unit) fun (v1 : Int × Unit) =>
 let z13 := Prod.fst v1;
 let z14 := Lv.toN L z13;
 let z15 := Lv.get L Th z7 z14;
 let z16 := Prod.snd z15;
 let z17 := Prod.fst z16;
 let z18 := Prod.snd z16;
 let z19 := Prod.snd z18;
 let z20 := Prod.fst z19;
 let z21 := Prod.fst z15;
 let z22 := Prod.fst z18;
 let z23 := Lv.llen L Kp z22;
 let z24 := Lv.cast L z23;
 let z25 := Prod.snd z19;
 let z26 := Lv.ar L BinOp.add IntKind.i64 z13 1;
 let z27 := (Lv.ar L BinOp.add IntKind.i64 z13 1, ()); VC.imp (I0 v1) (VC.br (Lv.cmp L BinOp.lss z13 z9) (VC.obl (Lv.inR L z13 z8) (VC.br (Lv.cmp L BinOp.neq (Lv.cast L (Lv.llen L
   It z17)) 10) (VC.ok ((2, ()) = z3)) (VC.obl (BxF.bl F z17) (VC.br (BxF.nums F z17) (VC.obl (BxF.bl F z20) (VC.br (BxF.nums F z20) (VC.obl (Lv.inR L z13 z11) (VC.obl True (VC.br
   (BxF.within F z21 0 (Lv.cast L (Lv.llen L In (Lv.get L (Ty.sl In) z10 z14)))) (VC.br (Lv.cmp L BinOp.gtr z24 z12) (VC.ok ((2, ()) = z3)) (VC.br (Lv.cmp L BinOp.gtr (Lv.cast L
   (Lv.llen L It z20)) 20) (VC.ok ((2, ()) = z3)) (VC.obl (St.mk 19 [(0, V.c (C.sl Kp z22)), (1, V.c (C.fn 91 [2])), (7, V.c (C.int IntKind.i64 z24)), (8, V.c (C.int IntKind.i64
   0))] [(0, Ob.amb), (1, Ob.box 25 [C.sl It z6, C.sl (Ty.sl In) z10, C.int IntKind.i64 z12]), (2, Ob.box 59 [C.sl It z4, C.sl Th z7]), (3, Ob.box 99 [C.int IntKind.i64 z21, C.sl It
   z17, C.sl Kp z22, C.sl It z20, C.sym z25])] 4 = St.mk 19 [(0, V.c (C.sl Kp z22)), (1, V.c (C.fn 91 [2])), (7, V.c (C.int IntKind.i64 z24)), (8, V.c (C.int IntKind.i64 0))] [(0,
   Ob.amb), (1, Ob.box 25 [C.sl It z6, C.sl (Ty.sl In) z10, C.int IntKind.i64 z12]), (2, Ob.box 59 [C.sl It z4, C.sl Th z7]), (3, Ob.box 99 [C.int IntKind.i64 z21, C.sl It z17, C.sl
   Kp z22, C.sl It z20, C.sym z25])] 4) (VC.obl (I (91, Prod.fst z18, ()) (0, ())) (VC.all (Int × Unit) fun (v2 : Int × Unit) =>
 let z28 := Prod.fst v2;
 let z29 := Lv.get L Kp z22 (Lv.toN L z28);
 let z30 := Lv.ar L BinOp.add IntKind.i64 z28 1;
 let z31 := (Lv.ar L BinOp.add IntKind.i64 z28 1, ());
 let z32 := Lv.cmp L BinOp.geq z28 0; VC.imp (I (91, Prod.fst z18, ()) v2) (VC.br (Lv.cmp L BinOp.lss z28 z24) (VC.obl (Lv.inR L z28 z23) (VC.obl True (VC.br (BxF.within F (Prod.fst
   z29) 0 (Lv.ar L BinOp.sub IntKind.i64 z5 1)) (VC.obl True (VC.br (BxF.isNum F (Prod.snd z29)) (VC.ok (St.mk 19 [(0, V.c (C.sl Kp z22)), (1, V.c (C.fn 91 [2])), (7, V.c (C.int
   IntKind.i64 z24)), (8, V.c (C.int IntKind.i64 z30))] [(0, Ob.amb), (1, Ob.box 25 [C.sl It z6, C.sl (Ty.sl In) z10, C.int IntKind.i64 z12]), (2, Ob.box 59 [C.sl It z4, C.sl Th
   z7]), (3, Ob.box 99 [C.int IntKind.i64 z21, C.sl It z17, C.sl Kp z22, C.sl It z20, C.sym z25])] 4 = St.mk 19 [(0, V.c (C.sl Kp z22)), (1, V.c (C.fn 91 [2])), (7, V.c (C.int
   IntKind.i64 z24)), (8, V.c (C.int IntKind.i64 z30))] [(0, Ob.amb), (1, Ob.box 25 [C.sl It z6, C.sl (Ty.sl In) z10, C.int IntKind.i64 z12]), (2, Ob.box 59 [C.sl It z4, C.sl Th
   z7]), (3, Ob.box 99 [C.int IntKind.i64 z21, C.sl It z17, C.sl Kp z22, C.sl It z20, C.sym z25])] 4 ∧ I (91, Prod.fst z18, ()) z31 ∧ mu (91, Prod.fst z18, ()) z31 < mu (91,
   Prod.fst z18, ()) v2)) (VC.br z32 (VC.ok ((2, ()) = z3)) (VC.ok (St.mk 94 [(2, V.c (C.ptr 1 0)), (3, V.c (C.ptr 2 0)), (37, V.c (C.sl Th z7)), (38, V.c (C.int IntKind.i64 z9)),
   (39, V.c (C.int IntKind.i64 z26))] [(0, Ob.amb), (1, Ob.box 25 [C.sl It z6, C.sl (Ty.sl In) z10, C.int IntKind.i64 z12]), (2, Ob.box 59 [C.sl It z4, C.sl Th z7])] 3 = St.mk 94
   [(2, V.c (C.ptr 1 0)), (3, V.c (C.ptr 2 0)), (37, V.c (C.sl Th z7)), (38, V.c (C.int IntKind.i64 z9)), (39, V.c (C.int IntKind.i64 z26))] [(0, Ob.amb), (1, Ob.box 25 [C.sl It z6,
   C.sl (Ty.sl In) z10, C.int IntKind.i64 z12]), (2, Ob.box 59 [C.sl It z4, C.sl Th z7])] 3 ∧ I0 z27 ∧ mu0 z27 < mu0 v1))))) (VC.br z32 (VC.ok ((2, ()) = z3)) (VC.ok (St.mk 94 [(2,
   V.c (C.ptr 1 0)), (3, V.c (C.ptr 2 0)), (37, V.c (C.sl Th z7)), (38, V.c (C.int IntKind.i64 z9)), (39, V.c (C.int IntKind.i64 z26))] [(0, Ob.amb), (1, Ob.box 25 [C.sl It z6, C.sl
   (Ty.sl In) z10, C.int IntKind.i64 z12]), (2, Ob.box 59 [C.sl It z4, C.sl Th z7])] 3 = St.mk 94 [(2, V.c (C.ptr 1 0)), (3, V.c (C.ptr 2 0)), (37, V.c (C.sl Th z7)), (38, V.c
   (C.int IntKind.i64 z9)), (39, V.c (C.int IntKind.i64 z26))] [(0, Ob.amb), (1, Ob.box 25 [C.sl It z6, C.sl (Ty.sl In) z10, C.int IntKind.i64 z12]), (2, Ob.box 59 [C.sl It z4, C.sl
   Th z7])] 3 ∧ I0 z27 ∧ mu0 z27 < mu0 v1)))))) (VC.br (Lv.cmp L BinOp.geq (Int.negSucc 0) 0) (VC.ok ((2, ()) = z3)) (VC.ok (St.mk 94 [(2, V.c (C.ptr 1 0)), (3, V.c (C.ptr 2 0)),
   (37, V.c (C.sl Th z7)), (38, V.c (C.int IntKind.i64 z9)), (39, V.c (C.int IntKind.i64 z26))] [(0, Ob.amb), (1, Ob.box 25 [C.sl It z6, C.sl (Ty.sl In) z10, C.int IntKind.i64
   z12]), (2, Ob.box 59 [C.sl It z4, C.sl Th z7])] 3 = St.mk 94 [(2, V.c (C.ptr 1 0)), (3, V.c (C.ptr 2 0)), (37, V.c (C.sl Th z7)), (38, V.c (C.int IntKind.i64 z9)), (39, V.c
   (C.int IntKind.i64 z26))] [(0, Ob.amb), (1, Ob.box 25 [C.sl It z6, C.sl (Ty.sl In) z10, C.int IntKind.i64 z12]), (2, Ob.box 59 [C.sl It z4, C.sl Th z7])] 3 ∧ I0 z27 ∧ mu0 z27 <
   mu0 v1))))))))) (VC.ok ((2, ()) = z3))))) (VC.ok ((2, ()) = z3)))) (VC.ok ((2, ()) = z3)))))) (VC.ok ((0, ()) = z3)))))) (VC.ok ((2, ()) = z3)))))))
theorem n45_eq (L : Lv) (F : BxF) (I0 : Ds [It] → Prop) (mu0 : Ds [It] → Nat) (I : Int × List KpD × Unit → Ds [It] → Prop) (mu : Int × List KpD × Unit → Ds [It] → Nat) (p : WkD) (s : StD) : vcO L F (o45 L I mu) [38, 86, 87, 92, 91, 93, 124] 6 (D45 (a45 L I0 mu0)) (S45 F) (p, s, ()) = n45 L F I0 mu0 I mu p s := by kernel_rfl
theorem n45_go (L : Lv) (F : BxF) (I0 : Ds [It] → Prop) (mu0 : Ds [It] → Nat) (I : Int × List KpD × Unit → Ds [It] → Prop) (mu : Int × List KpD × Unit → Ds [It] → Nat) (p : WkD) (s : StD) (h : VC.holds (n45 L F I0 mu0 I mu p s)) : Holds (vcO L F (o45 L I mu) [38, 86, 87, 92, 91, 93, 124] 6 (D45 (a45 L I0 mu0)) (S45 F) (p, s, ())) := Holds.of_eq (n45_eq L F I0 mu0 I mu p s) h
theorem ok45 (F : BxF) (h : F.ckSt = ckStF) (h1 : F.check = checkF) (h2 : F.nums = numsF) (h3 : F.isNum = isNumF) (h4 : F.within = withinF) (hp : F.pSt = fun p s => bW p ∧ bS s) (q : F.bl = bL) (q1 : F.bw = bW) (k1 : SpecOk prog 38 (S22 F)) (k2 : SpecOk prog 86 (S86 F)) (k3 : SpecOk prog 87 (S87 F)) (k4 : SpecOk prog 92 (S92 F)) : SpecOk prog 45 (S45 F) := by
  refine contract_by hm hE D45 fnok45 _ fun (z : WkD × StD × Unit) hpre => ?_
  obtain ⟨p, s, ⟨⟩⟩ := z
  have hpre' : F.pSt p s := hpre
  rw [hp] at hpre'
  obtain ⟨gw, g4, g5, g6⟩ := hpre'
  have gw' := gw
  obtain ⟨g1, g2, g3⟩ := gw
  let I0 : Int × Unit → Prop := Iv s.2.length fun j => thsN p s (s.2.length - j) = thsN p s s.2.length
  let I : Int × List KpD × Unit → Int × Unit → Prop := fun e => Iv e.2.1.length fun j => (e.2.1.drop j).all (kpOk s.1.length) = e.2.1.all (kpOk s.1.length)
  let mu : Int × List KpD × Unit → Int × Unit → Nat := fun e => Mu e.2.1.length
  refine pack _ 6 (a45 Lv.std I0 (Mu s.2.length)) (only_tab (T := tabO (o45 Lv.std I mu) (cT F)) (l := [38, 86, 87, 92, 91, 93, 124]) (tb_cons (tb_sp k1 (by kernel_rfl)) (tb_cons (tb_sp k2 (by kernel_rfl)) (tb_cons (tb_sp k3 (by kernel_rfl)) (tb_cons (tb_sp k4 (by kernel_rfl)) (tb_cons (tb_d (fnok91 a0) (by kernel_rfl)) (tb_cons (tb_d (fnok93 a0) (by kernel_rfl)) (tb_cons (tb_d (fnok124 (aIk Lv.std I mu)) (by kernel_rfl)) tb_nil)))))))) ?_
  refine n45_go Lv.std F I0 (Mu s.2.length) I mu p s ?_
  have e1 : ∀ (l : List ThD) (k : Int), Lv.std.get Th l k.toNat = (l[k.toNat]?).getD (0, [], [], [], false) := fun _ _ => rfl
  have e2 : ∀ (l : List (List InD)) (k : Int), Lv.std.get (.sl In) l k.toNat = (l[k.toNat]?).getD [] := fun _ _ => rfl
  have e3 : ∀ (l : List KpD) (k : Int), Lv.std.get Kp l k.toNat = (l[k.toNat]?).getD (0, 0) := fun _ _ => rfl
  have ew : IntKind.i64.wrap ((s.1.length : Int) - 1) = (s.1.length : Int) - 1 := wrap_i64 (by omega) (by omega)
  have neg1 : (Int.negSucc 0 : Int) = -1 := rfl
  simp only [n45, VC.holds, std_cmp, std_cast, std_llen, std_toN, e1, e2, e3, std_inR, std_ar_add, std_ar_sub, ew, neg1, cmp_lss_t, cmp_lss_f, cmp_gtr_t, cmp_gtr_f, cmp_geq_t, cmp_geq_f, cmp_neq_t, cmp_neq_f, cmp_eql_t, cmp_eql_f, h, h1, h2, h3, h4, q, q1, Prod.mk.injEq, and_true, true_and, Int.toNat_natCast]
  refine ⟨gw', fun c0 => ?_, fun c0 => ⟨fun c1 => ?_, fun c1 => ⟨fun c2 => ?_, fun c2 => ⟨g4, fun c3 => ⟨Iv.zero rfl, fun x hx => ?_⟩, fun c3 => ?_⟩⟩⟩⟩
  · rw [ckStF, if_pos c0]
  · rw [ckStF, if_neg (by simpa using c0), isStF, decide_eq_false (by omega : ¬ s.1.length = p.1.length)]; rfl
  · rw [ckStF, if_neg (by simpa using c0), isStF, decide_eq_false (by omega : ¬ s.2.length = p.2.1.length)]; simp
  · obtain ⟨j, rfl, hj, i3⟩ := Iv.elim hx
    simp only [Int.toNat_natCast]
    have hl : s.1.length = p.1.length := by omega
    have e0 : isStF p s = thsN p s s.2.length := by rw [isStF, decide_eq_true hl, decide_eq_true (by omega), c3]; rfl
    refine ⟨fun hlt => ⟨⟨by omega, hlt⟩, ?_⟩, fun hge => ?_⟩
    · have hj' : j < s.2.length := by omega
      generalize ht : (s.2[j]?).getD (0, [], [], [], false) = t
      have bt : bTh t := by rw [← ht, List.getElem?_eq_getElem hj']; exact g6 _ (List.getElem_mem hj')
      obtain ⟨b1, b2, b3⟩ := bt
      rw [thsN_step p s j hj', ht] at i3
      have no : thOk p j t = false → 2 = ckStF p s := fun e => by
        rw [e, Bool.false_and] at i3
        rw [ckStF, if_neg (by simpa using c0), e0, ← i3]; rfl
      have yes : thOk p j t = true → I0 (((j + 1 : Nat) : Int), ()) := fun e => by
        rw [e, Bool.true_and] at i3
        exact Iv.mk (by omega) i3
      have gen : ∀ (X : Prop), (thOk p j t = false → X) → X ∨ thOk p j t = true := fun X hX => by cases hh : thOk p j t with | false => exact .inl (hX hh) | true => exact .inr rfl
      refine ⟨fun d1 => no ?_, fun d1 => ⟨b1, fun d2 => ⟨b3, fun d3 => ⟨⟨by omega, by omega⟩, fun d4 => ⟨fun d5 => no ?_, fun d5 => ⟨fun d6 => no ?_, fun d6 => ⟨Iv.zero rfl, fun x hx => ?_⟩⟩⟩, fun d4 => no ?_⟩, fun d3 => no ?_⟩, fun d2 => no ?_⟩⟩
      · rw [thOk, decide_eq_false (by omega : ¬ t.2.1.length = 10)]; simp
      · rw [thOk, decide_eq_false (by omega : ¬ (t.2.2.1.length : Int) ≤ p.2.2)]; simp
      · rw [thOk, decide_eq_false (by omega : ¬ t.2.2.2.1.length ≤ 20)]; simp
      · obtain ⟨y, rfl, hy, m3⟩ := Iv.elim hx
        have hy1 : y ≤ t.2.2.1.length := hy
        simp only [Int.toNat_natCast] at m3 ⊢
        have all0 : t.2.2.1.all (kpOk p.1.length) = false → thOk p j t = false := fun e => by rw [thOk, e, Bool.and_false]
        have m3' : (t.2.2.1.drop y).all (kpOk p.1.length) = t.2.2.1.all (kpOk p.1.length) := by rw [← hl]; exact m3
        refine ⟨fun hlt2 => ⟨⟨by omega, hlt2⟩, fun e1 => ⟨fun e2 => ?_, fun e2 => ⟨fun _ => no (all0 ?_), fun hc => by omega⟩⟩, fun e1 => ⟨fun _ => no (all0 ?_), fun hc => by omega⟩⟩, fun hge2 => ⟨fun hc => by omega, fun _ => ?_⟩⟩
        · rw [all_drop _ _ y (0, 0) (by omega), kpOk, e1, e2, Bool.and_self, Bool.true_and] at m3
          rw [wr hlt2 b2]
          exact ⟨Iv.mk (by show y + 1 ≤ t.2.2.1.length; omega) m3, Mu.lt (n := t.2.2.1.length) (by omega)⟩
        · rw [← hl, all_drop _ _ y (0, 0) (by omega), kpOk, e2, Bool.and_false, Bool.false_and] at m3'
          exact (by rw [← hl]; exact m3'.symm)
        · rw [← hl, all_drop _ _ y (0, 0) (by omega), kpOk, e1, Bool.false_and, Bool.false_and] at m3'
          exact (by rw [← hl]; exact m3'.symm)
        · rw [show y = t.2.2.1.length by omega, List.drop_length] at m3'
          rw [wr hlt g5]
          exact ⟨yes (by rw [thOk, decide_eq_true (by omega), d2, d3, d4, decide_eq_true d5, decide_eq_true (by omega), ← m3']; rfl), Mu.lt (by omega)⟩
      · rw [thOk, d4]; simp
      · rw [thOk, d3]; simp
      · rw [thOk, d2]; simp
    · rw [show s.2.length - j = 0 by omega] at i3
      rw [ckStF, if_neg (by simpa using c0), e0, ← i3]; rfl
  · rw [ckStF, if_neg (by simpa using c0), isStF, c3]; simp
end Go.Proofs.Tryz
set_option autoImplicit false
set_option linter.all false
namespace Go.Proofs.Tryz
open Go Go.VM
set_option maxRecDepth 100000
def a43 (L : Lv) (I : Ds [.sl Th, It] → Prop) (mu : Ds [.sl Th, It] → Nat) : Nat → LAnn
  | 0 => anH L [1, 2, 3, 4] [(3, some 1, 99, Th)] [.br 3 1 Th, .s 4 It] I mu
  | _ => .no
def n43 (L : Lv) (F : BxF) (I : Ds [.sl Th, It] → Prop) (mu : Ds [.sl Th, It] → Nat) (s : StD)  : VC :=
 let z1 := Lv.take L It [] 0;
 let z2 := Lv.llen L It z1;
 let z3 := Prod.fst s;
 let z4 := Lv.add L z2 (Lv.llen L It z3);
 let z5 := Prod.snd s;
 let z6 := Lv.app L It z1 z3;
 let z7 := Int × List Int × List (Int × Int) × List Int × Bool;
 let z8 := Lv.llen L Th z5;
 let z9 := Lv.take L Kp [] 0;
 let z10 := Lv.llen L Kp z9; VC.obl (Lv.room L z4 8) (VC.obl (St.mk 45 [(1, V.c (C.ptr 1 0)), (2, V.c (C.ptr 2 0)), (3, V.c (C.ptr 5 0)), (4, V.c (C.int IntKind.i64 0))] [(0,
   Ob.amb), (1, Ob.box 59 [C.sl It z3, C.sl Th z5]), (2, Ob.box 59 [C.nils, C.nils]), (4, Ob.row 3 It z6), (5, Ob.box 59 [C.own 4 z4, C.own 7 0]), (7, Ob.row 99 Th [])] 8 = St.mk 45
   [(1, V.c (C.ptr 1 0)), (2, V.c (C.ptr 2 0)), (3, V.c (C.ptr 5 0)), (4, V.c (C.int IntKind.i64 0))] [(0, Ob.amb), (1, Ob.box 59 [C.sl It z3, C.sl Th z5]), (2, Ob.box 59 [C.nils,
   C.nils]), (4, Ob.row 3 It z6), (5, Ob.box 59 [C.own 4 z4, C.own 7 (Lv.llen L Th [])]), (7, Ob.row 99 Th [])] 8) (VC.obl (I ([], 0, ())) (VC.all (List z7 × Int × Unit) fun (v1 :
   List (Int × List Int × List (Int × Int) × List Int × Bool) × Int × Unit) =>
 let z11 := Prod.fst (Prod.snd v1);
 let z12 := Lv.get L Th z5 (Lv.toN L z11);
 let z13 := Prod.snd z12;
 let z14 := Prod.fst z13;
 let z15 := Lv.add L z2 (Lv.llen L It z14);
 let z16 := Prod.snd z13;
 let z17 := Prod.fst z16;
 let z18 := Lv.add L z10 (Lv.llen L Kp z17);
 let z19 := Prod.snd z16;
 let z20 := Prod.fst z19;
 let z21 := Lv.add L z2 (Lv.llen L It z20);
 let z22 := Prod.fst v1;
 let z23 := Lv.llen L Th z22;
 let z24 := Lv.take L Th z22 z23;
 let z25 := (Lv.take L Th [(Prod.fst z12, Lv.take L It (Lv.app L It z1 z14) z15, Lv.take L Kp (Lv.app L Kp z9 z17) z18, Lv.take L It (Lv.app L It z1 z20) z21, Prod.snd z19)] 1);
 let z26 := Lv.add L (Lv.llen L Th z24) (Lv.llen L Th z25);
 let z27 := Lv.ar L BinOp.add IntKind.i64 z11 1;
 let z28 := Lv.app L Th z24 z25;
 let z29 := (Lv.app L Th z24 z25, Lv.ar L BinOp.add IntKind.i64 z11 1, ()); VC.imp (I v1) (VC.br (Lv.cmp L BinOp.lss z11 (Lv.cast L z8)) (VC.obl (Lv.inR L z11 z8) (VC.obl (Lv.room L
   z15 8) (VC.obl (Lv.room L z18 16) (VC.obl (Lv.room L z21 8) (VC.obl (Lv.room L z26 88) (VC.ok (St.mk 45 [(1, V.c (C.ptr 1 0)), (2, V.c (C.ptr 2 0)), (3, V.c (C.ptr 5 0)), (4, V.c
   (C.int IntKind.i64 z27))] [(0, Ob.amb), (1, Ob.box 59 [C.sl It z3, C.sl Th z5]), (2, Ob.box 59 [C.nils, C.nils]), (4, Ob.row 3 It z6), (5, Ob.box 59 [C.own 4 z4, C.own 7 z26]),
   (7, Ob.row 99 Th z28)] 8 = St.mk 45 [(1, V.c (C.ptr 1 0)), (2, V.c (C.ptr 2 0)), (3, V.c (C.ptr 5 0)), (4, V.c (C.int IntKind.i64 z27))] [(0, Ob.amb), (1, Ob.box 59 [C.sl It z3,
   C.sl Th z5]), (2, Ob.box 59 [C.nils, C.nils]), (4, Ob.row 3 It z6), (5, Ob.box 59 [C.own 4 z4, C.own 7 (Lv.llen L Th z28)]), (7, Ob.row 99 Th z28)] 8 ∧ I z29 ∧ mu z29 < mu
   v1))))))) (VC.ok (((Lv.take L It z6 z4, Lv.take L Th z22 z23), ()) = (s, ())))))))
theorem n43_eq (L : Lv) (F : BxF) (I : Ds [.sl Th, It] → Prop) (mu : Ds [.sl Th, It] → Nat) (s : StD) : vcC L F [] (D43 (a43 L I mu)) (S43 F) (s, ()) = n43 L F I mu s := by kernel_rfl
theorem n43_go (L : Lv) (F : BxF) (I : Ds [.sl Th, It] → Prop) (mu : Ds [.sl Th, It] → Nat) (s : StD) (h : VC.holds (n43 L F I mu s)) : Holds (vcC L F [] (D43 (a43 L I mu)) (S43 F) (s, ())) := Holds.of_eq (n43_eq L F I mu s) h
theorem ok43 (F : BxF) (hp : F.bs = bS) : SpecOk prog 43 (S43 F) := by
  refine contract_by hm hE D43 fnok43 _ fun (z : StD × Unit) hpre => ?_
  obtain ⟨s, ⟨⟩⟩ := z
  have hpre' : F.bs s := hpre
  rw [hp] at hpre'
  obtain ⟨g1, g2, g3⟩ := hpre'
  let I : List ThD × Int × Unit → Prop := fun x => (0 ≤ x.2.1 ∧ x.2.1 ≤ s.2.length) ∧ x.1 = s.2.take x.2.1.toNat
  let mu : List ThD × Int × Unit → Nat := fun x => (s.2.length - x.2.1).toNat
  refine pack _ 3 (a43 Lv.std I mu) (only_tab (T := cT F) (l := []) tb_nil) ?_
  refine n43_go Lv.std F I mu s ?_
  simp only [n43, VC.holds, std_cmp, std_scmp, std_ar_add, std_ar_sub, std_ar_mul, std_ar, std_dv, std_shf, std_conv, std_mn, std_mx, std_beq, std_bnot, std_band, std_scat, std_byte, std_ext, std_slen, std_strOf, std_bytes, std_llen, std_get, std_setl, std_app, std_take, std_drop, std_rep, std_mhas, std_mval, std_mput, std_cast, std_toN, std_sub, std_add, std_inR, std_le3, std_leN, std_ltN, std_ne0, std_nonneg, std_catOk, std_room, std_mkOk, std_nth, std_cnt, cmp_lss_t, cmp_lss_f, cmp_leq_t, cmp_leq_f, cmp_gtr_t, cmp_gtr_f, cmp_geq_t, cmp_geq_f, cmp_eql_t, cmp_eql_f, cmp_neq_t, cmp_neq_f, scmp_eql_t, scmp_eql_f, scmp_neq_t, scmp_neq_f, dflt_int, dflt_bool, dflt_str, dflt_sl, dflt_pair, List.take_length, List.take_succ_cons, List.take_zero, List.take_nil, List.nil_append, List.length_append, List.length_cons, List.length_nil, Nat.zero_add, pe5, Prod.mk.injEq, and_true, true_and]
  refine ⟨⟨by omega, by omega⟩, ⟨⟨Int.le_refl 0, by show (0 : Int) ≤ s.2.length; omega⟩, rfl⟩, ?_⟩
  rintro ⟨l, x, ⟨⟩⟩ ⟨⟨i1, i2⟩, i3⟩
  simp only at i1 i2 i3 ⊢
  obtain ⟨k, rfl⟩ := nat_of i1
  rw [Int.toNat_natCast] at i3
  subst i3
  have hl : (s.2.take k).length = k := by rw [List.length_take]; omega
  rw [hl, Int.toNat_natCast]
  refine ⟨fun hlt => ?_, fun hge => ?_⟩
  · have hk : k < s.2.length := by omega
    rw [wr hlt g2, List.getElem?_eq_getElem hk, Option.getD_some]
    obtain ⟨b1, b2, b3⟩ := g3 _ (List.getElem_mem hk)
    refine ⟨⟨i1, hlt⟩, ⟨by omega, by omega⟩, ⟨by omega, by omega⟩, ⟨by omega, by omega⟩, ⟨by omega, by omega⟩, ⟨⟨by show (0 : Int) ≤ ((k + 1 : Nat) : Int); omega, by show ((k + 1 : Nat) : Int) ≤ _; omega⟩, ?_⟩, by show ((s.2.length : Int) - ((k + 1 : Nat) : Int)).toNat < ((s.2.length : Int) - k).toNat; omega⟩
    show s.2.take k ++ [s.2[k]] = s.2.take ((k + 1 : Nat) : Int).toNat
    rw [Int.toNat_natCast, List.take_succ, List.getElem?_eq_getElem hk]; rfl
  · rw [List.take_of_length_le (by omega)]
end Go.Proofs.Tryz
set_option autoImplicit false
set_option linter.all false
namespace Go.Proofs.Tryz
open Go Go.VM
set_option maxRecDepth 100000
def n28 (L : Lv) (F : BxF) (I : Ds [It] → Prop) (mu : Ds [It] → Nat) (p : WkD)  : VC :=
 let z1 := Prod.fst p;
 let z2 := Prod.fst (Prod.snd p);
 let z3 := Prod.snd (Prod.snd p);
 let z4 := Lv.llen L (Ty.sl In) z2;
 let z5 := Lv.cast L z4;
 let z6 := (BxF.long F p, ()); VC.obl (St.mk 28 [(1, V.c (C.ptr 1 0)), (3, V.c (C.int IntKind.i64 0))] [(0, Ob.amb), (1, Ob.box 25 [C.sl It z1, C.sl (Ty.sl In) z2, C.int IntKind.i64
   z3])] 2 = St.mk 28 [(1, V.c (C.ptr 1 0)), (3, V.c (C.int IntKind.i64 0))] [(0, Ob.amb), (1, Ob.box 25 [C.sl It z1, C.sl (Ty.sl In) z2, C.int IntKind.i64 z3])] 2) (VC.obl (I (0,
   ())) (VC.all (Int × Unit) fun (v1 : Int × Unit) =>
 let z7 := Prod.fst v1;
 let z8 := Lv.ar L BinOp.add IntKind.i64 z7 1;
 let z9 := (Lv.ar L BinOp.add IntKind.i64 z7 1, ()); VC.imp (I v1) (VC.br (Lv.cmp L BinOp.lss z7 z5) (VC.obl (Lv.inR L z7 z4) (VC.br (Lv.cmp L BinOp.gtr (Lv.cast L (Lv.llen L In
   (Lv.get L (Ty.sl In) z2 (Lv.toN L z7)))) 205) (VC.ok ((false, ()) = z6)) (VC.ok (St.mk 28 [(1, V.c (C.ptr 1 0)), (3, V.c (C.int IntKind.i64 z8))] [(0, Ob.amb), (1, Ob.box 25
   [C.sl It z1, C.sl (Ty.sl In) z2, C.int IntKind.i64 z3])] 2 = St.mk 28 [(1, V.c (C.ptr 1 0)), (3, V.c (C.int IntKind.i64 z8))] [(0, Ob.amb), (1, Ob.box 25 [C.sl It z1, C.sl (Ty.sl
   In) z2, C.int IntKind.i64 z3])] 2 ∧ I z9 ∧ mu z9 < mu v1)))) (VC.br (Lv.cmp L BinOp.leq (Lv.cast L (Lv.llen L It z1)) 70) (VC.br (Lv.cmp L BinOp.leq z5 6) (VC.ok ((true, ()) =
   z6)) (VC.ok ((false, ()) = z6))) (VC.ok ((false, ()) = z6))))))
theorem n28_eq (L : Lv) (F : BxF) (I : Ds [It] → Prop) (mu : Ds [It] → Nat) (p : WkD) : vcC L F [] (D28 (aT3 L I mu)) (S28 F) (p, ()) = n28 L F I mu p := by kernel_rfl
theorem n28_go (L : Lv) (F : BxF) (I : Ds [It] → Prop) (mu : Ds [It] → Nat) (p : WkD) (h : VC.holds (n28 L F I mu p)) : Holds (vcC L F [] (D28 (aT3 L I mu)) (S28 F) (p, ())) := Holds.of_eq (n28_eq L F I mu p) h
def n40 (L : Lv) (F : BxF) (I : Ds [It] → Prop) (mu : Ds [It] → Nat) (s : StD)  : VC :=
 let z1 := Prod.fst s;
 let z2 := (BxF.thinS F s, ());
 let z3 := Prod.snd s;
 let z4 := Lv.llen L Th z3;
 let z5 := Lv.cast L z4; VC.br (Lv.cmp L BinOp.gtr (Lv.cast L (Lv.llen L It z1)) 70) (VC.ok ((false, ()) = z2)) (VC.br (Lv.cmp L BinOp.gtr z5 5) (VC.ok ((false, ()) = z2)) (VC.obl
   (St.mk 43 [(1, V.c (C.ptr 1 0)), (3, V.c (C.int IntKind.i64 0))] [(0, Ob.amb), (1, Ob.box 59 [C.sl It z1, C.sl Th z3])] 2 = St.mk 43 [(1, V.c (C.ptr 1 0)), (3, V.c (C.int
   IntKind.i64 0))] [(0, Ob.amb), (1, Ob.box 59 [C.sl It z1, C.sl Th z3])] 2) (VC.obl (I (0, ())) (VC.all (Int × Unit) fun (v1 : Int × Unit) =>
 let z6 := Prod.fst v1;
 let z7 := Prod.snd (Lv.get L Th z3 (Lv.toN L z6));
 let z8 := Prod.snd z7;
 let z9 := Lv.ar L BinOp.add IntKind.i64 z6 1;
 let z10 := (Lv.ar L BinOp.add IntKind.i64 z6 1, ()); VC.imp (I v1) (VC.br (Lv.cmp L BinOp.lss z6 z5) (VC.obl (Lv.inR L z6 z4) (VC.br (Lv.cmp L BinOp.gtr (Lv.cast L (Lv.llen L It
   (Prod.fst z7))) 12) (VC.ok ((false, ()) = z2)) (VC.br (Lv.cmp L BinOp.gtr (Lv.cast L (Lv.llen L Kp (Prod.fst z8))) 25) (VC.ok ((false, ()) = z2)) (VC.br (Lv.cmp L BinOp.gtr
   (Lv.cast L (Lv.llen L It (Prod.fst (Prod.snd z8)))) 25) (VC.ok ((false, ()) = z2)) (VC.ok (St.mk 43 [(1, V.c (C.ptr 1 0)), (3, V.c (C.int IntKind.i64 z9))] [(0, Ob.amb), (1,
   Ob.box 59 [C.sl It z1, C.sl Th z3])] 2 = St.mk 43 [(1, V.c (C.ptr 1 0)), (3, V.c (C.int IntKind.i64 z9))] [(0, Ob.amb), (1, Ob.box 59 [C.sl It z1, C.sl Th z3])] 2 ∧ I z10 ∧ mu
   z10 < mu v1)))))) (VC.ok ((true, ()) = z2)))))))
theorem n40_eq (L : Lv) (F : BxF) (I : Ds [It] → Prop) (mu : Ds [It] → Nat) (s : StD) : vcC L F [] (D40 (aT3 L I mu)) (S40 F) (s, ()) = n40 L F I mu s := by kernel_rfl
theorem n40_go (L : Lv) (F : BxF) (I : Ds [It] → Prop) (mu : Ds [It] → Nat) (s : StD) (h : VC.holds (n40 L F I mu s)) : Holds (vcC L F [] (D40 (aT3 L I mu)) (S40 F) (s, ())) := Holds.of_eq (n40_eq L F I mu s) h
def longL2 (l : List InD) : Bool := decide ((l.length : Int) ≤ 205)
def longF (p : WkD) : Bool := p.2.1.all longL2 && decide ((p.1.length : Int) ≤ 70) && decide ((p.2.1.length : Int) ≤ 6)
def thinT (t : ThD) : Bool := !(decide (12 < (t.2.1.length : Int)) || decide (25 < (t.2.2.1.length : Int)) || decide (25 < (t.2.2.2.1.length : Int)))
def thinSF (s : StD) : Bool := !(decide (70 < (s.1.length : Int)) || decide (5 < (s.2.length : Int))) && s.2.all thinT
theorem ok28 (F : BxF) (h : F.long = longF) (hp : F.bwT = bwTF) : SpecOk prog 28 (S28 F) := by
  refine contract_by hm hE D28 fnok28 _ fun (z : WkD × Unit) hpre => ?_
  obtain ⟨p, ⟨⟩⟩ := z
  have hpre' : F.bwT p := hpre
  rw [hp] at hpre'
  obtain ⟨g1, g2, g3⟩ := hpre'
  let I : Int × Unit → Prop := Iv p.2.1.length fun k => (p.2.1.drop k).all longL2 = p.2.1.all longL2
  refine pack _ 3 (aT3 Lv.std I (Mu p.2.1.length)) (only_tab (T := cT F) (l := []) tb_nil) ?_
  refine n28_go Lv.std F I (Mu p.2.1.length) p ?_
  have e2 : ∀ (l : List (List InD)) (k : Int), Lv.std.get (.sl In) l k.toNat = (l[k.toNat]?).getD [] := fun _ _ => rfl
  simp only [n28, VC.holds, std_cmp, std_cast, std_llen, std_toN, e2, std_inR, std_ar_add, cmp_lss_t, cmp_lss_f, cmp_gtr_t, cmp_gtr_f, cmp_leq_t, cmp_leq_f, h, and_true, true_and]
  have et : ∀ l, longL2 l = true ↔ l.length ≤ 205 := fun l => by unfold longL2; rw [decide_eq_true_eq]; omega
  refine ⟨Iv.zero rfl, fun x hx => ?_⟩
  obtain ⟨k, rfl, hk, i3⟩ := Iv.elim hx
  simp only [Int.toNat_natCast]
  refine ⟨fun hlt => ⟨⟨by omega, hlt⟩, fun hb => ?_, fun hb => ?_⟩, fun hge => ?_⟩
  · rw [all_drop longL2 _ k [] (by omega), show longL2 ((p.2.1[k]?).getD []) = false from decide_eq_false (by omega), Bool.false_and] at i3
    unfold longF; rw [← i3]; rfl
  · rw [all_drop longL2 _ k [] (by omega), show longL2 ((p.2.1[k]?).getD []) = true from decide_eq_true hb, Bool.true_and] at i3
    rw [wrB hlt g2]
    exact ⟨Iv.mk (by omega) i3, Mu.lt (by omega)⟩
  · rw [show k = p.2.1.length by omega, List.drop_length] at i3
    have i3 : true = p.2.1.all longL2 := i3
    unfold longF
    rw [← i3]
    refine ⟨fun h1 => ⟨fun h2 => ?_, fun h2 => ?_⟩, fun h1 => ?_⟩
    · rw [decide_eq_true h1, decide_eq_true h2]; rfl
    · rw [decide_eq_false (show ¬ (p.2.1.length : Int) ≤ 6 by omega), Bool.and_false]
    · rw [decide_eq_false (show ¬ (p.1.length : Int) ≤ 70 by omega)]; rfl
theorem ok40 (F : BxF) (h : F.thinS = thinSF) (hp : F.bsT = bsTF) : SpecOk prog 40 (S40 F) := by
  refine contract_by hm hE D40 fnok40 _ fun (z : StD × Unit) hpre => ?_
  obtain ⟨s, ⟨⟩⟩ := z
  have hpre' : F.bsT s := hpre
  rw [hp] at hpre'
  obtain ⟨g1, g2⟩ := hpre'
  let I : Int × Unit → Prop := Iv s.2.length fun k => (s.2.drop k).all thinT = s.2.all thinT
  refine pack _ 3 (aT3 Lv.std I (Mu s.2.length)) (only_tab (T := cT F) (l := []) tb_nil) ?_
  refine n40_go Lv.std F I (Mu s.2.length) s ?_
  have e2 : ∀ (l : List ThD) (k : Int), Lv.std.get Th l k.toNat = (l[k.toNat]?).getD (0, [], [], [], false) := fun _ _ => rfl
  simp only [n40, VC.holds, std_cmp, std_cast, std_llen, std_toN, e2, std_inR, std_ar_add, cmp_lss_t, cmp_lss_f, cmp_gtr_t, cmp_gtr_f, cmp_leq_t, cmp_leq_f, h, and_true, true_and]
  have et : ∀ t, thinT t = true ↔ ¬ (12 < (t.2.1.length : Int) ∨ 25 < (t.2.2.1.length : Int) ∨ 25 < (t.2.2.2.1.length : Int)) := fun t => by
    unfold thinT; simp only [Bool.not_eq_true', Bool.or_eq_false_iff, decide_eq_false_iff_not]; omega
  have ew : thinSF s = true ↔ ¬ (70 < (s.1.length : Int) ∨ 5 < (s.2.length : Int)) ∧ s.2.all thinT = true := by
    unfold thinSF; simp only [Bool.and_eq_true, Bool.not_eq_true', Bool.or_eq_false_iff, decide_eq_false_iff_not]
    constructor
    · rintro ⟨h1, h2⟩; exact ⟨by omega, h2⟩
    · rintro ⟨h1, h2⟩; exact ⟨by omega, h2⟩
  have fls : ¬ (thinSF s = true) → (false, ()) = (thinSF s, ()) := fun h => by rw [Bool.not_eq_true] at h; rw [h]
  have fw : (70 < (s.1.length : Int) ∨ 5 < (s.2.length : Int)) → (false, ()) = (thinSF s, ()) := fun h => fls fun e => (ew.1 e).1 h
  refine ⟨fun a => fw (by omega), fun a => ⟨fun b => fw (by omega), fun b => ⟨Iv.zero rfl, fun x hx => ?_⟩⟩⟩
  obtain ⟨k, rfl, hk, i3⟩ := Iv.elim hx
  simp only [Int.toNat_natCast]
  refine ⟨fun hlt => ⟨⟨by omega, hlt⟩, ?_⟩, fun hge => ?_⟩
  · have hk' : k < s.2.length := by omega
    have fail' : (12 < (((s.2[k]?).getD (0, [], [], [], false)).2.1.length : Int) ∨ 25 < (((s.2[k]?).getD (0, [], [], [], false)).2.2.1.length : Int) ∨ 25 < (((s.2[k]?).getD (0, [], [], [], false)).2.2.2.1.length : Int)) → (false, ()) = (thinSF s, ()) := fun h => fls fun e => by
      rw [(ew.1 e).2, all_drop _ _ k (0, [], [], [], false) hk', Bool.and_eq_true] at i3
      exact (et _).1 i3.1 h
    have passI' : ¬ (12 < (((s.2[k]?).getD (0, [], [], [], false)).2.1.length : Int) ∨ 25 < (((s.2[k]?).getD (0, [], [], [], false)).2.2.1.length : Int) ∨ 25 < (((s.2[k]?).getD (0, [], [], [], false)).2.2.2.1.length : Int)) → I (IntKind.i64.wrap ((k : Int) + 1), ()) := fun h => by
      rw [all_drop _ _ k (0, [], [], [], false) hk', (et _).2 h, Bool.true_and] at i3
      rw [wrB hlt g2]
      exact Iv.mk (by omega) i3
    have passM' : Mu s.2.length (IntKind.i64.wrap ((k : Int) + 1), ()) < Mu s.2.length ((k : Int), ()) := by rw [wrB hlt g2]; exact Mu.lt hk'
    clear_value I
    repeat' (first | refine And.intro ?_ ?_ | intro _)
    all_goals first | exact passM' | exact fail' (by omega) | exact passI' (by omega)
  · rw [show k = s.2.length by omega, List.drop_length] at i3
    have i3 : true = s.2.all thinT := i3
    rw [ew.2 ⟨by omega, i3.symm⟩]
end Go.Proofs.Tryz
set_option autoImplicit false
set_option linter.all false
namespace Go.Proofs.Tryz
open Go Go.VM
set_option maxRecDepth 100000
def a89 (L : Lv) (I : Ds [It] → Prop) (mu : Ds [It] → Nat) : Nat → LAnn
  | 0 => anH L [1, 3, 5, 7] [] [.s 7 It] I mu
  | _ => .no
def a41 (L : Lv) (I : Ds [It] → Prop) (mu : Ds [It] → Nat) : Nat → LAnn
  | 0 => anH L [2, 3, 5] [] [.s 5 It] I mu
  | _ => .no
def n89 (L : Lv) (F : BxF) (I : Ds [It] → Prop) (mu : Ds [It] → Nat) (p : WkD) (k : Int) (t : ThD)  : VC :=
 let z1 := Prod.fst p;
 let z2 := Prod.fst (Prod.snd p);
 let z3 := Prod.snd (Prod.snd p);
 let z4 := Prod.fst t;
 let z5 := Prod.fst (Prod.snd t);
 let z6 := Prod.snd (Prod.snd t);
 let z7 := Prod.fst z6;
 let z8 := Prod.snd z6;
 let z9 := Prod.fst z8;
 let z10 := Prod.snd z8;
 let z11 := Lv.llen L Kp z7;
 let z12 := Lv.cast L z11;
 let z13 := (BxF.isTh F p k t, ()); VC.obl (St.mk 76 [(1, V.c (C.int IntKind.i64 k)), (3, V.c (C.ptr 1 0)), (5, V.c (C.ptr 2 0)), (7, V.c (C.int IntKind.i64 0))] [(0, Ob.amb), (1,
   Ob.box 25 [C.sl It z1, C.sl (Ty.sl In) z2, C.int IntKind.i64 z3]), (2, Ob.box 99 [C.int IntKind.i64 z4, C.sl It z5, C.sl Kp z7, C.sl It z9, C.sym z10])] 3 = St.mk 76 [(1, V.c
   (C.int IntKind.i64 k)), (3, V.c (C.ptr 1 0)), (5, V.c (C.ptr 2 0)), (7, V.c (C.int IntKind.i64 0))] [(0, Ob.amb), (1, Ob.box 25 [C.sl It z1, C.sl (Ty.sl In) z2, C.int IntKind.i64
   z3]), (2, Ob.box 99 [C.int IntKind.i64 z4, C.sl It z5, C.sl Kp z7, C.sl It z9, C.sym z10])] 3) (VC.obl (I (0, ())) (VC.all (Int × Unit) fun (v1 : Int × Unit) =>
 let z14 := Prod.fst v1;
 let z15 := Lv.inR L z14 z11;
 let z16 := Lv.get L Kp z7 (Lv.toN L z14);
 let z17 := Lv.ar L BinOp.add IntKind.i64 z14 1;
 let z18 := (Lv.ar L BinOp.add IntKind.i64 z14 1, ()); VC.imp (I v1) (VC.br (Lv.cmp L BinOp.lss z14 z12) (VC.obl z15 (VC.obl True (VC.br (BxF.within F (Prod.fst z16) 0 (Lv.ar L
   BinOp.sub IntKind.i64 (Lv.cast L (Lv.llen L It z1)) 1)) (VC.obl z15 (VC.obl True (VC.br (BxF.isNum F (Prod.snd z16)) (VC.ok (St.mk 76 [(1, V.c (C.int IntKind.i64 k)), (3, V.c
   (C.ptr 1 0)), (5, V.c (C.ptr 2 0)), (7, V.c (C.int IntKind.i64 z17))] [(0, Ob.amb), (1, Ob.box 25 [C.sl It z1, C.sl (Ty.sl In) z2, C.int IntKind.i64 z3]), (2, Ob.box 99 [C.int
   IntKind.i64 z4, C.sl It z5, C.sl Kp z7, C.sl It z9, C.sym z10])] 3 = St.mk 76 [(1, V.c (C.int IntKind.i64 k)), (3, V.c (C.ptr 1 0)), (5, V.c (C.ptr 2 0)), (7, V.c (C.int
   IntKind.i64 z17))] [(0, Ob.amb), (1, Ob.box 25 [C.sl It z1, C.sl (Ty.sl In) z2, C.int IntKind.i64 z3]), (2, Ob.box 99 [C.int IntKind.i64 z4, C.sl It z5, C.sl Kp z7, C.sl It z9,
   C.sym z10])] 3 ∧ I z18 ∧ mu z18 < mu v1)) (VC.ok ((false, ()) = z13))))) (VC.ok ((false, ()) = z13))))) (VC.obl (Lv.inR L k (Lv.llen L (Ty.sl In) z2)) (VC.obl True (VC.br
   (BxF.within F z4 0 (Lv.cast L (Lv.llen L In (Lv.get L (Ty.sl In) z2 (Lv.toN L k))))) (VC.br (Lv.cmp L BinOp.eql (Lv.cast L (Lv.llen L It z5)) 10) (VC.obl (BxF.bl F z5) (VC.br
   (BxF.nums F z5) (VC.br (Lv.cmp L BinOp.leq z12 z3) (VC.br (Lv.cmp L BinOp.leq (Lv.cast L (Lv.llen L It z9)) 20) (VC.obl (BxF.bl F z9) (VC.br (BxF.nums F z9) (VC.ok ((true, ()) =
   z13)) (VC.ok ((false, ()) = z13)))) (VC.ok ((false, ()) = z13))) (VC.ok ((false, ()) = z13))) (VC.ok ((false, ()) = z13)))) (VC.ok ((false, ()) = z13))) (VC.ok ((false, ()) =
   z13))))))))
theorem n89_eq (L : Lv) (F : BxF) (I : Ds [It] → Prop) (mu : Ds [It] → Nat) (p : WkD) (k : Int) (t : ThD) : vcC L F [54, 63, 88] (D89 (a89 L I mu)) (S89 F) (p, k, t, ()) = n89 L F I mu p k t := by kernel_rfl
theorem n89_go (L : Lv) (F : BxF) (I : Ds [It] → Prop) (mu : Ds [It] → Nat) (p : WkD) (k : Int) (t : ThD) (h : VC.holds (n89 L F I mu p k t)) : Holds (vcC L F [54, 63, 88] (D89 (a89 L I mu)) (S89 F) (p, k, t, ())) := Holds.of_eq (n89_eq L F I mu p k t) h
def n41 (L : Lv) (F : BxF) (I : Ds [It] → Prop) (mu : Ds [It] → Nat) (p : WkD) (s : StD)  : VC :=
 let z1 := Prod.fst s;
 let z2 := Prod.fst p;
 let z3 := (BxF.isSt F p s, ());
 let z4 := Prod.snd s;
 let z5 := Lv.llen L Th z4;
 let z6 := Lv.cast L z5;
 let z7 := Prod.snd p;
 let z8 := Prod.fst z7;
 let z9 := Prod.snd z7;
 let z10 := (Prod.fst p, Prod.fst z7, Prod.snd z7); VC.br (Lv.cmp L BinOp.neq (Lv.cast L (Lv.llen L It z1)) (Lv.cast L (Lv.llen L It z2))) (VC.ok ((false, ()) = z3)) (VC.br (Lv.cmp
   L BinOp.neq z6 (Lv.cast L (Lv.llen L (Ty.sl In) z8))) (VC.ok ((false, ()) = z3)) (VC.obl (BxF.bl F z1) (VC.br (BxF.nums F z1) (VC.obl (St.mk 44 [(2, V.c (C.ptr 1 0)), (3, V.c
   (C.ptr 2 0)), (5, V.c (C.int IntKind.i64 0))] [(0, Ob.amb), (1, Ob.box 25 [C.sl It z2, C.sl (Ty.sl In) z8, C.int IntKind.i64 z9]), (2, Ob.box 59 [C.sl It z1, C.sl Th z4])] 3 =
   St.mk 44 [(2, V.c (C.ptr 1 0)), (3, V.c (C.ptr 2 0)), (5, V.c (C.int IntKind.i64 0))] [(0, Ob.amb), (1, Ob.box 25 [C.sl It z2, C.sl (Ty.sl In) z8, C.int IntKind.i64 z9]), (2,
   Ob.box 59 [C.sl It z1, C.sl Th z4])] 3) (VC.obl (I (0, ())) (VC.all (Int × Unit) fun (v1 : Int × Unit) =>
 let z11 := Prod.fst v1;
 let z12 := Lv.get L Th z4 (Lv.toN L z11);
 let z13 := Prod.snd z12;
 let z14 := Prod.snd z13;
 let z15 := Prod.snd z14;
 let z16 := (Prod.fst z12, Prod.fst z13, Prod.fst z14, Prod.fst z15, Prod.snd z15);
 let z17 := Lv.ar L BinOp.add IntKind.i64 z11 1;
 let z18 := (Lv.ar L BinOp.add IntKind.i64 z11 1, ()); VC.imp (I v1) (VC.br (Lv.cmp L BinOp.lss z11 z6) (VC.obl (Lv.inR L z11 z5) (VC.obl (BxF.pTh F z10 z11 z16) (VC.br (BxF.isTh F
   z10 z11 z16) (VC.ok (St.mk 44 [(2, V.c (C.ptr 1 0)), (3, V.c (C.ptr 2 0)), (5, V.c (C.int IntKind.i64 z17))] [(0, Ob.amb), (1, Ob.box 25 [C.sl It z2, C.sl (Ty.sl In) z8, C.int
   IntKind.i64 z9]), (2, Ob.box 59 [C.sl It z1, C.sl Th z4])] 3 = St.mk 44 [(2, V.c (C.ptr 1 0)), (3, V.c (C.ptr 2 0)), (5, V.c (C.int IntKind.i64 z17))] [(0, Ob.amb), (1, Ob.box 25
   [C.sl It z2, C.sl (Ty.sl In) z8, C.int IntKind.i64 z9]), (2, Ob.box 59 [C.sl It z1, C.sl Th z4])] 3 ∧ I z18 ∧ mu z18 < mu v1)) (VC.ok ((false, ()) = z3))))) (VC.ok ((true, ()) =
   z3)))))) (VC.ok ((false, ()) = z3)))))
theorem n41_eq (L : Lv) (F : BxF) (I : Ds [It] → Prop) (mu : Ds [It] → Nat) (p : WkD) (s : StD) : vcC L F [88, 89] (D41 (a41 L I mu)) (S41 F) (p, s, ()) = n41 L F I mu p s := by kernel_rfl
theorem n41_go (L : Lv) (F : BxF) (I : Ds [It] → Prop) (mu : Ds [It] → Nat) (p : WkD) (s : StD) (h : VC.holds (n41 L F I mu p s)) : Holds (vcC L F [88, 89] (D41 (a41 L I mu)) (S41 F) (p, s, ())) := Holds.of_eq (n41_eq L F I mu p s) h
theorem ok89 (F : BxF) (h : F.isTh = fun p k t => thOk p k.toNat t) (h1 : F.isNum = isNumF) (h2 : F.within = withinF) (h3 : F.nums = numsF) (hp : F.pTh = fun p k t => p.1.length ≤ 1000000 ∧ (0 ≤ k ∧ k < p.2.1.length) ∧ bTh t) (q : F.bl = bL) (k1 : SpecOk prog 54 (S86 F)) (k2 : SpecOk prog 63 (S92 F)) (k3 : SpecOk prog 88 (S87 F)) : SpecOk prog 89 (S89 F) := by
  refine contract_by hm hE D89 fnok89 _ fun (z : WkD × Int × ThD × Unit) hpre => ?_
  obtain ⟨p, k, t, ⟨⟩⟩ := z
  have hpre' : F.pTh p k t := hpre
  rw [hp] at hpre'
  obtain ⟨g1, g2, g3, g4, g5⟩ := hpre'
  obtain ⟨k, rfl⟩ := nat_of g2.1
  let I : Int × Unit → Prop := Iv t.2.2.1.length fun j => (t.2.2.1.drop j).all (kpOk p.1.length) = t.2.2.1.all (kpOk p.1.length)
  refine pack _ 3 (a89 Lv.std I (Mu t.2.2.1.length)) (only_tab (T := cT F) (l := [54, 63, 88]) (tb_cons (tb_sp k1 (by kernel_rfl)) (tb_cons (tb_sp k2 (by kernel_rfl)) (tb_cons (tb_sp k3 (by kernel_rfl)) tb_nil)))) ?_
  refine n89_go Lv.std F I (Mu t.2.2.1.length) p k t ?_
  have eI : ∀ (l : List (List InD)) (k : Int), Lv.std.get (.sl In) l k.toNat = (l[k.toNat]?).getD [] := fun _ _ => rfl
  have eJ : ∀ (l : List KpD) (k : Int), Lv.std.get Kp l k.toNat = (l[k.toNat]?).getD (0, 0) := fun _ _ => rfl
  have ew : IntKind.i64.wrap ((p.1.length : Int) - 1) = (p.1.length : Int) - 1 := wrap_i64 (by omega) (by omega)
  simp only [n89, VC.holds, std_cmp, std_cast, std_llen, std_toN, eI, eJ, std_inR, std_ar_add, std_ar_sub, ew, cmp_lss_t, cmp_lss_f, cmp_leq_t, cmp_leq_f, cmp_eql_t, cmp_eql_f, h, h1, h2, h3, q, Prod.mk.injEq, and_true, true_and, Int.toNat_natCast]
  refine ⟨Iv.zero rfl, fun x hx => ?_⟩
  obtain ⟨j, rfl, hj, i3⟩ := Iv.elim hx
  simp only [Int.toNat_natCast]
  have no : t.2.2.1.all (kpOk p.1.length) = false → false = thOk p k t := fun e => by rw [thOk, e, Bool.and_false]
  refine ⟨fun hlt => ⟨⟨by omega, hlt⟩, fun ha => ⟨⟨by omega, hlt⟩, fun hb => ?_, fun hb => ?_⟩, fun ha => ?_⟩, fun hge => ⟨g2, fun a1 => ⟨fun a2 => ⟨g3, fun a3 => ⟨fun a4 => ⟨fun a5 => ⟨g5, fun a6 => ?_, fun a6 => ?_⟩, fun a5 => ?_⟩, fun a4 => ?_⟩, fun a3 => ?_⟩, fun a2 => ?_⟩, fun a1 => ?_⟩⟩
  · rw [all_drop _ _ j (0, 0) (by omega), kpOk, ha, hb, Bool.and_self, Bool.true_and] at i3
    rw [wr hlt g4]
    exact ⟨Iv.mk (by omega) i3, Mu.lt (by omega)⟩
  · rw [all_drop _ _ j (0, 0) (by omega), kpOk, hb, Bool.and_false, Bool.false_and] at i3
    exact no i3.symm
  · rw [all_drop _ _ j (0, 0) (by omega), kpOk, ha, Bool.false_and, Bool.false_and] at i3
    exact no i3.symm
  · have a1' : withinF t.1 0 (((p.2.1[k]?).getD []).length : Int) = true := a1
    rw [show j = t.2.2.1.length by omega, List.drop_length] at i3
    rw [thOk, decide_eq_true (by omega), a3, a6, a1', decide_eq_true a4, decide_eq_true (by omega), ← i3]; rfl
  · rw [thOk, a6]; simp
  · rw [thOk, decide_eq_false (by omega : ¬ t.2.2.2.1.length ≤ 20)]; simp
  · rw [thOk, decide_eq_false (by omega : ¬ (t.2.2.1.length : Int) ≤ p.2.2)]; simp
  · rw [thOk, a3]; simp
  · rw [thOk, decide_eq_false (by omega : ¬ t.2.1.length = 10)]; simp
  · have a1' : withinF t.1 0 (((p.2.1[k]?).getD []).length : Int) = false := a1
    rw [thOk, a1']; simp
theorem ok41 (F : BxF) (h : F.isSt = isStF) (h1 : F.isTh = fun p k t => thOk p k.toNat t) (h2 : F.nums = numsF) (hp : F.pSt = fun p s => bW p ∧ bS s) (q : F.bl = bL) (q1 : F.pTh = fun p k t => p.1.length ≤ 1000000 ∧ (0 ≤ k ∧ k < p.2.1.length) ∧ bTh t) (k1 : SpecOk prog 88 (S87 F)) (k2 : SpecOk prog 89 (S89 F)) : SpecOk prog 41 (S41 F) := by
  refine contract_by hm hE D41 fnok41 _ fun (z : WkD × StD × Unit) hpre => ?_
  obtain ⟨p, s, ⟨⟩⟩ := z
  have hpre' : F.pSt p s := hpre
  rw [hp] at hpre'
  obtain ⟨⟨g1, g2, g3⟩, g4, g5, g6⟩ := hpre'
  let I : Int × Unit → Prop := Iv s.2.length fun j => thsN p s (s.2.length - j) = thsN p s s.2.length
  refine pack _ 3 (a41 Lv.std I (Mu s.2.length)) (only_tab (T := cT F) (l := [88, 89]) (tb_cons (tb_sp k1 (by kernel_rfl)) (tb_cons (tb_sp k2 (by kernel_rfl)) tb_nil))) ?_
  refine n41_go Lv.std F I (Mu s.2.length) p s ?_
  have eT : ∀ (l : List ThD) (k : Int), Lv.std.get Th l k.toNat = (l[k.toNat]?).getD (0, [], [], [], false) := fun _ _ => rfl
  simp only [n41, VC.holds, std_cmp, std_cast, std_llen, std_toN, eT, std_inR, std_ar_add, cmp_lss_t, cmp_lss_f, cmp_neq_t, cmp_neq_f, h, h1, h2, q, q1, Prod.mk.injEq, and_true, true_and]
  refine ⟨fun c1 => ?_, fun c1 => ⟨fun c2 => ?_, fun c2 => ⟨g4, fun c3 => ⟨Iv.zero rfl, fun x hx => ?_⟩, fun c3 => ?_⟩⟩⟩
  · rw [isStF, decide_eq_false (by omega : ¬ s.1.length = p.1.length)]; rfl
  · rw [isStF, decide_eq_false (by omega : ¬ s.2.length = p.2.1.length)]; simp
  · obtain ⟨j, rfl, hj, i3⟩ := Iv.elim hx
    simp only [Int.toNat_natCast]
    have e0 : isStF p s = thsN p s s.2.length := by rw [isStF, decide_eq_true (by omega), decide_eq_true (by omega), c3]; rfl
    refine ⟨fun hlt => ⟨⟨by omega, hlt⟩, ⟨g1, ⟨by omega, by omega⟩, ?_⟩, fun ha => ?_, fun ha => ?_⟩, fun hge => ?_⟩
    · rw [List.getElem?_eq_getElem (by omega)]; exact g6 _ (List.getElem_mem (by omega))
    · rw [thsN_step p s j (by omega)] at i3
      have ha' : thOk p j ((s.2[j]?).getD (0, [], [], [], false)) = true := ha
      rw [ha', Bool.true_and] at i3
      rw [wr hlt g5]
      exact ⟨Iv.mk (by omega) i3, Mu.lt (by omega)⟩
    · rw [thsN_step p s j (by omega)] at i3
      have ha' : thOk p j ((s.2[j]?).getD (0, [], [], [], false)) = false := ha
      rw [ha', Bool.false_and] at i3
      rw [e0]; exact i3
    · rw [show s.2.length - j = 0 by omega] at i3
      rw [e0]; exact i3
  · rw [isStF, c3]; simp
end Go.Proofs.Tryz
set_option autoImplicit false
set_option linter.all false
namespace Go.Proofs.Tryz
open Go Go.VM
section
variable {m : McD} {a : Nat} {l : List MtD}
end
theorem ended_iff {m : McD} {s : StD} : endedF m s = true ↔ movesF m s = [] := decide_eq_true_iff
end Go.Proofs.Tryz
set_option autoImplicit false
set_option linter.all false
namespace Go.Proofs.Tryz
open Go Go.VM
set_option maxRecDepth 100000
def n42 (L : Lv) (F : BxF) (p : WkD) (s : StD)  : VC :=
 let z1 := (Prod.fst p, Prod.fst (Prod.snd p), Prod.snd (Prod.snd p));
 let z2 := (Prod.fst s, Prod.snd s);
 let z3 := (Prod.fst (BxF.mvE F p s), Prod.snd (BxF.mvE F p s), ()); VC.obl (BxF.pSt F z1 z2) (VC.br (Lv.cmp L BinOp.neq (BxF.ckSt F z1 z2) 0) (VC.ok (([], BxF.ckSt F z1 z2, ()) =
   z3)) (VC.obl (BxF.pE F z2 (z1, false)) (VC.ok ((BxF.moves F (z1, false) z2, 0, ()) = z3))))
theorem n42_eq (L : Lv) (F : BxF) (p : WkD) (s : StD) : vcC L F [45, 90] (D42 a0) (S42 F) (p, s, ()) = n42 L F p s := by kernel_rfl
theorem n42_go (L : Lv) (F : BxF) (p : WkD) (s : StD) (h : VC.holds (n42 L F p s)) : Holds (vcC L F [45, 90] (D42 a0) (S42 F) (p, s, ())) := Holds.of_eq (n42_eq L F p s) h
def mvsF (p : WkD) (s : StD) : List MvD × Int := if ckStF p s ≠ 0 then ([], ckStF p s) else (movesF (p, false) s, 0)
theorem ok42 (F : BxF) (h : F.mvE = mvsF) (h1 : F.ckSt = ckStF) (h2 : F.moves = movesF) (hp : F.pSt = fun p s => bW p ∧ bS s) (q : F.pE = pEF) (k1 : SpecOk prog 45 (S45 F)) (k2 : SpecOk prog 90 (S90 F)) : SpecOk prog 42 (S42 F) := by
  refine contract_by hm hE D42 fnok42 _ fun (z : WkD × StD × Unit) hpre => ?_
  obtain ⟨p, s, ⟨⟩⟩ := z
  have hpre' : F.pSt p s := hpre
  rw [hp] at hpre'
  refine pack _ 3 a0 (only_tab (T := cT F) (l := [45, 90]) (tb_cons (tb_sp k1 (by kernel_rfl)) (tb_cons (tb_sp k2 (by kernel_rfl)) tb_nil))) ?_
  refine n42_go Lv.std F p s ?_
  simp only [n42, VC.holds, std_cmp, std_scmp, std_ar_add, std_ar_sub, std_ar_mul, std_ar, std_dv, std_shf, std_conv, std_mn, std_mx, std_beq, std_bnot, std_band, std_scat, std_byte, std_ext, std_slen, std_strOf, std_bytes, std_llen, std_get, std_setl, std_app, std_take, std_drop, std_rep, std_mhas, std_mval, std_mput, std_cast, std_toN, std_sub, std_add, std_inR, std_le3, std_leN, std_ltN, std_ne0, std_nonneg, std_catOk, std_room, std_mkOk, std_nth, std_cnt, cmp_lss_t, cmp_lss_f, cmp_leq_t, cmp_leq_f, cmp_gtr_t, cmp_gtr_f, cmp_geq_t, cmp_geq_f, cmp_eql_t, cmp_eql_f, cmp_neq_t, cmp_neq_f, scmp_eql_t, scmp_eql_f, scmp_neq_t, scmp_neq_f, dflt_int, dflt_bool, dflt_str, dflt_sl, dflt_pair, h, h1, h2, hp, q, mvsF, pe5, Prod.mk.injEq, and_true, true_and]
  exact ⟨hpre', fun c => by rw [if_pos c]; exact ⟨rfl, rfl⟩, fun c => ⟨by obtain ⟨o1, o2⟩ := (ckSt_iff p s).1 c; exact ok_pE o1 o2, by rw [if_neg (by simpa using c)]; exact ⟨rfl, rfl⟩⟩⟩
end Go.Proofs.Tryz
set_option autoImplicit false
set_option linter.all false
namespace Go.Proofs.Tryz
open Go Go.VM
set_option maxRecDepth 100000
def n44 (L : Lv) (F : BxF) (p : WkD) (s : StD)  : VC :=
 let z1 := (Prod.fst p, Prod.fst (Prod.snd p), Prod.snd (Prod.snd p));
 let z2 := (Prod.fst s, Prod.snd s);
 let z3 := (Prod.fst (BxF.endE F p s), Prod.snd (BxF.endE F p s), ());
 let z4 := (BxF.endOf F (z1, false) z2);
 let z5 := Prod.snd z4; VC.obl (BxF.pSt F z1 z2) (VC.br (Lv.cmp L BinOp.neq (BxF.ckSt F z1 z2) 0) (VC.ok ((([], [], []), BxF.ckSt F z1 z2, ()) = z3)) (VC.obl (BxF.pE F z2 (z1,
   false)) (VC.br (BxF.ended F (z1, false) z2) (VC.obl (BxF.pEnd F (z1, false) z2) (VC.ok (((Prod.fst z4, Prod.fst z5, Prod.snd z5), 0, ()) = z3))) (VC.ok ((([], [], []), 9, ()) =
   z3)))))
theorem n44_eq (L : Lv) (F : BxF) (p : WkD) (s : StD) : vcC L F [45, 69, 71] (D44 a0) (S44 F) (p, s, ()) = n44 L F p s := by kernel_rfl
theorem n44_go (L : Lv) (F : BxF) (p : WkD) (s : StD) (h : VC.holds (n44 L F p s)) : Holds (vcC L F [45, 69, 71] (D44 a0) (S44 F) (p, s, ())) := Holds.of_eq (n44_eq L F p s) h
def endEF (p : WkD) (s : StD) : EnD × Int := if ckStF p s ≠ 0 then (([], [], []), ckStF p s) else if endedF (p, false) s = true then (endOfF (p, false) s, 0) else (([], [], []), 9)
theorem ok44 (F : BxF) (h : F.endE = endEF) (h1 : F.ckSt = ckStF) (h2 : F.ended = endedF) (h3 : F.endOf = endOfF) (hp : F.pSt = fun p s => bW p ∧ bS s) (q : F.pE = pEF) (q1 : F.pEnd = fun m s => bS s ∧ s.2.length ≤ m.1.2.1.length) (k1 : SpecOk prog 45 (S45 F)) (k2 : SpecOk prog 69 (S69 F)) (k3 : SpecOk prog 71 (S71 F)) : SpecOk prog 44 (S44 F) := by
  refine contract_by hm hE D44 fnok44 _ fun (z : WkD × StD × Unit) hpre => ?_
  obtain ⟨p, s, ⟨⟩⟩ := z
  have hpre' : F.pSt p s := hpre
  rw [hp] at hpre'
  refine pack _ 3 a0 (only_tab (T := cT F) (l := [45, 69, 71]) (tb_cons (tb_sp k1 (by kernel_rfl)) (tb_cons (tb_sp k2 (by kernel_rfl)) (tb_cons (tb_sp k3 (by kernel_rfl)) tb_nil)))) ?_
  refine n44_go Lv.std F p s ?_
  simp only [n44, VC.holds, std_cmp, std_scmp, std_ar_add, std_ar_sub, std_ar_mul, std_ar, std_dv, std_shf, std_conv, std_mn, std_mx, std_beq, std_bnot, std_band, std_scat, std_byte, std_ext, std_slen, std_strOf, std_bytes, std_llen, std_get, std_setl, std_app, std_take, std_drop, std_rep, std_mhas, std_mval, std_mput, std_cast, std_toN, std_sub, std_add, std_inR, std_le3, std_leN, std_ltN, std_ne0, std_nonneg, std_catOk, std_room, std_mkOk, std_nth, std_cnt, cmp_lss_t, cmp_lss_f, cmp_leq_t, cmp_leq_f, cmp_gtr_t, cmp_gtr_f, cmp_geq_t, cmp_geq_f, cmp_eql_t, cmp_eql_f, cmp_neq_t, cmp_neq_f, scmp_eql_t, scmp_eql_f, scmp_neq_t, scmp_neq_f, dflt_int, dflt_bool, dflt_str, dflt_sl, dflt_pair, h, h1, h2, h3, hp, q, q1, endEF, pe5, Prod.mk.injEq, and_true, true_and]
  refine ⟨hpre', fun c => by rw [if_pos c]; exact ⟨rfl, rfl⟩, fun c => ?_⟩
  obtain ⟨o1, o2⟩ := (ckSt_iff p s).1 c
  rw [if_neg (by simpa using c)]
  exact ⟨ok_pE o1 o2, fun e => ⟨⟨hpre'.2, by rw [o2.tl]; exact Nat.le_refl _⟩, by rw [if_pos e]; exact ⟨rfl, rfl⟩⟩, fun e => by rw [if_neg (by rw [e]; simp)]; exact ⟨rfl, rfl⟩⟩
end Go.Proofs.Tryz
set_option autoImplicit false
set_option linter.all false
namespace Go.Proofs.Tryz
open Go Go.VM
set_option maxRecDepth 100000
def a49 (L : Lv) (I : Ds [.sl Mv, It] → Prop) (mu : Ds [.sl Mv, It] → Nat) : Nat → LAnn
  | 0 => anH L [2, 3, 5, 6] [] [.r 5 Mv, .s 6 It] I mu
  | _ => .no
def a47 (L : Lv) (I : Ds [.sl (.sl It), .sl U8, It] → Prop) (mu : Ds [.sl (.sl It), .sl U8, It] → Nat) : Nat → LAnn
  | 0 => anH L [2, 3, 4, 6, 7] [(6, some 1, 22, .sl It), (6, some 2, 5, U8)] [.br 6 1 (.sl It), .br 6 2 U8, .s 7 It] I mu
  | _ => .no
def n49 (L : Lv) (F : BxF) (I : Ds [.sl Mv, It] → Prop) (mu : Ds [.sl Mv, It] → Nat) (p : WkD) (s : StD)  : VC :=
 let z1 := Prod.fst p;
 let z2 := Prod.snd p;
 let z3 := Prod.fst z2;
 let z4 := Prod.snd z2;
 let z5 := Prod.fst s;
 let z6 := Prod.snd s;
 let z7 := Lv.llen L Th z6;
 let z8 := (Prod.fst p, Prod.fst z2, Prod.snd z2);
 let z9 := (Prod.fst s, Prod.snd s); VC.obl (St.mk 46 [(2, V.c (C.ptr 1 0)), (3, V.c (C.ptr 2 0)), (5, V.c (C.own 4 0)), (6, V.c (C.int IntKind.i64 0))] [(0, Ob.amb), (1, Ob.box 25
   [C.sl It z1, C.sl (Ty.sl In) z3, C.int IntKind.i64 z4]), (2, Ob.box 59 [C.sl It z5, C.sl Th z6]), (4, Ob.row 84 Mv [])] 5 = St.mk 46 [(2, V.c (C.ptr 1 0)), (3, V.c (C.ptr 2 0)),
   (5, V.c (C.own 4 (Lv.llen L Mv []))), (6, V.c (C.int IntKind.i64 0))] [(0, Ob.amb), (1, Ob.box 25 [C.sl It z1, C.sl (Ty.sl In) z3, C.int IntKind.i64 z4]), (2, Ob.box 59 [C.sl It
   z5, C.sl Th z6]), (4, Ob.row 84 Mv [])] 5) (VC.obl (I ([], 0, ())) (VC.all (List (Int × Bool) × Int × Unit) fun (v1 : List (Int × Bool) × Int × Unit) =>
 let z10 := Prod.snd v1;
 let z11 := Prod.fst z10;
 let z12 := Lv.inR L z11 z7;
 let z13 := Lv.cmp L BinOp.gtr (Lv.cast L (Lv.llen L Kp (Prod.fst (Prod.snd (Prod.snd (Lv.get L Th z6 (Lv.toN L z11))))))) 0;
 let z14 := Prod.fst v1;
 let z15 := Lv.llen L Mv z14;
 let z16 := Lv.take L Mv z14 z15;
 let z17 := Lv.llen L Mv z16;
 let z18 := (Lv.take L Mv [(Prod.fst z10, true)] 1);
 let z19 := Lv.llen L Mv z18;
 let z20 := Lv.add L z17 z19;
 let z21 := Lv.room L z20 16;
 let z22 := Lv.ar L BinOp.add IntKind.i64 z11 1;
 let z23 := Lv.app L Mv z16 z18;
 let z24 := Lv.llen L Mv z23;
 let z25 := (Lv.app L Mv z16 z18, Lv.ar L BinOp.add IntKind.i64 z11 1, ());
 let z26 := (Prod.fst v1, Lv.ar L BinOp.add IntKind.i64 z11 1, ());
 let z27 := (Lv.take L Mv [(Prod.fst z10, false)] 1);
 let z28 := Lv.add L z17 (Lv.llen L Mv z27);
 let z29 := Lv.app L Mv z16 z27;
 let z30 := Lv.take L Mv z29 z28;
 let z31 := Lv.add L (Lv.llen L Mv z30) z19;
 let z32 := Lv.app L Mv z30 z18;
 let z33 := (Lv.app L Mv z30 z18, Lv.ar L BinOp.add IntKind.i64 z11 1, ());
 let z34 := (Lv.app L Mv z16 z27, Lv.ar L BinOp.add IntKind.i64 z11 1, ()); VC.imp (I v1) (VC.br (Lv.cmp L BinOp.lss z11 (Lv.cast L z7)) (VC.obl (BxF.okT F z8 z9 z11) (VC.br
   (BxF.over F z8 z9 z11) (VC.obl z12 (VC.br z13 (VC.obl z21 (VC.ok (St.mk 46 [(2, V.c (C.ptr 1 0)), (3, V.c (C.ptr 2 0)), (5, V.c (C.own 4 z20)), (6, V.c (C.int IntKind.i64 z22))]
   [(0, Ob.amb), (1, Ob.box 25 [C.sl It z1, C.sl (Ty.sl In) z3, C.int IntKind.i64 z4]), (2, Ob.box 59 [C.sl It z5, C.sl Th z6]), (4, Ob.row 84 Mv z23)] 5 = St.mk 46 [(2, V.c (C.ptr
   1 0)), (3, V.c (C.ptr 2 0)), (5, V.c (C.own 4 z24)), (6, V.c (C.int IntKind.i64 z22))] [(0, Ob.amb), (1, Ob.box 25 [C.sl It z1, C.sl (Ty.sl In) z3, C.int IntKind.i64 z4]), (2,
   Ob.box 59 [C.sl It z5, C.sl Th z6]), (4, Ob.row 84 Mv z23)] 5 ∧ I z25 ∧ mu z25 < mu v1))) (VC.ok (St.mk 46 [(2, V.c (C.ptr 1 0)), (3, V.c (C.ptr 2 0)), (5, V.c (C.own 4 z15)),
   (6, V.c (C.int IntKind.i64 z22))] [(0, Ob.amb), (1, Ob.box 25 [C.sl It z1, C.sl (Ty.sl In) z3, C.int IntKind.i64 z4]), (2, Ob.box 59 [C.sl It z5, C.sl Th z6]), (4, Ob.row 84 Mv
   z14)] 5 = St.mk 46 [(2, V.c (C.ptr 1 0)), (3, V.c (C.ptr 2 0)), (5, V.c (C.own 4 z15)), (6, V.c (C.int IntKind.i64 z22))] [(0, Ob.amb), (1, Ob.box 25 [C.sl It z1, C.sl (Ty.sl In)
   z3, C.int IntKind.i64 z4]), (2, Ob.box 59 [C.sl It z5, C.sl Th z6]), (4, Ob.row 84 Mv z14)] 5 ∧ I z26 ∧ mu z26 < mu v1)))) (VC.obl (BxF.okW2 F z8 z9 z11) (VC.br (BxF.waR F z8 z9
   z11) (VC.obl z12 (VC.br z13 (VC.obl z21 (VC.ok (St.mk 46 [(2, V.c (C.ptr 1 0)), (3, V.c (C.ptr 2 0)), (5, V.c (C.own 4 z20)), (6, V.c (C.int IntKind.i64 z22))] [(0, Ob.amb), (1,
   Ob.box 25 [C.sl It z1, C.sl (Ty.sl In) z3, C.int IntKind.i64 z4]), (2, Ob.box 59 [C.sl It z5, C.sl Th z6]), (4, Ob.row 84 Mv z23)] 5 = St.mk 46 [(2, V.c (C.ptr 1 0)), (3, V.c
   (C.ptr 2 0)), (5, V.c (C.own 4 z24)), (6, V.c (C.int IntKind.i64 z22))] [(0, Ob.amb), (1, Ob.box 25 [C.sl It z1, C.sl (Ty.sl In) z3, C.int IntKind.i64 z4]), (2, Ob.box 59 [C.sl
   It z5, C.sl Th z6]), (4, Ob.row 84 Mv z23)] 5 ∧ I z25 ∧ mu z25 < mu v1))) (VC.ok (St.mk 46 [(2, V.c (C.ptr 1 0)), (3, V.c (C.ptr 2 0)), (5, V.c (C.own 4 z15)), (6, V.c (C.int
   IntKind.i64 z22))] [(0, Ob.amb), (1, Ob.box 25 [C.sl It z1, C.sl (Ty.sl In) z3, C.int IntKind.i64 z4]), (2, Ob.box 59 [C.sl It z5, C.sl Th z6]), (4, Ob.row 84 Mv z14)] 5 = St.mk
   46 [(2, V.c (C.ptr 1 0)), (3, V.c (C.ptr 2 0)), (5, V.c (C.own 4 z15)), (6, V.c (C.int IntKind.i64 z22))] [(0, Ob.amb), (1, Ob.box 25 [C.sl It z1, C.sl (Ty.sl In) z3, C.int
   IntKind.i64 z4]), (2, Ob.box 59 [C.sl It z5, C.sl Th z6]), (4, Ob.row 84 Mv z14)] 5 ∧ I z26 ∧ mu z26 < mu v1)))) (VC.obl (Lv.room L z28 16) (VC.obl z12 (VC.br z13 (VC.obl
   (Lv.room L z31 16) (VC.ok (St.mk 46 [(2, V.c (C.ptr 1 0)), (3, V.c (C.ptr 2 0)), (5, V.c (C.own 4 z31)), (6, V.c (C.int IntKind.i64 z22))] [(0, Ob.amb), (1, Ob.box 25 [C.sl It
   z1, C.sl (Ty.sl In) z3, C.int IntKind.i64 z4]), (2, Ob.box 59 [C.sl It z5, C.sl Th z6]), (4, Ob.row 84 Mv z32)] 5 = St.mk 46 [(2, V.c (C.ptr 1 0)), (3, V.c (C.ptr 2 0)), (5, V.c
   (C.own 4 (Lv.llen L Mv z32))), (6, V.c (C.int IntKind.i64 z22))] [(0, Ob.amb), (1, Ob.box 25 [C.sl It z1, C.sl (Ty.sl In) z3, C.int IntKind.i64 z4]), (2, Ob.box 59 [C.sl It z5,
   C.sl Th z6]), (4, Ob.row 84 Mv z32)] 5 ∧ I z33 ∧ mu z33 < mu v1))) (VC.ok (St.mk 46 [(2, V.c (C.ptr 1 0)), (3, V.c (C.ptr 2 0)), (5, V.c (C.own 4 z28)), (6, V.c (C.int
   IntKind.i64 z22))] [(0, Ob.amb), (1, Ob.box 25 [C.sl It z1, C.sl (Ty.sl In) z3, C.int IntKind.i64 z4]), (2, Ob.box 59 [C.sl It z5, C.sl Th z6]), (4, Ob.row 84 Mv z29)] 5 = St.mk
   46 [(2, V.c (C.ptr 1 0)), (3, V.c (C.ptr 2 0)), (5, V.c (C.own 4 (Lv.llen L Mv z29))), (6, V.c (C.int IntKind.i64 z22))] [(0, Ob.amb), (1, Ob.box 25 [C.sl It z1, C.sl (Ty.sl In)
   z3, C.int IntKind.i64 z4]), (2, Ob.box 59 [C.sl It z5, C.sl Th z6]), (4, Ob.row 84 Mv z29)] 5 ∧ I z34 ∧ mu z34 < mu v1))))))))) (VC.ok ((Lv.take L Mv z14 z15, ()) = (BxF.moves F
   (p, false) s, ()))))))
theorem n49_eq (L : Lv) (F : BxF) (I : Ds [.sl Mv, It] → Prop) (mu : Ds [.sl Mv, It] → Nat) (p : WkD) (s : StD) : vcC L F [94, 95] (D49 (a49 L I mu)) (S49 F) (p, s, ()) = n49 L F I mu p s := by kernel_rfl
theorem n49_go (L : Lv) (F : BxF) (I : Ds [.sl Mv, It] → Prop) (mu : Ds [.sl Mv, It] → Nat) (p : WkD) (s : StD) (h : VC.holds (n49 L F I mu p s)) : Holds (vcC L F [94, 95] (D49 (a49 L I mu)) (S49 F) (p, s, ())) := Holds.of_eq (n49_eq L F I mu p s) h
def n94 (L : Lv) (F : BxF) (p : WkD) (s : StD) (k : Int)  : VC :=
 let z1 := Lv.inR L k (Lv.llen L Th (Prod.snd s));
 let z2 := Lv.get L Th (Prod.snd s) (Lv.toN L k);
 let z3 := (BxF.over F p s k, ());
 let z4 := Prod.fst (Prod.snd p); VC.obl z1 (VC.br (Prod.snd (Prod.snd (Prod.snd (Prod.snd z2)))) (VC.ok ((true, ()) = z3)) (VC.obl z1 (VC.obl (Lv.inR L k (Lv.llen L (Ty.sl In) z4))
   (VC.br (Lv.cmp L BinOp.eql (Prod.fst z2) (Lv.cast L (Lv.llen L In (Lv.get L (Ty.sl In) z4 (Lv.toN L k))))) (VC.ok ((true, ()) = z3)) (VC.ok ((false, ()) = z3))))))
theorem n94_eq (L : Lv) (F : BxF) (p : WkD) (s : StD) (k : Int) : vcC L F [] (D94 a0) (S94 F) (p, s, k, ()) = n94 L F p s k := by kernel_rfl
theorem n94_go (L : Lv) (F : BxF) (p : WkD) (s : StD) (k : Int) (h : VC.holds (n94 L F p s k)) : Holds (vcC L F [] (D94 a0) (S94 F) (p, s, k, ())) := Holds.of_eq (n94_eq L F p s k) h
def n95 (L : Lv) (F : BxF) (p : WkD) (s : StD) (k : Int)  : VC :=
 let z1 := Prod.fst (Prod.snd p);
 let z2 := Lv.get L Th (Prod.snd s) (Lv.toN L k);
 let z3 := Prod.fst z2;
 let z4 := Lv.get L (Ty.sl In) z1 (Lv.toN L k);
 let z5 := Lv.get L In z4 (Lv.toN L z3);
 let z6 := Prod.fst z5;
 let z7 := Prod.snd z2;
 let z8 := Lv.cast L (Lv.llen L Kp (Prod.fst (Prod.snd z7)));
 let z9 := (BxF.waR F p s k, ());
 let z10 := Lv.cmp L BinOp.gtr z8 0;
 let z11 := Prod.snd (Prod.snd z5);
 let z12 := Prod.fst z11;
 let z13 := Prod.fst z7;
 let z14 := Lv.ar L BinOp.add IntKind.i64 (Lv.get L It z13 (Lv.toN L z12)) (Prod.snd (Prod.snd (Prod.snd z11)));
 let z15 := (Prod.fst s, Prod.snd s); VC.obl (Lv.inR L k (Lv.llen L Th (Prod.snd s))) (VC.obl (Lv.inR L k (Lv.llen L (Ty.sl In) z1)) (VC.obl (Lv.inR L z3 (Lv.llen L In z4)) (VC.br
   (Lv.cmp L BinOp.eql z6 9) (VC.br (Lv.cmp L BinOp.eql z8 (Prod.snd (Prod.snd p))) (VC.ok ((true, ()) = z9)) (VC.ok ((false, ()) = z9))) (VC.br (Lv.cmp L BinOp.eql z6 10) (VC.br
   z10 (VC.ok ((true, ()) = z9)) (VC.ok ((false, ()) = z9))) (VC.br (Lv.cmp L BinOp.eql z6 11) (VC.br z10 (VC.ok ((true, ()) = z9)) (VC.ok ((false, ()) = z9))) (VC.br (Lv.cmp L
   BinOp.eql z6 12) (VC.obl (Lv.inR L z12 (Lv.llen L It z13)) (VC.obl True (VC.br (BxF.within F z14 0 (Lv.ar L BinOp.sub IntKind.i64 (Lv.cast L (Lv.llen L It (Prod.fst s))) 1))
   (VC.obl (BxF.pSee F z15 k z14) (VC.br (Lv.cmp L BinOp.eql (BxF.see F z15 k z14) 0) (VC.ok ((true, ()) = z9)) (VC.ok ((false, ()) = z9)))) (VC.ok ((false, ()) = z9))))) (VC.ok
   ((false, ()) = z9))))))))
theorem n95_eq (L : Lv) (F : BxF) (p : WkD) (s : StD) (k : Int) : vcC L F [54, 55] (D95 a0) (S95 F) (p, s, k, ()) = n95 L F p s k := by kernel_rfl
theorem n95_go (L : Lv) (F : BxF) (p : WkD) (s : StD) (k : Int) (h : VC.holds (n95 L F p s k)) : Holds (vcC L F [54, 55] (D95 a0) (S95 F) (p, s, k, ())) := Holds.of_eq (n95_eq L F p s k) h
def n47 (L : Lv) (F : BxF) (I : Ds [.sl (.sl It), .sl U8, It] → Prop) (mu : Ds [.sl (.sl It), .sl U8, It] → Nat) (p : WkD) (s : StD)  : VC :=
 let z1 := Prod.snd p;
 let z2 := (Prod.fst p, Prod.fst z1, Prod.snd z1);
 let z3 := (Prod.fst s, Prod.snd s);
 let z4 := (Prod.fst (BxF.endR F p s), Prod.snd (BxF.endR F p s), ());
 let z5 := Lv.take L It [] 0;
 let z6 := Lv.llen L It z5;
 let z7 := Prod.fst s;
 let z8 := Lv.add L z6 (Lv.llen L It z7);
 let z9 := Prod.fst p;
 let z10 := Prod.fst z1;
 let z11 := Prod.snd z1;
 let z12 := Prod.snd s;
 let z13 := Lv.app L It z5 z7;
 let z14 := Ty.int IntKind.u8;
 let z15 := Lv.llen L Th z12;
 let z16 := Lv.llen L (Ty.sl In) z10;
 let z17 := Lv.take L z14 [1] 1;
 let z18 := Lv.llen L z14 z17;
 let z19 := Lv.take L z14 [2] 1;
 let z20 := Lv.llen L z14 z19;
 let z21 := Lv.take L z14 [3] 1;
 let z22 := Lv.llen L z14 z21; VC.obl (BxF.ok F z2 z3) (VC.br (Lv.cmp L BinOp.gtr (Lv.cast L (Lv.llen L Mv (BxF.moves F (z2, false) z3))) 0) (VC.ok ((([], [], []), false, ()) = z4))
   (VC.obl (Lv.room L z8 8) (VC.obl (St.mk 60 [(2, V.c (C.ptr 1 0)), (3, V.c (C.ptr 2 0)), (4, V.c (C.ptr 3 0)), (6, V.c (C.ptr 6 0)), (7, V.c (C.int IntKind.i64 0))] [(0, Ob.amb),
   (1, Ob.box 25 [C.sl It z9, C.sl (Ty.sl In) z10, C.int IntKind.i64 z11]), (2, Ob.box 59 [C.sl It z7, C.sl Th z12]), (3, Ob.box 38 [C.nils, C.nils, C.nils]), (5, Ob.row 3 It z13),
   (6, Ob.box 38 [C.own 5 z8, C.own 9 0, C.own 10 0]), (9, Ob.row 22 (Ty.sl It) []), (10, Ob.row 5 z14 [])] 11 = St.mk 60 [(2, V.c (C.ptr 1 0)), (3, V.c (C.ptr 2 0)), (4, V.c (C.ptr
   3 0)), (6, V.c (C.ptr 6 0)), (7, V.c (C.int IntKind.i64 0))] [(0, Ob.amb), (1, Ob.box 25 [C.sl It z9, C.sl (Ty.sl In) z10, C.int IntKind.i64 z11]), (2, Ob.box 59 [C.sl It z7,
   C.sl Th z12]), (3, Ob.box 38 [C.nils, C.nils, C.nils]), (5, Ob.row 3 It z13), (6, Ob.box 38 [C.own 5 z8, C.own 9 (Lv.llen L (Ty.sl It) []), C.own 10 (Lv.llen L z14 [])]), (9,
   Ob.row 22 (Ty.sl It) []), (10, Ob.row 5 z14 [])] 11) (VC.obl (I ([], [], 0, ())) (VC.all (List (List Int) × List Int × Int × Unit) fun (v1 : List (List Int) × List Int × Int ×
   Unit) =>
 let z23 := Prod.fst (Prod.snd (Prod.snd v1));
 let z24 := Lv.toN L z23;
 let z25 := Lv.get L Th z12 z24;
 let z26 := Prod.snd (Prod.snd (Prod.snd z25));
 let z27 := Lv.inR L z23 z16;
 let z28 := Lv.cmp L BinOp.eql (Prod.fst z25) (Lv.cast L (Lv.llen L In (Lv.get L (Ty.sl In) z10 z24)));
 let z29 := Prod.fst z26;
 let z30 := Lv.add L z6 (Lv.llen L It z29);
 let z31 := Lv.room L z30 8;
 let z32 := Prod.fst v1;
 let z33 := Lv.llen L (Ty.sl It) z32;
 let z34 := Lv.take L (Ty.sl It) z32 z33;
 let z35 := Lv.take L (Ty.sl It) [Lv.take L It (Lv.app L It z5 z29) z30] 1;
 let z36 := Lv.add L (Lv.llen L (Ty.sl It) z34) (Lv.llen L (Ty.sl It) z35);
 let z37 := Lv.room L z36 24;
 let z38 := Prod.fst (Prod.snd v1);
 let z39 := Lv.llen L z14 z38;
 let z40 := Lv.take L z14 z38 z39;
 let z41 := Lv.llen L z14 z40;
 let z42 := Lv.add L z41 z18;
 let z43 := Lv.room L z42 1;
 let z44 := Lv.ar L BinOp.add IntKind.i64 z23 1;
 let z45 := Lv.app L (Ty.sl It) z34 z35;
 let z46 := Lv.app L z14 z40 z17;
 let z47 := Lv.llen L (Ty.sl It) z45;
 let z48 := Lv.llen L z14 z46;
 let z49 := (Lv.app L (Ty.sl It) z34 z35, Lv.app L z14 z40 z17, Lv.ar L BinOp.add IntKind.i64 z23 1, ());
 let z50 := Lv.add L z41 z20;
 let z51 := Lv.app L z14 z40 z19;
 let z52 := (Lv.app L (Ty.sl It) z34 z35, Lv.app L z14 z40 z19, Lv.ar L BinOp.add IntKind.i64 z23 1, ());
 let z53 := Lv.add L z41 z22;
 let z54 := Lv.app L z14 z40 z21;
 let z55 := (Lv.app L (Ty.sl It) z34 z35, Lv.app L z14 z40 z21, Lv.ar L BinOp.add IntKind.i64 z23 1, ()); VC.imp (I v1) (VC.br (Lv.cmp L BinOp.lss z23 (Lv.cast L z15)) (VC.obl
   (Lv.inR L z23 z15) (VC.br (Prod.snd z26) (VC.obl z27 (VC.br z28 (VC.obl z31 (VC.obl z37 (VC.obl z43 (VC.ok (St.mk 60 [(2, V.c (C.ptr 1 0)), (3, V.c (C.ptr 2 0)), (4, V.c (C.ptr 3
   0)), (6, V.c (C.ptr 6 0)), (7, V.c (C.int IntKind.i64 z44))] [(0, Ob.amb), (1, Ob.box 25 [C.sl It z9, C.sl (Ty.sl In) z10, C.int IntKind.i64 z11]), (2, Ob.box 59 [C.sl It z7,
   C.sl Th z12]), (3, Ob.box 38 [C.nils, C.nils, C.nils]), (5, Ob.row 3 It z13), (6, Ob.box 38 [C.own 5 z8, C.own 9 z36, C.own 10 z42]), (9, Ob.row 22 (Ty.sl It) z45), (10, Ob.row 5
   z14 z46)] 11 = St.mk 60 [(2, V.c (C.ptr 1 0)), (3, V.c (C.ptr 2 0)), (4, V.c (C.ptr 3 0)), (6, V.c (C.ptr 6 0)), (7, V.c (C.int IntKind.i64 z44))] [(0, Ob.amb), (1, Ob.box 25
   [C.sl It z9, C.sl (Ty.sl In) z10, C.int IntKind.i64 z11]), (2, Ob.box 59 [C.sl It z7, C.sl Th z12]), (3, Ob.box 38 [C.nils, C.nils, C.nils]), (5, Ob.row 3 It z13), (6, Ob.box 38
   [C.own 5 z8, C.own 9 z47, C.own 10 z48]), (9, Ob.row 22 (Ty.sl It) z45), (10, Ob.row 5 z14 z46)] 11 ∧ I z49 ∧ mu z49 < mu v1))))) (VC.obl z31 (VC.obl z37 (VC.obl (Lv.room L z50
   1) (VC.ok (St.mk 60 [(2, V.c (C.ptr 1 0)), (3, V.c (C.ptr 2 0)), (4, V.c (C.ptr 3 0)), (6, V.c (C.ptr 6 0)), (7, V.c (C.int IntKind.i64 z44))] [(0, Ob.amb), (1, Ob.box 25 [C.sl
   It z9, C.sl (Ty.sl In) z10, C.int IntKind.i64 z11]), (2, Ob.box 59 [C.sl It z7, C.sl Th z12]), (3, Ob.box 38 [C.nils, C.nils, C.nils]), (5, Ob.row 3 It z13), (6, Ob.box 38 [C.own
   5 z8, C.own 9 z36, C.own 10 z50]), (9, Ob.row 22 (Ty.sl It) z45), (10, Ob.row 5 z14 z51)] 11 = St.mk 60 [(2, V.c (C.ptr 1 0)), (3, V.c (C.ptr 2 0)), (4, V.c (C.ptr 3 0)), (6, V.c
   (C.ptr 6 0)), (7, V.c (C.int IntKind.i64 z44))] [(0, Ob.amb), (1, Ob.box 25 [C.sl It z9, C.sl (Ty.sl In) z10, C.int IntKind.i64 z11]), (2, Ob.box 59 [C.sl It z7, C.sl Th z12]),
   (3, Ob.box 38 [C.nils, C.nils, C.nils]), (5, Ob.row 3 It z13), (6, Ob.box 38 [C.own 5 z8, C.own 9 z47, C.own 10 (Lv.llen L z14 z51)]), (9, Ob.row 22 (Ty.sl It) z45), (10, Ob.row
   5 z14 z51)] 11 ∧ I z52 ∧ mu z52 < mu v1))))))) (VC.obl z27 (VC.br z28 (VC.obl z31 (VC.obl z37 (VC.obl z43 (VC.ok (St.mk 60 [(2, V.c (C.ptr 1 0)), (3, V.c (C.ptr 2 0)), (4, V.c
   (C.ptr 3 0)), (6, V.c (C.ptr 6 0)), (7, V.c (C.int IntKind.i64 z44))] [(0, Ob.amb), (1, Ob.box 25 [C.sl It z9, C.sl (Ty.sl In) z10, C.int IntKind.i64 z11]), (2, Ob.box 59 [C.sl
   It z7, C.sl Th z12]), (3, Ob.box 38 [C.nils, C.nils, C.nils]), (5, Ob.row 3 It z13), (6, Ob.box 38 [C.own 5 z8, C.own 9 z36, C.own 10 z42]), (9, Ob.row 22 (Ty.sl It) z45), (10,
   Ob.row 5 z14 z46)] 11 = St.mk 60 [(2, V.c (C.ptr 1 0)), (3, V.c (C.ptr 2 0)), (4, V.c (C.ptr 3 0)), (6, V.c (C.ptr 6 0)), (7, V.c (C.int IntKind.i64 z44))] [(0, Ob.amb), (1,
   Ob.box 25 [C.sl It z9, C.sl (Ty.sl In) z10, C.int IntKind.i64 z11]), (2, Ob.box 59 [C.sl It z7, C.sl Th z12]), (3, Ob.box 38 [C.nils, C.nils, C.nils]), (5, Ob.row 3 It z13), (6,
   Ob.box 38 [C.own 5 z8, C.own 9 z47, C.own 10 z48]), (9, Ob.row 22 (Ty.sl It) z45), (10, Ob.row 5 z14 z46)] 11 ∧ I z49 ∧ mu z49 < mu v1))))) (VC.obl z31 (VC.obl z37 (VC.obl
   (Lv.room L z53 1) (VC.ok (St.mk 60 [(2, V.c (C.ptr 1 0)), (3, V.c (C.ptr 2 0)), (4, V.c (C.ptr 3 0)), (6, V.c (C.ptr 6 0)), (7, V.c (C.int IntKind.i64 z44))] [(0, Ob.amb), (1,
   Ob.box 25 [C.sl It z9, C.sl (Ty.sl In) z10, C.int IntKind.i64 z11]), (2, Ob.box 59 [C.sl It z7, C.sl Th z12]), (3, Ob.box 38 [C.nils, C.nils, C.nils]), (5, Ob.row 3 It z13), (6,
   Ob.box 38 [C.own 5 z8, C.own 9 z36, C.own 10 z53]), (9, Ob.row 22 (Ty.sl It) z45), (10, Ob.row 5 z14 z54)] 11 = St.mk 60 [(2, V.c (C.ptr 1 0)), (3, V.c (C.ptr 2 0)), (4, V.c
   (C.ptr 3 0)), (6, V.c (C.ptr 6 0)), (7, V.c (C.int IntKind.i64 z44))] [(0, Ob.amb), (1, Ob.box 25 [C.sl It z9, C.sl (Ty.sl In) z10, C.int IntKind.i64 z11]), (2, Ob.box 59 [C.sl
   It z7, C.sl Th z12]), (3, Ob.box 38 [C.nils, C.nils, C.nils]), (5, Ob.row 3 It z13), (6, Ob.box 38 [C.own 5 z8, C.own 9 z47, C.own 10 (Lv.llen L z14 z54)]), (9, Ob.row 22 (Ty.sl
   It) z45), (10, Ob.row 5 z14 z54)] 11 ∧ I z55 ∧ mu z55 < mu v1))))))))) (VC.ok (((Lv.take L It z13 z8, Lv.take L (Ty.sl It) z32 z33, Lv.take L z14 z38 z39), true, ()) = z4))))))))
theorem n47_eq (L : Lv) (F : BxF) (I : Ds [.sl (.sl It), .sl U8, It] → Prop) (mu : Ds [.sl (.sl It), .sl U8, It] → Nat) (p : WkD) (s : StD) : vcC L F [49] (D47 (a47 L I mu)) (S47 F) (p, s, ()) = n47 L F I mu p s := by kernel_rfl
theorem n47_go (L : Lv) (F : BxF) (I : Ds [.sl (.sl It), .sl U8, It] → Prop) (mu : Ds [.sl (.sl It), .sl U8, It] → Nat) (p : WkD) (s : StD) (h : VC.holds (n47 L F I mu p s)) : Holds (vcC L F [49] (D47 (a47 L I mu)) (S47 F) (p, s, ())) := Holds.of_eq (n47_eq L F I mu p s) h
def overF (p : WkD) (s : StD) (k : Int) : Bool := (thAt s k).2.2.2.2 || decide ((thAt s k).1 = (listAt (p, false) k).length)
def waRF (p : WkD) (s : StD) (k : Int) : Bool := waitsF (p, false) s (thAt s k) (insIn (listAt (p, false) k) (thAt s k).1)
def okTF (p : WkD) (s : StD) (k : Int) : Prop := (OkP p ∧ OkS p s) ∧ 0 ≤ k ∧ k < s.2.length
def okWF (p : WkD) (s : StD) (k : Int) : Prop := okTF p s k ∧ overF p s k = false
theorem ok94 (F : BxF) (h : F.over = overF) (hp : F.okT = okTF) : SpecOk prog 94 (S94 F) := by
  refine contract_by hm hE D94 fnok94 _ fun (z : WkD × StD × Int × Unit) hpre => ?_
  obtain ⟨p, s, k, ⟨⟩⟩ := z
  have hpre' : F.okT p s k := hpre
  rw [hp] at hpre'
  obtain ⟨⟨o1, o2⟩, g⟩ := hpre'
  refine pack _ 3 a0 (only_tab (T := cT F) (l := []) tb_nil) ?_
  refine n94_go Lv.std F p s k ?_
  have e1 : ∀ k : Int, Lv.std.get Th s.2 k.toNat = thAt s k := fun _ => rfl
  have e2 : ∀ k : Int, Lv.std.get (.sl In) p.2.1 k.toNat = listAt (p, false) k := fun _ => rfl
  simp only [n94, VC.holds, std_cmp, std_cast, std_llen, std_toN, e1, e2, std_inR, cmp_eql_t, cmp_eql_f, h, overF, pe5, Prod.mk.injEq, and_true, true_and]
  have := o2.tl
  refine ⟨g, fun h1 => by rw [h1]; rfl, fun h1 => ⟨g, ⟨g.1, by omega⟩, fun h2 => by rw [h1, decide_eq_true h2]; rfl, fun h2 => by rw [h1, decide_eq_false h2]; rfl⟩⟩
theorem ok95 (F : BxF) (h : F.waR = waRF) (hp : F.okW2 = okWF) (h1 : F.within = withinF) (h2 : F.see = seeF) (q : F.pSee = fun s t p => inReg s.1 p ∧ (0 ≤ t ∧ t < s.2.length) ∧ (thAt s t).2.2.1.length ≤ 1000000) (k1 : SpecOk prog 54 (S86 F)) (k2 : SpecOk prog 55 (S55 F)) : SpecOk prog 95 (S95 F) := by
  refine contract_by hm hE D95 fnok95 _ fun (z : WkD × StD × Int × Unit) hpre => ?_
  obtain ⟨p, s, k, ⟨⟩⟩ := z
  have hpre' : F.okW2 p s k := hpre
  rw [hp] at hpre'
  obtain ⟨⟨⟨o1, o2⟩, g⟩, hov⟩ := hpre'
  refine pack _ 3 a0 (only_tab (T := cT F) (l := [54, 55]) (tb_cons (tb_sp k1 (by kernel_rfl)) (tb_cons (tb_sp k2 (by kernel_rfl)) tb_nil))) ?_
  refine n95_go Lv.std F p s k ?_
  have e1 : ∀ k : Int, Lv.std.get Th s.2 k.toNat = thAt s k := fun _ => rfl
  have e2 : ∀ k : Int, Lv.std.get (.sl In) p.2.1 k.toNat = listAt (p, false) k := fun _ => rfl
  have e3 : ∀ (l : List InD) (k : Int), Lv.std.get In l k.toNat = insIn l k := fun _ _ => rfl
  have e4 : ∀ (l : List Int) (k : Int), Lv.std.get It l k.toNat = regF l k := fun _ _ => rfl
  obtain ⟨k, rfl⟩ := nat_of g.1
  have hk : k < s.2.length := by omega
  have ht := o2.th k hk
  have htl := o2.tl
  have hwl := o2.wl
  have h64 := o1.w64
  have hlt : (thAt s k).1 < (listAt (p, false) k).length := by
    unfold overF at hov
    simp only [Bool.or_eq_false_iff, decide_eq_false_iff_not] at hov
    have := ht.atl
    omega
  have hi := ok_ins (b := false) o1 (k := k) (by omega) ⟨ht.at0, hlt⟩
  simp only [n95, VC.holds, std_cmp, std_cast, std_llen, std_toN, e1, e2, e3, e4, std_inR, std_ar_add, std_ar_sub, cmp_gtr_t, cmp_gtr_f, cmp_eql_t, cmp_eql_f, h, h1, h2, q, waRF, pe5, Prod.mk.injEq, and_true, true_and]
  generalize hig : insIn (listAt (p, false) k) (thAt s k).1 = i at *
  have ewl : IntKind.i64.wrap ((s.1.length : Int) - 1) = (s.1.length : Int) - 1 := wrap_i64 (by omega) (by omega)
  have epl : placeF s (thAt s k) i = (IntKind.i64.wrap (regF (thAt s k).2.1 i.2.2.1 + i.2.2.2.2.2), withinF (IntKind.i64.wrap (regF (thAt s k).2.1 i.2.2.1 + i.2.2.2.2.2)) 0 (IntKind.i64.wrap ((s.1.length : Int) - 1))) := rfl
  have hwa : waitsF (p, false) s (thAt s k) i = if i.1 = 9 then !false && decide (((thAt s k).2.2.1.length : Int) = p.2.2) else if i.1 = 10 ∨ i.1 = 11 then decide (0 < ((thAt s k).2.2.1.length : Int)) else if i.1 = 12 then (placeF s (thAt s k) i).2 && decide (seesF s (thAt s k) (placeF s (thAt s k) i).1 = 0) else false := rfl
  rw [hwa, epl]
  have hkb : (thAt s k).2.2.1.length ≤ 1000000 := by have := ht.kept; have := o1.room; omega
  refine ⟨g, ⟨g.1, by omega⟩, ⟨ht.at0, hlt⟩, fun c1 => ?_, fun c1 => ⟨fun c2 => ?_, fun c2 => ⟨fun c3 => ?_, fun c3 => ⟨fun c4 => ?_, fun c4 => ?_⟩⟩⟩⟩
  · rw [if_pos c1]
    exact ⟨fun e => by rw [decide_eq_true e]; rfl, fun e => by rw [decide_eq_false e]; rfl⟩
  · rw [if_neg c1, if_pos (.inl c2)]
    exact ⟨fun e => (decide_eq_true e).symm, fun e => (decide_eq_false (by omega)).symm⟩
  · rw [if_neg c1, if_pos (.inr c3)]
    exact ⟨fun e => (decide_eq_true e).symm, fun e => (decide_eq_false (by omega)).symm⟩
  · rw [if_neg c1, if_neg (by omega), if_pos c4]
    have h10 := ht.r10
    refine ⟨⟨hi.b.1, by rw [h10]; have := hi.b; omega⟩, fun hw => ⟨⟨?_, g, hkb⟩, fun e => ?_, fun e => ?_⟩, fun hw => ?_⟩
    · have := withinF_t.1 hw
      rw [ewl] at this
      exact ⟨this.1, by omega⟩
    · rw [hw]; exact (decide_eq_true (p := seesF s (thAt s k) _ = 0) e).symm
    · rw [hw]; exact (decide_eq_false (p := seesF s (thAt s k) _ = 0) e).symm
    · rw [hw]; rfl
  · rw [if_neg c1, if_neg (by omega), if_neg c4]
theorem ok49 (F : BxF) (h : F.moves = movesF) (hp : F.ok = fun p s => OkP p ∧ OkS p s) (h1 : F.over = overF) (h2 : F.waR = waRF) (q : F.okT = okTF) (q1 : F.okW2 = okWF) (k1 : SpecOk prog 94 (S94 F)) (k2 : SpecOk prog 95 (S95 F)) : SpecOk prog 49 (S49 F) := by
  refine contract_by hm hE D49 fnok49 _ fun (z : WkD × StD × Unit) hpre => ?_
  obtain ⟨p, s, ⟨⟩⟩ := z
  have hpre' : F.ok p s := hpre
  rw [hp] at hpre'
  obtain ⟨o1, o2⟩ := hpre'
  let I : List MvD × Int × Unit → Prop := fun x => (0 ≤ x.2.1 ∧ x.2.1 ≤ s.2.length) ∧ x.1 ++ mvN s (p, false) (s.2.length - x.2.1.toNat) = movesF (p, false) s
  let mu : List MvD × Int × Unit → Nat := fun x => (s.2.length - x.2.1).toNat
  refine pack _ 3 (a49 Lv.std I mu) (only_tab (T := cT F) (l := [94, 95]) (tb_cons (tb_sp k1 (by kernel_rfl)) (tb_cons (tb_sp k2 (by kernel_rfl)) tb_nil))) ?_
  refine n49_go Lv.std F I mu p s ?_
  have e1 : ∀ k : Int, Lv.std.get Th s.2 k.toNat = thAt s k := fun _ => rfl
  simp only [n49, VC.holds, std_cmp, std_cast, std_llen, std_toN, e1, std_inR, std_ar_add, std_ar_sub, std_app, std_take, std_room, std_add, List.take_length, List.take_succ_cons, List.take_zero, List.length_append, List.length_cons, List.length_nil, Nat.zero_add, cmp_lss_t, cmp_lss_f, cmp_gtr_t, cmp_gtr_f, cmp_eql_t, cmp_eql_f, h, h1, h2, q, q1, pe5, Prod.mk.injEq, and_true, true_and]
  have tk : ∀ (l : List MvD) (x : MvD), List.take (l.length + 1) (l ++ [x]) = l ++ [x] := fun l x => List.take_of_length_le (by simp)
  simp only [tk, List.length_append, List.length_cons, List.length_nil, Nat.zero_add]
  have htl := o2.tl
  have h4 := o1.t4
  refine ⟨⟨⟨Int.le_refl 0, by show (0 : Int) ≤ s.2.length; omega⟩, rfl⟩, ?_⟩
  rintro ⟨l, x, ⟨⟩⟩ ⟨⟨i1, i2⟩, i3⟩
  simp only at i1 i2 i3 ⊢
  obtain ⟨k, rfl⟩ := nat_of i1
  rw [Int.toNat_natCast] at i3
  have hll : l.length ≤ 10 := by
    have e := congrArg List.length i3
    rw [List.length_append] at e
    have := mvN_len s (p, false) s.2.length
    have e2 : (movesF (p, false) s).length ≤ 2 * s.2.length := this
    omega
  refine ⟨fun hlt => ?_, fun hge => ?_⟩
  · have hk : k < s.2.length := by omega
    rw [wr hlt (by omega)]
    rw [mvN_step s (p, false) k hk] at i3
    have ml : ∀ l2 l3 : List MvD, mu (l2, ((k + 1 : Nat) : Int), ()) < mu (l3, (k : Int), ()) := fun l2 l3 => by show ((s.2.length : Int) - ((k + 1 : Nat) : Int)).toNat < ((s.2.length : Int) - (k : Int)).toNat; omega
    have st : ∀ l2 : List MvD, l2 = l ++ mvAt s (p, false) k → I (l2, ((k + 1 : Nat) : Int), ()) := fun l2 e => by
      refine ⟨⟨by show (0 : Int) ≤ ((k + 1 : Nat) : Int); omega, by show ((k + 1 : Nat) : Int) ≤ (s.2.length : Int); omega⟩, ?_⟩
      show l2 ++ mvN s (p, false) (s.2.length - ((k + 1 : Nat) : Int).toNat) = _
      rw [Int.toNat_natCast, e, List.append_assoc]; exact i3
    have hin : 0 ≤ (k : Int) ∧ (k : Int) < s.2.length := ⟨i1, hlt⟩
    have ht := o2.th k hk
    have canT : canF (p, false) s k = true → mvAt s (p, false) k = ((k : Int), false) :: (if 0 < (thAt s k).2.2.1.length then [((k : Int), true)] else []) := fun hc => by rw [mvAt, hc]; rfl
    have canN : canF (p, false) s k = false → mvAt s (p, false) k = (if 0 < (thAt s k).2.2.1.length then [((k : Int), true)] else []) := fun hc => by rw [mvAt, hc]; rfl
    have rm : l.length + 1 ≤ 140737488355328 ∧ (l.length + 1) * 16 ≤ 140737488355328 := by omega
    have rm2 : l.length + 1 + 1 ≤ 140737488355328 ∧ (l.length + 1 + 1) * 16 ≤ 140737488355328 := by omega
    have cov : overF p s k = true → canF (p, false) s k = false := fun e => by
      unfold overF at e
      unfold canF
      simp only [Bool.or_eq_true, decide_eq_true_eq] at e
      rcases e with e | e
      · rw [e]; rfl
      · rw [e, decide_eq_false (by omega)]; simp
    have cnw : overF p s k = false → canF (p, false) s k = !waRF p s k := fun e => by
      unfold overF at e
      simp only [Bool.or_eq_false_iff, decide_eq_false_iff_not] at e
      have := ht.atl
      unfold canF waRF
      rw [e.1, decide_eq_true (by omega)]; rfl
    refine ⟨⟨⟨o1, o2⟩, hin⟩, fun c1 => ⟨hin, fun c2 => ⟨rm, st _ (by rw [canN (cov c1), if_pos (by omega)]), ml _ _⟩, fun c2 => ⟨st _ (by rw [canN (cov c1), if_neg (by omega), List.append_nil]), ml _ _⟩⟩, fun c1 => ⟨⟨⟨⟨o1, o2⟩, hin⟩, c1⟩, fun c2 => ⟨hin, fun c3 => ⟨rm, st _ (by rw [canN (by rw [cnw c1, c2]; rfl), if_pos (by omega)]), ml _ _⟩, fun c3 => ⟨st _ (by rw [canN (by rw [cnw c1, c2]; rfl), if_neg (by omega), List.append_nil]), ml _ _⟩⟩, fun c2 => ⟨rm, hin, fun c3 => ⟨rm2, st _ (by rw [canT (by rw [cnw c1, c2]; rfl), if_pos (by omega), List.append_assoc]; rfl), ml _ _⟩, fun c3 => ⟨st _ (by rw [canT (by rw [cnw c1, c2]; rfl), if_neg (by omega)]), ml _ _⟩⟩⟩⟩
  · rw [show s.2.length - k = 0 by omega, mvN, List.append_nil] at i3
    exact i3
def endRF (p : WkD) (s : StD) : EnD × Bool := if movesF (p, false) s = [] then (endOfF (p, false) s, true) else (([], [], []), false)
theorem ok47 (F : BxF) (h : F.endR = endRF) (h1 : F.moves = movesF) (hp : F.ok = fun p s => OkP p ∧ OkS p s) (k1 : SpecOk prog 49 (S49 F)) : SpecOk prog 47 (S47 F) := by
  refine contract_by hm hE D47 fnok47 _ fun (z : WkD × StD × Unit) hpre => ?_
  obtain ⟨p, s, ⟨⟩⟩ := z
  have hpre' : F.ok p s := hpre
  rw [hp] at hpre'
  obtain ⟨o1, o2⟩ := hpre'
  let I : List (List Int) × List Int × Int × Unit → Prop := fun x => (0 ≤ x.2.2.1 ∧ x.2.2.1 ≤ s.2.length) ∧ (x.1, x.2.1) = endThs (p, false) s x.2.2.1.toNat
  let mu : List (List Int) × List Int × Int × Unit → Nat := fun x => (s.2.length - x.2.2.1).toNat
  refine pack _ 3 (a47 Lv.std I mu) (only_tab (T := cT F) (l := [49]) (tb_cons (tb_sp k1 (by kernel_rfl)) tb_nil)) ?_
  refine n47_go Lv.std F I mu p s ?_
  have e1 : ∀ k : Int, Lv.std.get Th s.2 k.toNat = thAt s k := fun _ => rfl
  have e2 : ∀ k : Int, Lv.std.get (.sl In) p.2.1 k.toNat = listAt (p, false) k := fun _ => rfl
  simp only [n47, VC.holds, std_cmp, std_cast, std_llen, std_toN, e1, e2, std_inR, std_ar_add, std_app, std_take, std_room, std_add, List.take_length, List.take_succ_cons, List.take_zero, List.take_nil, List.nil_append, List.length_append, List.length_cons, List.length_nil, Nat.zero_add, cmp_lss_t, cmp_lss_f, cmp_gtr_t, cmp_gtr_f, cmp_eql_t, cmp_eql_f, h, h1, hp, pe5, Prod.mk.injEq, and_true, true_and]
  have htl := o2.tl
  have hwl := o2.wl
  have h4 := o1.t4
  have h64 := o1.w64
  refine ⟨⟨o1, o2⟩, fun c => ?_, fun c => ⟨⟨by omega, by omega⟩, ⟨⟨Int.le_refl 0, by show (0 : Int) ≤ s.2.length; omega⟩, rfl⟩, ?_⟩⟩
  · have hne : ¬ movesF (p, false) s = [] := fun e => by rw [e] at c; simp at c
    rw [endRF, if_neg hne]; exact ⟨rfl, rfl⟩
  · have hnil : movesF (p, false) s = [] := List.eq_nil_of_length_eq_zero (by omega)
    rw [endRF, if_pos hnil]
    rintro ⟨l, l2, x, ⟨⟩⟩ ⟨⟨i1, i2⟩, i3⟩
    simp only at i1 i2 i3 ⊢
    obtain ⟨k, rfl⟩ := nat_of i1
    rw [Int.toNat_natCast] at i3
    obtain ⟨rfl, rfl⟩ : l = (endThs (p, false) s k).1 ∧ l2 = (endThs (p, false) s k).2 := ⟨congrArg Prod.fst i3, congrArg Prod.snd i3⟩
    have n1 : (endThs (p, false) s k).1.length = k := by simp [endThs]
    have n2 : (endThs (p, false) s k).2.length = k := by simp [endThs]
    rw [n1, n2]
    refine ⟨fun hlt => ?_, fun hge => ?_⟩
    · have hk : k < s.2.length := by omega
      have ht := o2.th k hk
      have h20 := ht.t20
      have stp : ∀ h : Int, h = howF (thAt s k) (listAt (p, false) k).length → I ((endThs (p, false) s k).1 ++ [(thAt s k).2.2.2.1], (endThs (p, false) s k).2 ++ [h], ((k + 1 : Nat) : Int), ()) := fun h hh => by
        refine ⟨⟨by show (0 : Int) ≤ ((k + 1 : Nat) : Int); omega, by show ((k + 1 : Nat) : Int) ≤ (s.2.length : Int); omega⟩, ?_⟩
        show (_, _) = endThs (p, false) s ((k + 1 : Nat) : Int).toNat
        rw [Int.toNat_natCast, hh]
        simp only [endThs, List.range_succ, List.map_append, List.map_cons, List.map_nil]
      have ml : ∀ h : Int, mu ((endThs (p, false) s k).1 ++ [(thAt s k).2.2.2.1], (endThs (p, false) s k).2 ++ [h], ((k + 1 : Nat) : Int), ()) < mu ((endThs (p, false) s k).1, (endThs (p, false) s k).2, (k : Int), ()) := fun h => by
        show ((s.2.length : Int) - ((k + 1 : Nat) : Int)).toNat < ((s.2.length : Int) - (k : Int)).toNat; omega
      rw [wr hlt (by omega)]
      have r1 : (thAt s k).2.2.2.1.length ≤ 140737488355328 ∧ (thAt s k).2.2.2.1.length * 8 ≤ 140737488355328 := ⟨by omega, by omega⟩
      have r2 : k + 1 ≤ 140737488355328 ∧ (k + 1) * 24 ≤ 140737488355328 := ⟨by omega, by omega⟩
      have r3 : k + 1 ≤ 140737488355328 ∧ (k + 1) * 1 ≤ 140737488355328 := ⟨by omega, by omega⟩
      refine ⟨⟨i1, hlt⟩, fun c1 => ⟨⟨i1, by omega⟩, fun c2 => ⟨r1, r2, r3, stp 1 (by rw [howF, if_pos c2]), ml 1⟩, fun c2 => ⟨r1, r2, r3, stp 2 (by rw [howF, if_neg c2, if_pos c1]), ml 2⟩⟩, fun c1 => ⟨⟨i1, by omega⟩, fun c2 => ⟨r1, r2, r3, stp 1 (by rw [howF, if_pos c2]), ml 1⟩, fun c2 => ⟨r1, r2, r3, stp 3 (by rw [howF, if_neg c2, if_neg (by rw [c1]; simp)]), ml 3⟩⟩⟩
    · have hk : k = s.2.length := by omega
      subst hk; exact ⟨rfl, trivial⟩
end Go.Proofs.Tryz
set_option autoImplicit false
set_option linter.all false
namespace Go.Proofs.Tryz
open Go Go.VM
set_option maxRecDepth 100000
def a48 (L : Lv) (I : Ds [It] → Prop) (mu : Ds [It] → Nat) : Nat → LAnn
  | 0 => anH L [0, 1, 5] [] [.s 5 It] I mu
  | _ => .no
def n48 (L : Lv) (F : BxF) (I : Ds [It] → Prop) (mu : Ds [It] → Nat) (a b : List MvD)  : VC :=
 let z1 := Lv.cast L (Lv.llen L Mv a);
 let z2 := (BxF.sameM F a b, ()); VC.br (Lv.cmp L BinOp.neq z1 (Lv.cast L (Lv.llen L Mv b))) (VC.ok ((false, ()) = z2)) (VC.obl (St.mk 26 [(0, V.c (C.sl Mv a)), (1, V.c (C.sl Mv
   b)), (5, V.c (C.int IntKind.i64 0))] [(0, Ob.amb)] 1 = St.mk 26 [(0, V.c (C.sl Mv a)), (1, V.c (C.sl Mv b)), (5, V.c (C.int IntKind.i64 0))] [(0, Ob.amb)] 1) (VC.obl (I (0, ()))
   (VC.all (Int × Unit) fun (v1 : Int × Unit) =>
 let z3 := Prod.fst v1;
 let z4 := Lv.toN L z3;
 let z5 := Lv.get L Mv a z4;
 let z6 := Lv.get L Mv b z4;
 let z7 := Lv.ar L BinOp.add IntKind.i64 z3 1;
 let z8 := (Lv.ar L BinOp.add IntKind.i64 z3 1, ()); VC.imp (I v1) (VC.br (Lv.cmp L BinOp.lss z3 z1) (VC.obl (Lv.inR L z3 (Lv.llen L Mv a)) (VC.obl (Lv.inR L z3 (Lv.llen L Mv b))
   (VC.br (Lv.bnot L (Lv.band L (Lv.cmp L BinOp.eql (Prod.fst z5) (Prod.fst z6)) (Lv.band L (Lv.beq L (Prod.snd z5) (Prod.snd z6)) true))) (VC.ok ((false, ()) = z2)) (VC.ok (St.mk
   26 [(0, V.c (C.sl Mv a)), (1, V.c (C.sl Mv b)), (5, V.c (C.int IntKind.i64 z7))] [(0, Ob.amb)] 1 = St.mk 26 [(0, V.c (C.sl Mv a)), (1, V.c (C.sl Mv b)), (5, V.c (C.int
   IntKind.i64 z7))] [(0, Ob.amb)] 1 ∧ I z8 ∧ mu z8 < mu v1))))) (VC.ok ((true, ()) = z2))))))
theorem n48_eq (L : Lv) (F : BxF) (I : Ds [It] → Prop) (mu : Ds [It] → Nat) (a b : List MvD) : vcC L F [] (D48 (a48 L I mu)) (S48 F) (a, b, ()) = n48 L F I mu a b := by kernel_rfl
theorem n48_go (L : Lv) (F : BxF) (I : Ds [It] → Prop) (mu : Ds [It] → Nat) (a b : List MvD) (h : VC.holds (n48 L F I mu a b)) : Holds (vcC L F [] (D48 (a48 L I mu)) (S48 F) (a, b, ())) := Holds.of_eq (n48_eq L F I mu a b) h
theorem ok48 (F : BxF) (h : F.sameM = fun a b => decide (a = b)) (hp : F.bm = fun l => l.length ≤ 1000000) : SpecOk prog 48 (S48 F) := by
  refine contract_by hm hE D48 fnok48 _ fun (z : List MvD × List MvD × Unit) hpre => ?_
  obtain ⟨a, b, ⟨⟩⟩ := z
  have hpre' : F.bm a := hpre
  rw [hp] at hpre'
  have g : a.length ≤ 1000000 := hpre'
  let I : Int × Unit → Prop := Iv a.length fun k => decide (a.drop k = b.drop k) = decide (a = b)
  refine pack _ 3 (a48 Lv.std I (Mu a.length)) (only_tab (T := cT F) (l := []) tb_nil) ?_
  refine n48_go Lv.std F I (Mu a.length) a b ?_
  have e1 : ∀ (l : List MvD) (k : Int), Lv.std.get Mv l k.toNat = (l[k.toNat]?).getD (0, false) := fun _ _ => rfl
  have eqv : ∀ u v : MvD, (VM.compare BinOp.eql u.1 v.1 && (u.2 == v.2 && true)) = decide (u = v) := fun u v => by
    obtain ⟨a, b⟩ := v
    obtain ⟨c, d⟩ := u
    show ((c == a) && (d == b && true)) = _
    rw [Bool.and_true]
    by_cases h1 : c = a
    · subst h1
      by_cases h2 : d = b
      · subst h2; simp
      · rw [decide_eq_false (fun e => h2 (congrArg Prod.snd e))]; simp [h2]
    · rw [decide_eq_false (fun e => h1 (congrArg Prod.fst e))]; simp [h1]
  simp only [n48, VC.holds, std_cmp, std_cast, std_llen, std_toN, std_beq, std_band, std_bnot, e1, std_inR, std_ar_add, cmp_lss_t, cmp_lss_f, cmp_neq_t, cmp_neq_f, h, Prod.mk.injEq, and_true, true_and]
  simp only [eqv, Bool.not_eq_true', Bool.not_eq_false']
  refine ⟨fun hn => ?_, fun hn => ⟨Iv.zero rfl, fun x hx => ?_⟩⟩
  · rw [decide_eq_false (fun e => hn (by rw [e]))]
  · obtain ⟨k, rfl, hk, i3⟩ := Iv.elim hx
    simp only [Int.toNat_natCast]
    refine ⟨fun hlt => ?_, fun hge => ?_⟩
    · have h1 : k < a.length := by omega
      have h2 : k < b.length := by omega
      rw [List.drop_eq_getElem_cons h1, List.drop_eq_getElem_cons h2] at i3
      simp only [List.getElem?_eq_getElem h1, List.getElem?_eq_getElem h2, Option.getD_some]
      refine ⟨⟨by omega, hlt⟩, ⟨by omega, by omega⟩, fun he => ?_, fun he => ?_⟩
      · have he' : ¬ a[k] = b[k] := of_decide_eq_false he
        rw [← i3, decide_eq_false]
        intro e; injection e with e1 _; exact he' e1
      · rw [wr hlt g]
        have he' : a[k] = b[k] := of_decide_eq_true he
        refine ⟨Iv.mk (by omega) ?_, Mu.lt h1⟩
        rw [← i3, he']; simp only [List.cons.injEq, true_and]
    · rw [List.drop_eq_nil_of_le (by omega), List.drop_eq_nil_of_le (by omega)] at i3
      rw [← i3]; rfl
end Go.Proofs.Tryz
set_option autoImplicit false
set_option linter.all false
namespace Go.Proofs.Tryz
open Go Go.VM
set_option maxRecDepth 100000
noncomputable def oL (G : AwF) : List (Nat × FT) := [(18, .spec (S18 G))]
def LWS : VM.Spec := ⟨[Wk, Sta], [.bool], fun x => bwTF x.1 ∧ bsTF x.2.1, fun _ => (true, ())⟩
def n11 (L : Lv) (F : BxF) (G : AwF) (p : WkD) (s : StD)  : VC :=
 let z1 := (Prod.fst p, Prod.fst (Prod.snd p), Prod.snd (Prod.snd p));
 let z2 := (Prod.fst s, Prod.snd s);
 let z3 := BxF.bw F z1;
 let z4 := BxF.check F z1;
 let z5 := BxF.pSt F z1 z2;
 let z6 := BxF.bs F z2;
 let z7 := BxF.ckSt F z1 z2;
 let z8 := Lv.cmp L BinOp.neq z7 z4;
 let z9 := BxF.mvE F z1 z2;
 let z10 := Prod.snd z9;
 let z11 := Lv.cmp L BinOp.neq z10 z4;
 let z12 := Lv.cmp L BinOp.neq z4 0;
 let z13 := BxF.endE F z1 z2;
 let z14 := Prod.snd z13;
 let z15 := Lv.cmp L BinOp.eql z14 z4;
 let z16 := Prod.fst z9;
 let z17 := Lv.cmp L BinOp.eql (Lv.cast L (Lv.llen L Mv z16)) 0;
 let z18 := Prod.fst z13;
 let z19 := Prod.snd z18;
 let z20 := (Prod.fst z18, Prod.fst z19, Prod.snd z19);
 let z21 := (BxF.be F z20 ∧ BxF.be F ([], [], []));
 let z22 := (BxF.sameE F z20 ([], [], []));
 let z23 := BxF.ok F z1 z2;
 let z24 := BxF.endR F z1 z2;
 let z25 := Prod.snd z24;
 let z26 := BxF.bm F z16;
 let z27 := (BxF.sameM F z16 (BxF.moves F (z1, false) z2));
 let z28 := Lv.cmp L BinOp.eql z14 0;
 let z29 := Lv.bnot L (Lv.beq L true true);
 let z30 := Prod.fst z24;
 let z31 := Prod.snd z30;
 let z32 := (Prod.fst z30, Prod.fst z31, Prod.snd z31);
 let z33 := (BxF.be F z20 ∧ BxF.be F z32);
 let z34 := BxF.sameE F z20 z32;
 let z35 := Lv.bnot L (Lv.beq L false true);
 let z36 := Lv.bnot L (Lv.beq L true false);
 let z37 := Lv.cmp L BinOp.neq z14 9;
 let z38 := Lv.bnot L (Lv.beq L false false); VC.obl (BxF.bwT F z1) (VC.br (BxF.long F z1) (VC.obl (BxF.bsT F z2) (VC.br (BxF.thinS F z2) (VC.obl z3 (VC.br (Lv.cmp L BinOp.eql z4 0)
   (VC.obl z5 (VC.br (BxF.isSt F z1 z2) (VC.obl z3 (VC.obl z6 (VC.obl z5 (VC.obl z3 (VC.obl z6 (VC.obl z5 (VC.obl z3 (VC.obl z6 (VC.obl z5 (VC.br z8 (VC.ok ((false, ()) = (true,
   ()))) (VC.br z11 (VC.ok ((false, ()) = (true, ()))) (VC.br z12 (VC.br z15 (VC.br z17 (VC.obl z21 (VC.br z22 (VC.obl True (VC.br (AwF.aw G) (VC.ok ((true, ()) = (true, ())))
   (VC.ok ((false, ()) = (true, ()))))) (VC.ok ((false, ()) = (true, ()))))) (VC.ok ((false, ()) = (true, ())))) (VC.ok ((false, ()) = (true, ())))) (VC.obl z23 (VC.br z25 (VC.obl
   z23 (VC.obl z26 (VC.br z27 (VC.br z28 (VC.br z29 (VC.ok ((false, ()) = (true, ()))) (VC.obl z33 (VC.br z34 (VC.obl True (VC.br (AwF.aw G) (VC.ok ((true, ()) = (true, ()))) (VC.ok
   ((false, ()) = (true, ()))))) (VC.ok ((false, ()) = (true, ())))))) (VC.br z35 (VC.ok ((false, ()) = (true, ()))) (VC.obl z33 (VC.br z34 (VC.obl True (VC.br (AwF.aw G) (VC.ok
   ((true, ()) = (true, ()))) (VC.ok ((false, ()) = (true, ()))))) (VC.ok ((false, ()) = (true, ()))))))) (VC.ok ((false, ()) = (true, ())))))) (VC.obl z23 (VC.obl z26 (VC.br z27
   (VC.br z28 (VC.br z36 (VC.ok ((false, ()) = (true, ()))) (VC.br z37 (VC.ok ((false, ()) = (true, ()))) (VC.obl z33 (VC.br z34 (VC.obl True (VC.br (AwF.aw G) (VC.ok ((true, ()) =
   (true, ()))) (VC.ok ((false, ()) = (true, ()))))) (VC.ok ((false, ()) = (true, ()))))))) (VC.br z38 (VC.ok ((false, ()) = (true, ()))) (VC.br z37 (VC.ok ((false, ()) = (true,
   ()))) (VC.obl z33 (VC.br z34 (VC.obl True (VC.br (AwF.aw G) (VC.ok ((true, ()) = (true, ()))) (VC.ok ((false, ()) = (true, ()))))) (VC.ok ((false, ()) = (true, ())))))))) (VC.ok
   ((false, ()) = (true, ())))))))))))))))))))) (VC.obl z3 (VC.obl z6 (VC.obl z5 (VC.obl z3 (VC.obl z6 (VC.obl z5 (VC.obl z3 (VC.obl z6 (VC.obl z5 (VC.br (Lv.cmp L BinOp.neq z7 2)
   (VC.ok ((false, ()) = (true, ()))) (VC.br (Lv.cmp L BinOp.neq z10 2) (VC.ok ((false, ()) = (true, ()))) (VC.br (Lv.cmp L BinOp.neq 2 0) (VC.br (Lv.cmp L BinOp.eql z14 2) (VC.br
   z17 (VC.obl z21 (VC.br z22 (VC.obl True (VC.br (AwF.aw G) (VC.ok ((true, ()) = (true, ()))) (VC.ok ((false, ()) = (true, ()))))) (VC.ok ((false, ()) = (true, ()))))) (VC.ok
   ((false, ()) = (true, ())))) (VC.ok ((false, ()) = (true, ())))) (VC.obl z23 (VC.br z25 (VC.obl z23 (VC.obl z26 (VC.br z27 (VC.br z28 (VC.br z29 (VC.ok ((false, ()) = (true,
   ()))) (VC.obl z33 (VC.br z34 (VC.obl True (VC.br (AwF.aw G) (VC.ok ((true, ()) = (true, ()))) (VC.ok ((false, ()) = (true, ()))))) (VC.ok ((false, ()) = (true, ())))))) (VC.br
   z35 (VC.ok ((false, ()) = (true, ()))) (VC.obl z33 (VC.br z34 (VC.obl True (VC.br (AwF.aw G) (VC.ok ((true, ()) = (true, ()))) (VC.ok ((false, ()) = (true, ()))))) (VC.ok
   ((false, ()) = (true, ()))))))) (VC.ok ((false, ()) = (true, ())))))) (VC.obl z23 (VC.obl z26 (VC.br z27 (VC.br z28 (VC.br z36 (VC.ok ((false, ()) = (true, ()))) (VC.br z37
   (VC.ok ((false, ()) = (true, ()))) (VC.obl z33 (VC.br z34 (VC.obl True (VC.br (AwF.aw G) (VC.ok ((true, ()) = (true, ()))) (VC.ok ((false, ()) = (true, ()))))) (VC.ok ((false,
   ()) = (true, ()))))))) (VC.br z38 (VC.ok ((false, ()) = (true, ()))) (VC.br z37 (VC.ok ((false, ()) = (true, ()))) (VC.obl z33 (VC.br z34 (VC.obl True (VC.br (AwF.aw G) (VC.ok
   ((true, ()) = (true, ()))) (VC.ok ((false, ()) = (true, ()))))) (VC.ok ((false, ()) = (true, ())))))))) (VC.ok ((false, ()) = (true, ())))))))))))))))))))))) (VC.obl z3 (VC.obl
   z6 (VC.obl z5 (VC.obl z3 (VC.obl z6 (VC.obl z5 (VC.obl z3 (VC.obl z6 (VC.obl z5 (VC.br z8 (VC.ok ((false, ()) = (true, ()))) (VC.br z11 (VC.ok ((false, ()) = (true, ()))) (VC.br
   z12 (VC.br z15 (VC.br z17 (VC.obl z21 (VC.br z22 (VC.obl True (VC.br (AwF.aw G) (VC.ok ((true, ()) = (true, ()))) (VC.ok ((false, ()) = (true, ()))))) (VC.ok ((false, ()) =
   (true, ()))))) (VC.ok ((false, ()) = (true, ())))) (VC.ok ((false, ()) = (true, ())))) (VC.obl z23 (VC.br z25 (VC.obl z23 (VC.obl z26 (VC.br z27 (VC.br z28 (VC.br z29 (VC.ok
   ((false, ()) = (true, ()))) (VC.obl z33 (VC.br z34 (VC.obl True (VC.br (AwF.aw G) (VC.ok ((true, ()) = (true, ()))) (VC.ok ((false, ()) = (true, ()))))) (VC.ok ((false, ()) =
   (true, ())))))) (VC.br z35 (VC.ok ((false, ()) = (true, ()))) (VC.obl z33 (VC.br z34 (VC.obl True (VC.br (AwF.aw G) (VC.ok ((true, ()) = (true, ()))) (VC.ok ((false, ()) = (true,
   ()))))) (VC.ok ((false, ()) = (true, ()))))))) (VC.ok ((false, ()) = (true, ())))))) (VC.obl z23 (VC.obl z26 (VC.br z27 (VC.br z28 (VC.br z36 (VC.ok ((false, ()) = (true, ())))
   (VC.br z37 (VC.ok ((false, ()) = (true, ()))) (VC.obl z33 (VC.br z34 (VC.obl True (VC.br (AwF.aw G) (VC.ok ((true, ()) = (true, ()))) (VC.ok ((false, ()) = (true, ()))))) (VC.ok
   ((false, ()) = (true, ()))))))) (VC.br z38 (VC.ok ((false, ()) = (true, ()))) (VC.br z37 (VC.ok ((false, ()) = (true, ()))) (VC.obl z33 (VC.br z34 (VC.obl True (VC.br (AwF.aw G)
   (VC.ok ((true, ()) = (true, ()))) (VC.ok ((false, ()) = (true, ()))))) (VC.ok ((false, ()) = (true, ())))))))) (VC.ok ((false, ()) = (true, ())))))))))))))))))))))) (VC.obl True
   (VC.br (AwF.aw G) (VC.ok ((true, ()) = (true, ()))) (VC.ok ((false, ()) = (true, ()))))))) (VC.obl True (VC.br (AwF.aw G) (VC.ok ((true, ()) = (true, ()))) (VC.ok ((false, ()) =
   (true, ()))))))
theorem n11_eq (L : Lv) (F : BxF) (G : AwF) (p : WkD) (s : StD) : vcO L F (oL G) [18, 20, 22, 28, 40, 41, 42, 43, 44, 45, 46, 47, 48, 49] 3 (D11 a0) LWS (p, s, ()) = n11 L F G p s := by kernel_rfl
theorem n11_go (L : Lv) (F : BxF) (G : AwF) (p : WkD) (s : StD) (h : VC.holds (n11 L F G p s)) : Holds (vcO L F (oL G) [18, 20, 22, 28, 40, 41, 42, 43, 44, 45, 46, 47, 48, 49] 3 (D11 a0) LWS (p, s, ())) := Holds.of_eq (n11_eq L F G p s) h
theorem long_bW {p : WkD} (h : longF p = true) : bW p := by
  unfold longF at h
  simp only [Bool.and_eq_true, decide_eq_true_eq] at h
  obtain ⟨⟨h1, h2⟩, h3⟩ := h
  refine ⟨by omega, by omega, fun l hl => ?_⟩
  have := of_decide_eq_true (List.all_eq_true.1 h1 l hl)
  omega
theorem thinS_bS {s : StD} (h : thinSF s = true) : bS s := by
  unfold thinSF at h
  simp only [Bool.and_eq_true, Bool.not_eq_true', Bool.or_eq_false_iff, decide_eq_false_iff_not] at h
  obtain ⟨⟨h1, h2⟩, h3⟩ := h
  refine ⟨by omega, by omega, fun t ht => ?_⟩
  have := List.all_eq_true.1 h3 t ht
  unfold thinT at this
  simp only [Bool.not_eq_true', Bool.or_eq_false_iff, decide_eq_false_iff_not] at this
  exact ⟨by omega, by omega, by omega⟩
theorem sEn0 : sEn ([], [], []) := by unfold sEn; simp
theorem moves_len {p : WkD} {b : Bool} {s : StD} (hp : OkP p) (hs : OkS p s) : (movesF (p, b) s).length ≤ 1000000 := by
  have := mvN_len s (p, b) s.2.length
  have := hs.tl
  have := hp.t4
  unfold movesF
  omega
theorem ok11 (F : BxF) (G : AwF) (g : G.aw = true) (h1 : F.long = longF) (h2 : F.check = checkF) (h3 : F.thinS = thinSF) (h4 : F.isSt = isStF) (h5 : F.mvE = mvsF) (h6 : F.endE = endEF) (h7 : F.ckSt = ckStF) (h8 : F.sameE = fun a b => decide (a = b)) (h9 : F.endR = endRF) (h10 : F.sameM = fun a b => decide (a = b)) (h11 : F.moves = movesF) (q1 : F.bwT = bwTF) (q2 : F.bw = bW) (q3 : F.bs = bS) (q4 : F.bsT = bsTF) (q5 : F.pSt = fun p s => bW p ∧ bS s) (q6 : F.be = sEn) (q7 : F.bm = fun l => l.length ≤ 1000000) (q8 : F.ok = fun p s => OkP p ∧ OkS p s)
    (k1 : SpecOk prog 18 (S18 G)) (k2 : SpecOk prog 20 (S20 F)) (k3 : SpecOk prog 22 (S22 F)) (k4 : SpecOk prog 28 (S28 F)) (k5 : SpecOk prog 40 (S40 F)) (k6 : SpecOk prog 41 (S41 F)) (k7 : SpecOk prog 42 (S42 F)) (k8 : SpecOk prog 43 (S43 F)) (k9 : SpecOk prog 44 (S44 F)) (k10 : SpecOk prog 45 (S45 F)) (k11 : SpecOk prog 46 (S46 F)) (k12 : SpecOk prog 47 (S47 F)) (k13 : SpecOk prog 48 (S48 F)) (k14 : SpecOk prog 49 (S49 F)) : SpecOk prog 11 LWS := by
  refine contract_by hm hE D11 fnok11 _ fun (z : WkD × StD × Unit) hpre => ?_
  obtain ⟨p, s, ⟨⟩⟩ := z
  have hpre : bwTF p ∧ bsTF s := hpre
  refine pack _ 3 a0 (only_tab (T := tabO (oL G) (cT F)) (l := [18, 20, 22, 28, 40, 41, 42, 43, 44, 45, 46, 47, 48, 49]) (tb_cons (tb_sp k1 (by kernel_rfl)) (tb_cons (tb_sp k2 (by kernel_rfl)) (tb_cons (tb_sp k3 (by kernel_rfl)) (tb_cons (tb_sp k4 (by kernel_rfl)) (tb_cons (tb_sp k5 (by kernel_rfl)) (tb_cons (tb_sp k6 (by kernel_rfl)) (tb_cons (tb_sp k7 (by kernel_rfl)) (tb_cons (tb_sp k8 (by kernel_rfl)) (tb_cons (tb_sp k9 (by kernel_rfl)) (tb_cons (tb_sp k10 (by kernel_rfl)) (tb_cons (tb_sp k11 (by kernel_rfl)) (tb_cons (tb_sp k12 (by kernel_rfl)) (tb_cons (tb_sp k13 (by kernel_rfl)) (tb_cons (tb_sp k14 (by kernel_rfl)) tb_nil))))))))))))))) ?_
  refine n11_go Lv.std F G p s ?_
  simp only [n11, VC.holds, std_cmp, std_scmp, std_ar_add, std_ar_sub, std_ar_mul, std_ar, std_dv, std_shf, std_conv, std_mn, std_mx, std_beq, std_bnot, std_band, std_scat, std_byte, std_ext, std_slen, std_strOf, std_bytes, std_llen, std_get, std_setl, std_app, std_take, std_drop, std_rep, std_mhas, std_mval, std_mput, std_cast, std_toN, std_sub, std_add, std_inR, std_le3, std_leN, std_ltN, std_ne0, std_nonneg, std_catOk, std_room, std_mkOk, std_nth, std_cnt, cmp_lss_t, cmp_lss_f, cmp_leq_t, cmp_leq_f, cmp_gtr_t, cmp_gtr_f, cmp_geq_t, cmp_geq_f, cmp_eql_t, cmp_eql_f, cmp_neq_t, cmp_neq_f, scmp_eql_t, scmp_eql_f, scmp_neq_t, scmp_neq_f, dflt_int, dflt_bool, dflt_str, dflt_sl, dflt_pair, g, h1, h2, h3, h4, h5, h6, h7, h8, h9, h10, h11, q1, q2, q3, q4, q5, q6, q7, q8, pe5, Prod.mk.injEq, and_true, true_and]
  refine ⟨hpre.1, fun hl => ⟨hpre.2, fun ht => ?_, fun _ => by simp⟩, fun _ => by simp⟩
  have hb := long_bW hl
  have hs := thinS_bS ht
  by_cases c : checkF p = 0
  · have op := (okP_iff p).1 c
    cases hi : isStF p s with
    | true =>
      have os := (okS_iff p s).1 hi
      have t1 : ckStF p s = 0 := (ckSt_iff p s).2 ⟨op, os⟩
      have t2 : mvsF p s = (movesF (p, false) s, 0) := by rw [mvsF, if_neg (by simpa using t1)]
      have t3 := moves_len (b := false) op os
      have t4 := ok_sEn (b := false) op os
      by_cases e : movesF (p, false) s = []
      · have t5 : endEF p s = (endOfF (p, false) s, 0) := by rw [endEF, if_neg (by simpa using t1), if_pos (ended_iff.2 e)]
        have t6 : endRF p s = (endOfF (p, false) s, true) := by rw [endRF, if_pos e]
        simp [c, hb, hs, op, os, t1, t2, t3, t4, t5, t6, e]
      · have t5 : endEF p s = (([], [], []), 9) := by rw [endEF, if_neg (by simpa using t1), if_neg (fun h => e (ended_iff.1 h))]
        have t6 : endRF p s = (([], [], []), false) := by rw [endRF, if_neg e]
        simp [c, hb, hs, op, os, t1, t2, t3, t5, t6, sEn0]
    | false =>
      have t1 : ckStF p s = 2 := by rw [ckStF, if_neg (by simpa using c), if_neg (by rw [hi]; simp)]
      have t2 : mvsF p s = ([], 2) := by rw [mvsF, if_pos (by rw [t1]; decide), t1]
      have t5 : endEF p s = (([], [], []), 2) := by rw [endEF, if_pos (by rw [t1]; decide), t1]
      simp [c, hb, hs, t1, t2, t5, sEn0]
  · have t1 : ckStF p s = checkF p := by rw [ckStF, if_pos c]
    have t2 : mvsF p s = ([], checkF p) := by rw [mvsF, if_pos (by rw [t1]; exact c), t1]
    have t5 : endEF p s = (([], [], []), checkF p) := by rw [endEF, if_pos (by rw [t1]; exact c), t1]
    simp [c, hb, hs, t1, t2, t5, sEn0]
end Go.Proofs.Tryz
set_option autoImplicit false
set_option linter.all false
namespace Go.Proofs.Tryz
open Go Go.VM
set_option maxRecDepth 100000
noncomputable def FF : BxF where
  within := withinF
  isNum := isNumF
  truth := truthF
  has := hasF
  fields := fieldsF
  shape := shapeF
  isIns := insOkF
  worked := workedF
  place := placeF
  value := default
  sees := seesF
  pRegs := fun l i => inReg l i.2.2.1 ∧ inReg l i.2.2.2.1
  pPlace := fun _ t i => inReg t.2.1 i.2.2.1
  pSees := fun s t p => inReg s.1 p ∧ t.2.2.1.length ≤ 1000000
  back := backF
  pBack := fun l => l.length ≤ 1000000
  see := seeF
  pSee := fun s t p => inReg s.1 p ∧ (0 ≤ t ∧ t < s.2.length) ∧ (thAt s t).2.2.1.length ≤ 1000000
  waits := waitsF
  pW := fun _ s t i => pWF s t i
  can := canF
  pC := pCF
  each := eachF
  pE := pEF
  moves := movesF
  ended := endedF
  endOf := endOfF
  pEnd := fun m s => bS s ∧ s.2.length ≤ m.1.2.1.length
  first := firstF
  pFirst := fun p => p.1.length ≤ 1000000 ∧ p.2.1.length ≤ 1000000
  pHas := fun s => s.size ≤ 1000000
  pLi := fun l => l.length ≤ 1000000
  pLt := fun l => l.length ≤ 1000000
  pLk := fun l => l.length ≤ 1000000
  doo := doF
  pDo := pDoF
  step := default
  bl := bL
  bw := bW
  bs := bS
  be := sEn
  ble := fun l => l.length ≤ 1000000 ∧ ∀ e ∈ l, sEn e
  nums := numsF
  check := checkF
  isTh := fun p k t => thOk p k.toNat t
  pTh := fun p k t => p.1.length ≤ 1000000 ∧ (0 ≤ k ∧ k < p.2.1.length) ∧ bTh t
  isSt := isStF
  pSt := fun p s => bW p ∧ bS s
  ckSt := ckStF
  begE := default
  mvE := mvsF
  ok := fun p s => OkP p ∧ OkS p s
  okD := default
  okT := okTF
  doE := default
  endE := endEF
  endR := endRF
  seesE := default
  runE := default
  runR := default
  pRunR := default
  fenE := fenF
  fenR := default
  okW := default
  sameL := fun a b => decide (a = b)
  sameE := fun a b => decide (a = b)
  sameEs := fun a b => decide (a = b)
  sameS := default
  sameW := default
  sameM := fun a b => decide (a = b)
  sameK := default
  bm := fun l => l.length ≤ 1000000
  bk := default
  isMv := default
  isIn := default
  cmpL := cmpLF
  cmpLL := cmpLLF
  cmpE := cmpEF
  cmpR := lexR
  cmpRE := cmpREF
  hows := fun e => e.2.2
  thin := default
  long := longF
  thinS := thinSF
  bwT := bwTF
  pCl := default
  or1 := orF3
  bll := fun l => l.length ≤ 1000000 ∧ ∀ x ∈ l, x.length ≤ 1000000
  put := putF
  pPut := fun b l => b.length ≤ 100000000 ∧ l.length ≤ 1000000
  comp := compL
  sort := fun l => List.mergeSort (α := EnD) l fun x y => !(Go.Proofs.ltOf cmpEF) y x
  rev := List.reverse
  key := keyF
  pKey := fun s => s.1.length ≤ 64 ∧ s.2.length ≤ 4 ∧ ∀ t ∈ s.2, t.2.1.length ≤ 100 ∧ t.2.2.1.length ≤ 100 ∧ t.2.2.2.1.length ≤ 100
  all := allF
  okM := fun m => OkP m.1
  ends := endsG (fun l => List.mergeSort (α := EnD) l fun x y => !(Go.Proofs.ltOf cmpEF) y x) compL
  bM := fun m => bW m.1
  way := wayG
  pWay := fun p _ => bW p
  over := overF
  waR := waRF
  okW2 := okWF
  bsT := bsTF
noncomputable def GG : AwF where
  ins := insF
  cr := ([0, 0], [[insF 1 1 [1], insF 9 0 [1], insF 8 1 [2], insF 15 0 [2]], [insF 1 1 [1], insF 9 1 [1], insF 8 0 [2], insF 15 0 [2]]], 1)
  ce := fun a b => ([1, 1], [[a], [b]], [1, 1])
  aw := true
theorem h86 : SpecOk prog 86 (S86 FF) := ok86 FF rfl
theorem h92 : SpecOk prog 92 (S92 FF) := ok92 FF rfl rfl h86
theorem h120 : SpecOk prog 120 (S120 FF) := ok120 FF rfl
theorem h84 : SpecOk prog 84 (S84 FF) := ok84 FF rfl rfl rfl rfl h86 h92 h120
theorem h87 : SpecOk prog 87 (S87 FF) := ok87 FF rfl rfl rfl h92
theorem h38 : SpecOk prog 38 (S22 FF) := ok38 FF rfl rfl rfl rfl rfl rfl h84 h86 h87
theorem h76 : XOk prog 76 (R76 FF).x := ok76 FF rfl
theorem h79 : SpecOk prog 79 (S79 FF) := ok79 FF rfl rfl rfl h76
theorem h146 : ItOk prog 146 (I146 FF) := ok146 FF rfl rfl
theorem h101 : SpecOk prog 101 (S101 FF) := ok101 FF rfl rfl rfl rfl h146
theorem h143 : SpecOk prog 143 (S143 FF) := ok143 FF rfl rfl rfl h86
theorem h157 : SpecOk prog 157 (S157 FF) := ok157 FF rfl rfl rfl rfl rfl rfl h101 h143
theorem h136 : SpecOk prog 136 (S136 FF) := ok136 FF rfl rfl rfl rfl h157
theorem h135 : ItOk prog 135 (I135 FF) := ok135 FF rfl rfl rfl rfl h136
theorem h90 : SpecOk prog 90 (S90 FF) := ok90 FF rfl rfl rfl h135
theorem h134 : SpecOk prog 134 (S134 FF) := ok134 FF rfl
theorem h141 : XOk prog 141 (R141 FF).x := ok141 FF rfl
theorem h142 : XOk prog 142 (R142 FF).x := ok142 FF rfl
theorem h144 : XOk prog 144 (mapcX acT) := ok144 FF
theorem h145 : SpecOk prog 145 (S145 FF) := ok145 FF rfl rfl rfl rfl h92 h134
theorem h99 : SpecOk prog 99 (S99 FF) := ok99 FF rfl rfl rfl rfl rfl rfl rfl rfl rfl rfl rfl rfl rfl rfl h76 h86 h92 h101 h134 h141 h142 h143 h144 h145
theorem h133 : XOk prog 133 (R133 FF).x := ok133 FF rfl rfl
theorem h109 : SpecOk prog 109 (S109 FF) := ok109 FF rfl rfl rfl rfl rfl h133 h134
theorem h66 : SpecOk prog 66 (S66 FF) := ok66 FF rfl rfl rfl rfl rfl rfl rfl rfl rfl rfl h79 h90 h99 h109
theorem h69 : SpecOk prog 69 (S69 FF) := ok69 FF rfl rfl rfl h135
theorem h71 : SpecOk prog 71 (S71 FF) := ok71 FF rfl rfl rfl h76
theorem h111 : SpecOk prog 111 (S111 FF) := ok111 FF rfl rfl
theorem h112 : SpecOk prog 112 (S112 FF) := ok112 FF rfl rfl
theorem h113 : XOk prog 113 (R113 FF).x := ok113 FF rfl rfl rfl rfl h112
theorem h114 : SpecOk prog 114 (S114 FF) := ok114 FF rfl rfl
theorem h70 : SpecOk prog 70 (S70 FF) := ok70 FF rfl rfl rfl rfl rfl rfl rfl h111 h112 h113 h114
theorem h106 : XOk prog 106 (R106 FF).u := ok106 FF rfl rfl rfl rfl h70
theorem h108 : SpecOk prog 108 (S108 FF) := ok108 FF rfl rfl h70
theorem h107 : XOk prog 107 (R107 FF).x := ok107 FF rfl rfl rfl rfl h108
theorem h62 : SpecOk prog 62 (S62 FF) := ok62 FF rfl rfl rfl rfl rfl (fun l => List.mergeSort_perm l _) rfl rfl rfl rfl rfl rfl h38 h66 h69 h71 h106 h107
theorem h19 : SpecOk prog 19 (S19 FF) := ok19 FF rfl rfl h62
theorem h21 : SpecOk prog 21 (S21 FF) := ok21 FF rfl rfl h62
theorem h72 : XOk prog 72 (R72 FF).u := ok72 FF rfl rfl
theorem h24 : SpecOk prog 24 (S24 FF) := ok24 FF rfl rfl rfl rfl rfl rfl rfl rfl rfl rfl rfl rfl rfl rfl h38 h66 h69 h71 h70 h72
theorem h75 : SpecOk prog 75 (S75 FF) := ok75 FF rfl rfl
theorem h27 : SpecOk prog 27 (S27 FF) := ok27 FF rfl rfl h75
theorem h29 : SpecOk prog 29 (S29 FF) := ok29 FF rfl rfl rfl rfl h38 h76
theorem h118 : SpecOk prog 118 (S118 FF) := ok118 FF rfl rfl
theorem h74 : SpecOk prog 74 (S74 FF) := ok74 FF rfl rfl rfl rfl rfl h75 h118
theorem h46 : SpecOk prog 46 (S46 FF) := ok46 FF rfl rfl h74
theorem h35 : SpecOk prog 35 (S35 FF) := ok35 FF rfl rfl rfl rfl h46
theorem h105 : SpecOk prog 105 (S105 GG) := ok105 FF GG rfl
theorem h60 : SpecOk prog 60 (S60 GG) := ok60 FF GG rfl rfl h105
theorem h61 : SpecOk prog 61 (S61 GG) := ok61 FF GG rfl
theorem h18 : SpecOk prog 18 (S18 GG) := ok18 FF GG rfl rfl rfl rfl rfl rfl rfl rfl rfl rfl rfl rfl h19 h21 h24 h27 h29 h35 h60 h61
theorem h20 : SpecOk prog 20 (S20 FF) := ok20 FF rfl
theorem h54 : SpecOk prog 54 (S86 FF) := ok54 FF rfl
theorem h63 : SpecOk prog 63 (S92 FF) := ok63 FF rfl rfl h54
theorem h77 : SpecOk prog 77 (S77 FF) := ok77 FF rfl rfl
theorem h78 : SpecOk prog 78 (S78 FF) := ok78 FF rfl
theorem h64 : SpecOk prog 64 (S84 FF) := ok64 FF rfl rfl rfl rfl rfl rfl h54 h63 h77 h78
theorem h22 : SpecOk prog 22 (S22 FF) := ok22 FF rfl rfl rfl rfl rfl h54 h63 h64
theorem h28 : SpecOk prog 28 (S28 FF) := ok28 FF rfl rfl
theorem h40 : SpecOk prog 40 (S40 FF) := ok40 FF rfl rfl
theorem h88 : SpecOk prog 88 (S87 FF) := ok88 FF rfl rfl rfl h63
theorem h89 : SpecOk prog 89 (S89 FF) := ok89 FF rfl rfl rfl rfl rfl rfl h54 h63 h88
theorem h41 : SpecOk prog 41 (S41 FF) := ok41 FF rfl rfl rfl rfl rfl rfl h88 h89
theorem h45 : SpecOk prog 45 (S45 FF) := ok45 FF rfl rfl rfl rfl rfl rfl rfl rfl h38 h86 h87 h92
theorem h42 : SpecOk prog 42 (S42 FF) := ok42 FF rfl rfl rfl rfl rfl h45 h90
theorem h43 : SpecOk prog 43 (S43 FF) := ok43 FF rfl
theorem h44 : SpecOk prog 44 (S44 FF) := ok44 FF rfl rfl rfl rfl rfl rfl rfl h45 h69 h71
theorem h94 : SpecOk prog 94 (S94 FF) := ok94 FF rfl rfl
theorem h55 : SpecOk prog 55 (S55 FF) := ok55 FF rfl rfl
theorem h95 : SpecOk prog 95 (S95 FF) := ok95 FF rfl rfl rfl rfl rfl h54 h55
theorem h49 : SpecOk prog 49 (S49 FF) := ok49 FF rfl rfl rfl rfl rfl rfl h94 h95
theorem h47 : SpecOk prog 47 (S47 FF) := ok47 FF rfl rfl rfl h49
theorem h48 : SpecOk prog 48 (S48 FF) := ok48 FF rfl rfl
theorem h11 : SpecOk prog 11 LWS := ok11 FF GG rfl rfl rfl rfl rfl rfl rfl rfl rfl rfl rfl rfl rfl rfl rfl rfl rfl rfl rfl rfl h18 h20 h22 h28 h40 h41 h42 h43 h44 h45 h46 h47 h48 h49
end Go.Proofs.Tryz
