/- What functions of the weak memory compute, proved through the condition generator, and plain facts of it. Conditions: none of ours. -/
import Derived.Calls
import Derived.Orders
import Derived.Below
import Derived.Lib.ItoaNum
import Derived.Laws.Sem
import Derived.Laws.Cells
import Derived.Laws.Entries
import Derived.Laws.StructEq
import Derived.Lib.IfaceEq
import Derived.Lib.IfaceNeq
import Derived.Laws.MakeOwn
import Derived.Laws.AppendOwn
import Derived.Lib.AppendStr
import Derived.Laws.CopyRow
import Derived.Laws.BytesString
import Derived.MapKept
import Derived.OrdersIn
import Derived.RangeFuncCalls
import Derived.RangeFuncLeaves
import Derived.Test.YthfjgaifdadgnaaGreatProg
import Derived.Shelf.SlSortCmp.Insertion
import GoSem.Step
import Derived.Shelf.SlSortCmp.InsertionK
import Derived.Shelf.SlSortCmp.NoneTotal
import Derived.Ground.SlsfProg
import Derived.Sort.LotA
import Derived.Test.YthfjgaifdadgnaaGreatK0
import Derived.Test.YthfjgaifdadgnaaGreatK1
import Derived.Test.YthfjgaifdadgnaaGreatK2
import Derived.Test.YthfjgaifdadgnaaGreatK3
import Derived.Test.YthfjgaifdadgnaaGreatK4
import Derived.Test.YthfjgaifdadgnaaGreatK5
import Derived.Test.YthfjgaifdadgnaaGreatK6
import Derived.Test.YthfjgaifdadgnaaGreatK7
import Derived.Test.YthfjgaifdadgnaaGreatK8
import Derived.Test.YthfjgaifdadgnaaGreatK9
import Derived.Test.YthfjgaifdadgnaaGreatK10
import Derived.Test.YthfjgaifdadgnaaGreatK11
import Derived.Test.YthfjgaifdadgnaaGreatK12
import Derived.Test.YthfjgaifdadgnaaGreatK13
import Derived.Test.YthfjgaifdadgnaaGreatK14
import Derived.Test.YthfjgaifdadgnaaGreatK15
import Derived.Test.YthfjgaifdadgnaaGreatK16
import Derived.Test.YthfjgaifdadgnaaGreatK17
import Derived.Test.YthfjgaifdadgnaaGreatK18
import Derived.Test.YthfjgaifdadgnaaGreatK19
import Derived.Test.YthfjgaifdadgnaaGreatK20
import Derived.Test.YthfjgaifdadgnaaGreatK21
import Derived.Test.YthfjgaifdadgnaaGreatK22
import Derived.Test.YthfjgaifdadgnaaGreatK23
import Derived.Test.YthfjgaifdadgnaaGreatK24
import Derived.Test.YthfjgaifdadgnaaGreatK25
import Derived.Test.YthfjgaifdadgnaaGreatK26
set_option autoImplicit false
set_option linter.all false
namespace Go.Proofs.Tryz
open Go Go.VM
set_option maxRecDepth 100000
theorem at17 : prog.funcs[17]? = some f17 := by kernel_rfl
def pl17 : Nat → Plan
  | _ => []
noncomputable def D17 (ann : Nat → LAnn) : FnD := ⟨f17.body.getD .skip, f17.ntmps, f17.results.toList, pl17, ann⟩
theorem fnok17 (ann : Nat → LAnn) : FnOk prog 17 (D17 ann) := ⟨f17, at17, by kernel_rfl, by kernel_rfl, rfl, rfl, by kernel_rfl⟩
theorem at32 : prog.funcs[32]? = some f32 := by kernel_rfl
def pl32 : Nat → Plan
  | _ => []
noncomputable def D32 (ann : Nat → LAnn) : FnD := ⟨f32.body.getD .skip, f32.ntmps, f32.results.toList, pl32, ann⟩
theorem fnok32 (ann : Nat → LAnn) : FnOk prog 32 (D32 ann) := ⟨f32, at32, by kernel_rfl, by kernel_rfl, rfl, rfl, by kernel_rfl⟩
theorem at36 : prog.funcs[36]? = some f36 := by kernel_rfl
def pl36 : Nat → Plan
  | _ => []
noncomputable def D36 (ann : Nat → LAnn) : FnD := ⟨f36.body.getD .skip, f36.ntmps, f36.results.toList, pl36, ann⟩
theorem fnok36 (ann : Nat → LAnn) : FnOk prog 36 (D36 ann) := ⟨f36, at36, by kernel_rfl, by kernel_rfl, rfl, rfl, by kernel_rfl⟩
theorem at41 : prog.funcs[41]? = some f41 := by kernel_rfl
def pl41 : Nat → Plan
  | 6 => [(0, []), (1, [0]), (2, [0, 1]), (3, [0, 1]), (4, [0, 1, 2, 3]), (5, [0, 1]), (6, [0, 1]), (7, []), (8, [])]
  | _ => []
noncomputable def D41 (ann : Nat → LAnn) : FnD := ⟨f41.body.getD .skip, f41.ntmps, f41.results.toList, pl41, ann⟩
theorem fnok41 (ann : Nat → LAnn) : FnOk prog 41 (D41 ann) := ⟨f41, at41, by kernel_rfl, by kernel_rfl, rfl, rfl, by kernel_rfl⟩
theorem at42 : prog.funcs[42]? = some f42 := by kernel_rfl
def pl42 : Nat → Plan
  | _ => []
noncomputable def D42 (ann : Nat → LAnn) : FnD := ⟨f42.body.getD .skip, f42.ntmps, f42.results.toList, pl42, ann⟩
theorem fnok42 (ann : Nat → LAnn) : FnOk prog 42 (D42 ann) := ⟨f42, at42, by kernel_rfl, by kernel_rfl, rfl, rfl, by kernel_rfl⟩
theorem at43 : prog.funcs[43]? = some f43 := by kernel_rfl
def pl43 : Nat → Plan
  | 6 => [(0, []), (1, [0]), (2, [0]), (3, []), (4, [0, 1, 2, 3]), (5, [0, 1, 2, 3, 4]), (6, [0, 1, 2, 3, 4]), (7, []), (8, [0, 1, 2, 3, 4, 5, 6, 7]), (9, [0, 1, 2, 3, 4, 5, 6, 7, 8]), (10, [0, 1, 2, 3, 4, 5, 6, 7, 8]), (11, []), (12, [4, 7, 8, 11]), (13, []), (14, []), (15, []), (16, []), (17, [])]
  | _ => []
noncomputable def D43 (ann : Nat → LAnn) : FnD := ⟨f43.body.getD .skip, f43.ntmps, f43.results.toList, pl43, ann⟩
theorem fnok43 (ann : Nat → LAnn) : FnOk prog 43 (D43 ann) := ⟨f43, at43, by kernel_rfl, by kernel_rfl, rfl, rfl, by kernel_rfl⟩
theorem at45 : prog.funcs[45]? = some f45 := by kernel_rfl
def pl45 : Nat → Plan
  | 10 => [(46, [46, 47]), (0, []), (1, []), (2, []), (3, []), (4, []), (5, []), (6, []), (7, []), (8, []), (9, []), (10, []), (11, []), (12, []), (13, []), (14, []), (15, []), (16, []), (17, []), (18, []), (19, [17, 18]), (20, [17, 18]), (21, [17, 18, 19, 20]), (22, [17, 18]), (23, [17, 18]), (24, [17, 18]), (25, []), (26, []), (27, []), (28, []), (29, []), (30, []), (31, []), (32, [29, 30, 31]), (33, [29, 30, 31]), (34, []), (35, []), (36, []), (37, []), (38, []), (39, []), (40, []), (41, []), (42, []), (43, []), (44, []), (45, [43, 44])]
  | _ => []
noncomputable def D45 (ann : Nat → LAnn) : FnD := ⟨f45.body.getD .skip, f45.ntmps, f45.results.toList, pl45, ann⟩
theorem fnok45 (ann : Nat → LAnn) : FnOk prog 45 (D45 ann) := ⟨f45, at45, by kernel_rfl, by kernel_rfl, rfl, rfl, by kernel_rfl⟩
theorem at51 : prog.funcs[51]? = some f51 := by kernel_rfl
def pl51 : Nat → Plan
  | 18 => [(0, []), (1, [0]), (2, [0, 1]), (3, [0, 1, 2]), (4, [0, 1]), (5, [0, 1]), (6, []), (7, [])]
  | _ => []
noncomputable def D51 (ann : Nat → LAnn) : FnD := ⟨f51.body.getD .skip, f51.ntmps, f51.results.toList, pl51, ann⟩
theorem fnok51 (ann : Nat → LAnn) : FnOk prog 51 (D51 ann) := ⟨f51, at51, by kernel_rfl, by kernel_rfl, rfl, rfl, by kernel_rfl⟩
theorem at52 : prog.funcs[52]? = some f52 := by kernel_rfl
def pl52 : Nat → Plan
  | 5 => [(0, []), (1, [0]), (2, []), (3, [0, 1, 2]), (4, []), (5, [])]
  | _ => []
noncomputable def D52 (ann : Nat → LAnn) : FnD := ⟨f52.body.getD .skip, f52.ntmps, f52.results.toList, pl52, ann⟩
theorem fnok52 (ann : Nat → LAnn) : FnOk prog 52 (D52 ann) := ⟨f52, at52, by kernel_rfl, by kernel_rfl, rfl, rfl, by kernel_rfl⟩
theorem at58 : prog.funcs[58]? = some f58 := by kernel_rfl
def pl58 : Nat → Plan
  | _ => []
noncomputable def D58 (ann : Nat → LAnn) : FnD := ⟨f58.body.getD .skip, f58.ntmps, f58.results.toList, pl58, ann⟩
theorem fnok58 (ann : Nat → LAnn) : FnOk prog 58 (D58 ann) := ⟨f58, at58, by kernel_rfl, by kernel_rfl, rfl, rfl, by kernel_rfl⟩
theorem at88 : prog.funcs[88]? = some f88 := by kernel_rfl
def pl88 : Nat → Plan
  | _ => []
noncomputable def D88 (ann : Nat → LAnn) : FnD := ⟨f88.body.getD .skip, f88.ntmps, f88.results.toList, pl88, ann⟩
theorem fnok88 (ann : Nat → LAnn) : FnOk prog 88 (D88 ann) := ⟨f88, at88, by kernel_rfl, by kernel_rfl, rfl, rfl, by kernel_rfl⟩
theorem at89 : prog.funcs[89]? = some f89 := by kernel_rfl
def pl89 : Nat → Plan
  | 4 => [(0, []), (1, []), (2, [0, 1]), (3, []), (4, []), (5, []), (6, [0, 1, 2, 3, 4, 5]), (7, [0, 1, 2, 3, 4, 5]), (8, [0, 1, 2, 3, 4, 5]), (9, [0, 1, 2, 3, 4, 5]), (10, []), (11, []), (12, []), (13, []), (14, []), (15, [13, 14]), (16, []), (17, []), (18, []), (19, []), (20, []), (21, [])]
  | 6 => [(0, []), (1, []), (2, [0, 1]), (3, [0, 1]), (4, [0, 1, 2, 3]), (5, [0, 1]), (6, [0, 1]), (7, [0, 1]), (8, []), (9, []), (10, []), (11, []), (12, []), (13, []), (14, []), (15, []), (16, []), (17, []), (18, []), (19, []), (20, []), (21, []), (22, []), (23, []), (24, [21, 22, 23]), (25, [21, 22, 23]), (26, []), (27, []), (28, []), (29, []), (30, []), (31, []), (32, []), (33, []), (34, []), (35, []), (36, []), (37, []), (38, []), (39, [])]
  | _ => []
noncomputable def D89 (ann : Nat → LAnn) : FnD := ⟨f89.body.getD .skip, f89.ntmps, f89.results.toList, pl89, ann⟩
theorem fnok89 (ann : Nat → LAnn) : FnOk prog 89 (D89 ann) := ⟨f89, at89, by kernel_rfl, by kernel_rfl, rfl, rfl, by kernel_rfl⟩
theorem at91 : prog.funcs[91]? = some f91 := by kernel_rfl
def pl91 : Nat → Plan
  | _ => []
noncomputable def D91 (ann : Nat → LAnn) : FnD := ⟨f91.body.getD .skip, f91.ntmps, f91.results.toList, pl91, ann⟩
theorem fnok91 (ann : Nat → LAnn) : FnOk prog 91 (D91 ann) := ⟨f91, at91, by kernel_rfl, by kernel_rfl, rfl, rfl, by kernel_rfl⟩
theorem at93 : prog.funcs[93]? = some f93 := by kernel_rfl
def pl93 : Nat → Plan
  | _ => []
noncomputable def D93 (ann : Nat → LAnn) : FnD := ⟨f93.body.getD .skip, f93.ntmps, f93.results.toList, pl93, ann⟩
theorem fnok93 (ann : Nat → LAnn) : FnOk prog 93 (D93 ann) := ⟨f93, at93, by kernel_rfl, by kernel_rfl, rfl, rfl, by kernel_rfl⟩
theorem at97 : prog.funcs[97]? = some f97 := by kernel_rfl
def pl97 : Nat → Plan
  | _ => []
noncomputable def D97 (ann : Nat → LAnn) : FnD := ⟨f97.body.getD .skip, f97.ntmps, f97.results.toList, pl97, ann⟩
theorem fnok97 (ann : Nat → LAnn) : FnOk prog 97 (D97 ann) := ⟨f97, at97, by kernel_rfl, by kernel_rfl, rfl, rfl, by kernel_rfl⟩
theorem at98 : prog.funcs[98]? = some f98 := by kernel_rfl
def pl98 : Nat → Plan
  | _ => []
noncomputable def D98 (ann : Nat → LAnn) : FnD := ⟨f98.body.getD .skip, f98.ntmps, f98.results.toList, pl98, ann⟩
theorem fnok98 (ann : Nat → LAnn) : FnOk prog 98 (D98 ann) := ⟨f98, at98, by kernel_rfl, by kernel_rfl, rfl, rfl, by kernel_rfl⟩
theorem at100 : prog.funcs[100]? = some f100 := by kernel_rfl
def pl100 : Nat → Plan
  | _ => []
noncomputable def D100 (ann : Nat → LAnn) : FnD := ⟨f100.body.getD .skip, f100.ntmps, f100.results.toList, pl100, ann⟩
theorem fnok100 (ann : Nat → LAnn) : FnOk prog 100 (D100 ann) := ⟨f100, at100, by kernel_rfl, by kernel_rfl, rfl, rfl, by kernel_rfl⟩
end Go.Proofs.Tryz
set_option autoImplicit false
set_option linter.all false
namespace Go.Proofs.Tryz
open Go Go.VM
set_option maxRecDepth 100000
theorem at16 : prog.funcs[16]? = some f16 := by kernel_rfl
def pl16 : Nat → Plan
  | 8 => [(0, []), (1, []), (2, [0, 1]), (3, []), (4, []), (5, []), (6, []), (7, [6]), (8, [7]), (9, [])]
  | 10 => [(18, []), (0, [18]), (1, [18]), (2, [18, 0, 1]), (3, [18]), (4, [18, 0, 1, 2, 3]), (5, [18, 0, 1, 2, 3, 4]), (6, [18, 0, 1, 2, 3, 4, 5]), (7, [18, 0, 1, 2, 3, 4]), (8, [18, 0, 1, 2, 3, 4]), (9, [18, 0, 1, 2, 3, 4, 5, 6, 7, 8]), (10, [18, 0, 1, 2, 3, 4, 5, 6, 7, 8]), (11, [18, 0, 1, 2, 3, 4]), (12, [18, 0, 1, 2, 3]), (13, [18, 0, 1, 2, 3]), (14, [18]), (15, [18]), (16, [18]), (17, [18, 16]), (19, [17]), (20, [])]
  | 11 => [(0, []), (1, []), (2, []), (3, []), (4, []), (5, [3, 4]), (6, []), (7, []), (8, []), (9, []), (10, []), (11, []), (12, [11]), (13, []), (14, []), (15, [])]
  | 16 => [(0, []), (1, []), (2, [0, 1]), (3, []), (4, []), (5, []), (6, [0, 1, 2, 3, 4, 5]), (7, [0, 1, 2, 3, 4, 5]), (8, [0, 1, 2, 3, 4, 5, 6, 7]), (9, [0, 1, 2, 3, 4, 5]), (10, [0, 1, 2, 3, 4, 5]), (11, [0, 1, 2, 3, 4, 5]), (12, [6, 7, 8, 9, 10, 11]), (13, [])]
  | 29 => [(0, []), (1, []), (2, []), (3, []), (4, []), (5, []), (6, []), (7, []), (8, []), (9, []), (10, []), (11, [9, 10]), (12, [9, 10]), (13, [9, 10, 11, 12]), (14, [9, 10]), (15, [9, 10]), (16, [9, 10]), (17, []), (18, []), (19, []), (20, []), (21, []), (22, [20, 21]), (23, []), (24, []), (25, [20, 21, 22, 23, 24]), (26, [20, 21, 22, 23, 24]), (27, []), (28, []), (29, []), (30, []), (31, []), (32, [])]
  | _ => []
noncomputable def D16 (ann : Nat → LAnn) : FnD := ⟨f16.body.getD .skip, f16.ntmps, f16.results.toList, pl16, ann⟩
theorem fnok16 (ann : Nat → LAnn) : FnOk prog 16 (D16 ann) := ⟨f16, at16, by kernel_rfl, by kernel_rfl, rfl, rfl, by kernel_rfl⟩
theorem at124 : prog.funcs[124]? = some f124 := by kernel_rfl
def pl124 : Nat → Plan
  | _ => []
noncomputable def D124 (ann : Nat → LAnn) : FnD := ⟨f124.body.getD .skip, f124.ntmps, f124.results.toList, pl124, ann⟩
theorem fnok124 (ann : Nat → LAnn) : FnOk prog 124 (D124 ann) := ⟨f124, at124, by kernel_rfl, by kernel_rfl, rfl, rfl, by kernel_rfl⟩
theorem at128 : prog.funcs[128]? = some f128 := by kernel_rfl
def pl128 : Nat → Plan
  | 4 => [(0, []), (1, [0]), (2, [0, 1]), (3, [0]), (4, [0]), (5, [])]
  | _ => []
noncomputable def D128 (ann : Nat → LAnn) : FnD := ⟨f128.body.getD .skip, f128.ntmps, f128.results.toList, pl128, ann⟩
theorem fnok128 (ann : Nat → LAnn) : FnOk prog 128 (D128 ann) := ⟨f128, at128, by kernel_rfl, by kernel_rfl, rfl, rfl, by kernel_rfl⟩
end Go.Proofs.Tryz
set_option autoImplicit false
set_option linter.all false
namespace Go.Proofs.Tryz
open Go Go.VM
def kpOk (n : Nat) (k : KpD) : Bool := withinF k.1 0 ((n : Int) - 1) && isNumF k.2
def thOk (p : WkD) (k : Nat) (t : ThD) : Bool :=
  decide (t.2.1.length = 10) && numsF t.2.1 && numsF t.2.2.2.1 && withinF t.1 0 ((p.2.1[k]?).getD []).length && decide ((t.2.2.1.length : Int) ≤ p.2.2) && decide (t.2.2.2.1.length ≤ 20) && t.2.2.1.all (kpOk p.1.length)
def thsN (p : WkD) (s : StD) : Nat → Bool
  | 0 => true
  | n + 1 => thOk p (s.2.length - (n + 1)) ((s.2[s.2.length - (n + 1)]?).getD (0, [], [], [], false)) && thsN p s n
def isStF (p : WkD) (s : StD) : Bool := decide (s.1.length = p.1.length) && decide (s.2.length = p.2.1.length) && numsF s.1 && thsN p s s.2.length
def ckStF (p : WkD) (s : StD) : Int := if checkF p ≠ 0 then checkF p else if isStF p s then 0 else 2
theorem thsN_step (p : WkD) (s : StD) (k : Nat) (h : k < s.2.length) : thsN p s (s.2.length - k) = (thOk p k ((s.2[k]?).getD (0, [], [], [], false)) && thsN p s (s.2.length - (k + 1))) := by
  obtain ⟨n, hn⟩ : ∃ n, s.2.length - k = n + 1 := ⟨s.2.length - k - 1, by omega⟩
  rw [hn, thsN, show s.2.length - (n + 1) = k by omega, show s.2.length - (k + 1) = n by omega]
end Go.Proofs.Tryz
set_option autoImplicit false
set_option linter.all false
namespace Go.Proofs.Tryz
open Go Go.VM
set_option maxRecDepth 100000
def a88 (L : Lv) (I : Ds [It] → Prop) (mu : Ds [It] → Nat) : Nat → LAnn
  | 0 => anH L [0, 3] [] [.s 3 It] I mu
  | _ => .no
def n88 (L : Lv) (F : BxF) (I : Ds [It] → Prop) (mu : Ds [It] → Nat) (l : List Int)  : VC :=
 VC.obl (St.mk 16 [(0, V.c (C.sl It l)), (3, V.c (C.int IntKind.i64 0))] [(0, Ob.amb)] 1 = St.mk 16 [(0, V.c (C.sl It l)), (3, V.c (C.int IntKind.i64 0))] [(0, Ob.amb)] 1) (VC.obl
   (I (0, ())) (VC.all (Int × Unit) fun (v1 : Int × Unit) =>
 let z1 := Prod.fst v1;
 let z2 := Lv.ar L BinOp.add IntKind.i64 z1 1;
 let z3 := (Lv.ar L BinOp.add IntKind.i64 z1 1, ()); VC.imp (I v1) (VC.br (Lv.cmp L BinOp.lss z1 (Lv.cast L (Lv.llen L It l))) (VC.obl (Lv.inR L z1 (Lv.llen L It l)) (VC.obl True
   (VC.br (BxF.isNum F (Lv.get L It l (Lv.toN L z1))) (VC.ok (St.mk 16 [(0, V.c (C.sl It l)), (3, V.c (C.int IntKind.i64 z2))] [(0, Ob.amb)] 1 = St.mk 16 [(0, V.c (C.sl It l)), (3,
   V.c (C.int IntKind.i64 z2))] [(0, Ob.amb)] 1 ∧ I z3 ∧ mu z3 < mu v1)) (VC.ok ((false, ()) = (BxF.nums F l, ())))))) (VC.ok ((true, ()) = (BxF.nums F l, ()))))))
theorem n88_eq (L : Lv) (F : BxF) (I : Ds [It] → Prop) (mu : Ds [It] → Nat) (l : List Int) : vcC L F [63] (D88 (a88 L I mu)) (S87 F) (l, ()) = n88 L F I mu l := by kernel_rfl
theorem n88_go (L : Lv) (F : BxF) (I : Ds [It] → Prop) (mu : Ds [It] → Nat) (l : List Int) (h : VC.holds (n88 L F I mu l)) : Holds (vcC L F [63] (D88 (a88 L I mu)) (S87 F) (l, ())) := Holds.of_eq (n88_eq L F I mu l) h
theorem ok88 (F : BxF) (h : F.nums = numsF) (h1 : F.isNum = isNumF) (hp : F.bl = bL) (k1 : SpecOk prog 63 (S92 F)) : SpecOk prog 88 (S87 F) := by
  refine contract_by hm hE D88 fnok88 _ fun (z : List Int × Unit) hpre => ?_
  obtain ⟨l, ⟨⟩⟩ := z
  have hpre' : F.bl l := hpre
  rw [hp] at hpre'
  have g : l.length ≤ 1000000 := hpre'
  let I : Int × Unit → Prop := fun x => 0 ≤ x.1 ∧ x.1 ≤ l.length ∧ (l.drop x.1.toNat).all isNumF = numsF l
  let mu : Int × Unit → Nat := fun x => (l.length - x.1).toNat
  refine pack _ 3 (a88 Lv.std I mu) (only_tab (T := cT F) (l := [63]) (tb_cons (tb_sp k1 (by kernel_rfl)) tb_nil)) ?_
  refine n88_go Lv.std F I mu l ?_
  simp only [n88, VC.holds, std_cmp, std_scmp, std_ar_add, std_ar_sub, std_ar_mul, std_ar, std_dv, std_shf, std_conv, std_mn, std_mx, std_beq, std_bnot, std_band, std_scat, std_byte, std_ext, std_slen, std_strOf, std_bytes, std_llen, std_get, std_setl, std_app, std_take, std_drop, std_rep, std_mhas, std_mval, std_mput, std_cast, std_toN, std_sub, std_add, std_inR, std_le3, std_leN, std_ltN, std_ne0, std_nonneg, std_catOk, std_room, std_mkOk, std_nth, std_cnt, cmp_lss_t, cmp_lss_f, cmp_leq_t, cmp_leq_f, cmp_gtr_t, cmp_gtr_f, cmp_geq_t, cmp_geq_f, cmp_eql_t, cmp_eql_f, cmp_neq_t, cmp_neq_f, scmp_eql_t, scmp_eql_f, scmp_neq_t, scmp_neq_f, dflt_int, dflt_bool, dflt_str, dflt_sl, dflt_pair, h, h1, Prod.mk.injEq, and_true, true_and]
  refine ⟨⟨Int.le_refl 0, by show (0 : Int) ≤ l.length; omega, rfl⟩, ?_⟩
  rintro ⟨x, ⟨⟩⟩ ⟨i1, i2, i3⟩
  simp only at i1 i2 i3 ⊢
  obtain ⟨k, rfl⟩ := nat_of i1
  rw [Int.toNat_natCast] at i3
  refine ⟨fun hlt => ⟨⟨i1, hlt⟩, fun hn => ?_, fun hn => ?_⟩, fun hge => ?_⟩
  · rw [wr hlt g]
    rw [all_drop isNumF l k 0 (by omega), Int.toNat_natCast] at *
    rw [hn, Bool.true_and] at i3
    exact ⟨⟨by show (0 : Int) ≤ ((k + 1 : Nat) : Int); omega, by show ((k + 1 : Nat) : Int) ≤ l.length; omega, by show (l.drop ((k + 1 : Nat) : Int).toNat).all isNumF = _; rw [Int.toNat_natCast]; exact i3⟩, by show ((l.length : Int) - ((k + 1 : Nat) : Int)).toNat < ((l.length : Int) - k).toNat; omega⟩
  · rw [all_drop isNumF l k 0 (by omega)] at i3
    rw [Int.toNat_natCast] at hn
    rw [hn, Bool.false_and] at i3
    exact i3
  · rw [show k = l.length by omega, List.drop_length] at i3
    exact i3
end Go.Proofs.Tryz
set_option autoImplicit false
set_option linter.all false
namespace Go.Proofs.Tryz
open Go Go.VM
theorem okT_iff (p : WkD) (k : Nat) (t : ThD) : thOk p k t = true ↔ OkT p k t := by
  unfold thOk
  simp only [Bool.and_eq_true, decide_eq_true_eq, withinF_t, List.all_eq_true, kpOk]
  constructor
  · rintro ⟨⟨⟨⟨⟨⟨h1, h2⟩, h3⟩, h4⟩, h5⟩, h6⟩, h7⟩
    refine ⟨h1, h2, h3, h4.1, by rw [listAt_nat]; exact h4.2, h5, h6, fun x hx => ?_⟩
    obtain ⟨⟨a1, a2⟩, a3⟩ := h7 x hx
    exact ⟨⟨a1, by omega⟩, a3⟩
  · rintro ⟨h1, h2, h3, h4, h4', h5, h6, h7⟩
    refine ⟨⟨⟨⟨⟨⟨h1, h2⟩, h3⟩, h4, by rw [listAt_nat] at h4'; exact h4'⟩, h5⟩, h6⟩, fun x hx => ?_⟩
    obtain ⟨⟨a1, a2⟩, a3⟩ := h7 x hx
    exact ⟨⟨a1, by omega⟩, a3⟩
theorem thsN_iff (p : WkD) (s : StD) : ∀ n, n ≤ s.2.length → (thsN p s n = true ↔ ∀ k : Nat, s.2.length - n ≤ k → k < s.2.length → thOk p k (thAt s k) = true)
  | 0, _ => by
    simp only [thsN, true_iff]
    intro k h1 h2; omega
  | n + 1, hn => by
    rw [thsN, Bool.and_eq_true, thsN_iff p s n (by omega)]
    have e : (s.2[s.2.length - (n + 1)]?).getD (0, [], [], [], false) = thAt s ((s.2.length - (n + 1) : Nat) : Int) := by unfold thAt; rw [Int.toNat_natCast]
    rw [e]
    constructor
    · rintro ⟨h1, h2⟩ k hk hk2
      by_cases hx : k = s.2.length - (n + 1)
      · subst hx; exact h1
      · exact h2 k (by omega) hk2
    · exact fun h => ⟨h _ (Nat.le_refl _) (by omega), fun k hk hk2 => h k (by omega) hk2⟩
theorem okS_iff (p : WkD) (s : StD) : isStF p s = true ↔ OkS p s := by
  unfold isStF
  simp only [Bool.and_eq_true, decide_eq_true_eq, thsN_iff p s _ (Nat.le_refl _)]
  constructor
  · rintro ⟨⟨⟨h1, h2⟩, h3⟩, h4⟩
    exact ⟨h1, h2, h3, fun k hk => (okT_iff p k _).1 (h4 k (by omega) hk)⟩
  · rintro ⟨h1, h2, h3, h4⟩
    exact ⟨⟨⟨h1, h2⟩, h3⟩, fun k _ hk => (okT_iff p k _).2 (h4 k hk)⟩
theorem ckSt_iff (p : WkD) (s : StD) : ckStF p s = 0 ↔ OkP p ∧ OkS p s := by
  unfold ckStF
  rw [← okP_iff, ← okS_iff]
  by_cases h : checkF p = 0
  · rw [if_neg (by simpa using h)]
    by_cases h2 : isStF p s = true
    · simp [h, h2]
    · simp only [h2]; simp
  · rw [if_pos h]; simp [h]
end Go.Proofs.Tryz
set_option autoImplicit false
set_option linter.all false
namespace Go.Proofs.Tryz
open Go Go.VM
set_option maxRecDepth 100000
def aIk (L : Lv) (I : Int × List KpD × Unit → Ds [It] → Prop) (mu : Int × List KpD × Unit → Ds [It] → Nat) : Nat → LAnn
  | 0 => anE L [0, 1, 7, 8] [] [.fn 1, .h (.s 0 (.sl Kp))] [.s 8 It] I mu
  | _ => .no
noncomputable def o45 (L : Lv) (I : Int × List KpD × Unit → Ds [It] → Prop) (mu : Int × List KpD × Unit → Ds [It] → Nat) : List (Nat × FT) := [(91, .inl (D91 a0)), (93, .inl (D93 a0)), (124, .inl (D124 (aIk L I mu)))]
def n45 (L : Lv) (F : BxF) (I0 : Ds [It] → Prop) (mu0 : Ds [It] → Nat) (I : Int × List KpD × Unit → Ds [It] → Prop) (mu : Int × List KpD × Unit → Ds [It] → Nat) (p : WkD) (s : StD)  : VC :=
 let z1 := Prod.snd p;
 let z2 := (Prod.fst p, Prod.fst z1, Prod.snd z1);
 let z3 := (BxF.ckSt F p s, ());
 let z4 := Prod.fst s;
 let z5 := Lv.cast L (Lv.llen L It z4);
 let z6 := Prod.fst p;
 let z7 := Prod.snd s;
 let z8 := Lv.llen L Th z7;
 let z9 := Lv.cast L z8;
 let z10 := Prod.fst z1;
 let z11 := Lv.llen L (Ty.sl In) z10;
 let z12 := Prod.snd z1; VC.obl (BxF.bw F z2) (VC.br (Lv.cmp L BinOp.neq (BxF.check F z2) 0) (VC.ok ((BxF.check F z2, ()) = z3)) (VC.br (Lv.cmp L BinOp.neq z5 (Lv.cast L (Lv.llen L
   It z6))) (VC.ok ((2, ()) = z3)) (VC.br (Lv.cmp L BinOp.neq z9 (Lv.cast L z11)) (VC.ok ((2, ()) = z3)) (VC.obl (BxF.bl F z4) (VC.br (BxF.nums F z4) (VC.obl (St.mk 94 [(2, V.c
   (C.ptr 1 0)), (3, V.c (C.ptr 2 0)), (37, V.c (C.sl Th z7)), (38, V.c (C.int IntKind.i64 z9)), (39, V.c (C.int IntKind.i64 0))] [(0, Ob.amb), (1, Ob.box 25 [C.sl It z6, C.sl
   (Ty.sl In) z10, C.int IntKind.i64 z12]), (2, Ob.box 59 [C.sl It z4, C.sl Th z7])] 3 = St.mk 94 [(2, V.c (C.ptr 1 0)), (3, V.c (C.ptr 2 0)), (37, V.c (C.sl Th z7)), (38, V.c
   (C.int IntKind.i64 z9)), (39, V.c (C.int IntKind.i64 0))] [(0, Ob.amb), (1, Ob.box 25 [C.sl It z6, C.sl (Ty.sl In) z10, C.int IntKind.i64 z12]), (2, Ob.box 59 [C.sl It z4, C.sl
   Th z7])] 3) (VC.obl (I0 (0, ())) (VC.all (Int × Unit) fun (v1 : Int × Unit) =>
 let z13 := Prod.fst v1;
 let z14 := Lv.toN L z13;
 let z15 := Lv.get L Th z7 z14;
 let z16 := Prod.snd z15;
 let z17 := Prod.fst z16;
 let z18 := Prod.snd z16;
 let z19 := Prod.snd z18;
 let z20 := Prod.fst z19;
 let z21 := Prod.fst z15;
 let z22 := Prod.fst z18;
 let z23 := Lv.llen L Kp z22;
 let z24 := Lv.cast L z23;
 let z25 := Prod.snd z19;
 let z26 := Lv.ar L BinOp.add IntKind.i64 z13 1;
 let z27 := (Lv.ar L BinOp.add IntKind.i64 z13 1, ()); VC.imp (I0 v1) (VC.br (Lv.cmp L BinOp.lss z13 z9) (VC.obl (Lv.inR L z13 z8) (VC.br (Lv.cmp L BinOp.neq (Lv.cast L (Lv.llen L
   It z17)) 10) (VC.ok ((2, ()) = z3)) (VC.obl (BxF.bl F z17) (VC.br (BxF.nums F z17) (VC.obl (BxF.bl F z20) (VC.br (BxF.nums F z20) (VC.obl (Lv.inR L z13 z11) (VC.obl True (VC.br
   (BxF.within F z21 0 (Lv.cast L (Lv.llen L In (Lv.get L (Ty.sl In) z10 z14)))) (VC.br (Lv.cmp L BinOp.gtr z24 z12) (VC.ok ((2, ()) = z3)) (VC.br (Lv.cmp L BinOp.gtr (Lv.cast L
   (Lv.llen L It z20)) 20) (VC.ok ((2, ()) = z3)) (VC.obl (St.mk 19 [(0, V.c (C.sl Kp z22)), (1, V.c (C.fn 91 [2])), (7, V.c (C.int IntKind.i64 z24)), (8, V.c (C.int IntKind.i64
   0))] [(0, Ob.amb), (1, Ob.box 25 [C.sl It z6, C.sl (Ty.sl In) z10, C.int IntKind.i64 z12]), (2, Ob.box 59 [C.sl It z4, C.sl Th z7]), (3, Ob.box 99 [C.int IntKind.i64 z21, C.sl It
   z17, C.sl Kp z22, C.sl It z20, C.sym z25])] 4 = St.mk 19 [(0, V.c (C.sl Kp z22)), (1, V.c (C.fn 91 [2])), (7, V.c (C.int IntKind.i64 z24)), (8, V.c (C.int IntKind.i64 0))] [(0,
   Ob.amb), (1, Ob.box 25 [C.sl It z6, C.sl (Ty.sl In) z10, C.int IntKind.i64 z12]), (2, Ob.box 59 [C.sl It z4, C.sl Th z7]), (3, Ob.box 99 [C.int IntKind.i64 z21, C.sl It z17, C.sl
   Kp z22, C.sl It z20, C.sym z25])] 4) (VC.obl (I (91, Prod.fst z18, ()) (0, ())) (VC.all (Int × Unit) fun (v2 : Int × Unit) =>
 let z28 := Prod.fst v2;
 let z29 := Lv.get L Kp z22 (Lv.toN L z28);
 let z30 := Lv.ar L BinOp.add IntKind.i64 z28 1;
 let z31 := (Lv.ar L BinOp.add IntKind.i64 z28 1, ());
 let z32 := Lv.cmp L BinOp.geq z28 0; VC.imp (I (91, Prod.fst z18, ()) v2) (VC.br (Lv.cmp L BinOp.lss z28 z24) (VC.obl (Lv.inR L z28 z23) (VC.obl True (VC.br (BxF.within F (Prod.fst
   z29) 0 (Lv.ar L BinOp.sub IntKind.i64 z5 1)) (VC.obl True (VC.br (BxF.isNum F (Prod.snd z29)) (VC.ok (St.mk 19 [(0, V.c (C.sl Kp z22)), (1, V.c (C.fn 91 [2])), (7, V.c (C.int
   IntKind.i64 z24)), (8, V.c (C.int IntKind.i64 z30))] [(0, Ob.amb), (1, Ob.box 25 [C.sl It z6, C.sl (Ty.sl In) z10, C.int IntKind.i64 z12]), (2, Ob.box 59 [C.sl It z4, C.sl Th
   z7]), (3, Ob.box 99 [C.int IntKind.i64 z21, C.sl It z17, C.sl Kp z22, C.sl It z20, C.sym z25])] 4 = St.mk 19 [(0, V.c (C.sl Kp z22)), (1, V.c (C.fn 91 [2])), (7, V.c (C.int
   IntKind.i64 z24)), (8, V.c (C.int IntKind.i64 z30))] [(0, Ob.amb), (1, Ob.box 25 [C.sl It z6, C.sl (Ty.sl In) z10, C.int IntKind.i64 z12]), (2, Ob.box 59 [C.sl It z4, C.sl Th
   z7]), (3, Ob.box 99 [C.int IntKind.i64 z21, C.sl It z17, C.sl Kp z22, C.sl It z20, C.sym z25])] 4 ∧ I (91, Prod.fst z18, ()) z31 ∧ mu (91, Prod.fst z18, ()) z31 < mu (91,
   Prod.fst z18, ()) v2)) (VC.br z32 (VC.ok ((2, ()) = z3)) (VC.ok (St.mk 94 [(2, V.c (C.ptr 1 0)), (3, V.c (C.ptr 2 0)), (37, V.c (C.sl Th z7)), (38, V.c (C.int IntKind.i64 z9)),
   (39, V.c (C.int IntKind.i64 z26))] [(0, Ob.amb), (1, Ob.box 25 [C.sl It z6, C.sl (Ty.sl In) z10, C.int IntKind.i64 z12]), (2, Ob.box 59 [C.sl It z4, C.sl Th z7])] 3 = St.mk 94
   [(2, V.c (C.ptr 1 0)), (3, V.c (C.ptr 2 0)), (37, V.c (C.sl Th z7)), (38, V.c (C.int IntKind.i64 z9)), (39, V.c (C.int IntKind.i64 z26))] [(0, Ob.amb), (1, Ob.box 25 [C.sl It z6,
   C.sl (Ty.sl In) z10, C.int IntKind.i64 z12]), (2, Ob.box 59 [C.sl It z4, C.sl Th z7])] 3 ∧ I0 z27 ∧ mu0 z27 < mu0 v1))))) (VC.br z32 (VC.ok ((2, ()) = z3)) (VC.ok (St.mk 94 [(2,
   V.c (C.ptr 1 0)), (3, V.c (C.ptr 2 0)), (37, V.c (C.sl Th z7)), (38, V.c (C.int IntKind.i64 z9)), (39, V.c (C.int IntKind.i64 z26))] [(0, Ob.amb), (1, Ob.box 25 [C.sl It z6, C.sl
   (Ty.sl In) z10, C.int IntKind.i64 z12]), (2, Ob.box 59 [C.sl It z4, C.sl Th z7])] 3 = St.mk 94 [(2, V.c (C.ptr 1 0)), (3, V.c (C.ptr 2 0)), (37, V.c (C.sl Th z7)), (38, V.c
   (C.int IntKind.i64 z9)), (39, V.c (C.int IntKind.i64 z26))] [(0, Ob.amb), (1, Ob.box 25 [C.sl It z6, C.sl (Ty.sl In) z10, C.int IntKind.i64 z12]), (2, Ob.box 59 [C.sl It z4, C.sl
   Th z7])] 3 ∧ I0 z27 ∧ mu0 z27 < mu0 v1)))))) (VC.br (Lv.cmp L BinOp.geq (Int.negSucc 0) 0) (VC.ok ((2, ()) = z3)) (VC.ok (St.mk 94 [(2, V.c (C.ptr 1 0)), (3, V.c (C.ptr 2 0)),
   (37, V.c (C.sl Th z7)), (38, V.c (C.int IntKind.i64 z9)), (39, V.c (C.int IntKind.i64 z26))] [(0, Ob.amb), (1, Ob.box 25 [C.sl It z6, C.sl (Ty.sl In) z10, C.int IntKind.i64
   z12]), (2, Ob.box 59 [C.sl It z4, C.sl Th z7])] 3 = St.mk 94 [(2, V.c (C.ptr 1 0)), (3, V.c (C.ptr 2 0)), (37, V.c (C.sl Th z7)), (38, V.c (C.int IntKind.i64 z9)), (39, V.c
   (C.int IntKind.i64 z26))] [(0, Ob.amb), (1, Ob.box 25 [C.sl It z6, C.sl (Ty.sl In) z10, C.int IntKind.i64 z12]), (2, Ob.box 59 [C.sl It z4, C.sl Th z7])] 3 ∧ I0 z27 ∧ mu0 z27 <
   mu0 v1))))))))) (VC.ok ((2, ()) = z3))))) (VC.ok ((2, ()) = z3)))) (VC.ok ((2, ()) = z3)))))) (VC.ok ((0, ()) = z3)))))) (VC.ok ((2, ()) = z3)))))))
theorem n45_eq (L : Lv) (F : BxF) (I0 : Ds [It] → Prop) (mu0 : Ds [It] → Nat) (I : Int × List KpD × Unit → Ds [It] → Prop) (mu : Int × List KpD × Unit → Ds [It] → Nat) (p : WkD) (s : StD) : vcO L F (o45 L I mu) [38, 86, 87, 92, 91, 93, 124] 6 (D45 (a45 L I0 mu0)) (S45 F) (p, s, ()) = n45 L F I0 mu0 I mu p s := by kernel_rfl
theorem n45_go (L : Lv) (F : BxF) (I0 : Ds [It] → Prop) (mu0 : Ds [It] → Nat) (I : Int × List KpD × Unit → Ds [It] → Prop) (mu : Int × List KpD × Unit → Ds [It] → Nat) (p : WkD) (s : StD) (h : VC.holds (n45 L F I0 mu0 I mu p s)) : Holds (vcO L F (o45 L I mu) [38, 86, 87, 92, 91, 93, 124] 6 (D45 (a45 L I0 mu0)) (S45 F) (p, s, ())) := Holds.of_eq (n45_eq L F I0 mu0 I mu p s) h
theorem ok45 (F : BxF) (h : F.ckSt = ckStF) (h1 : F.check = checkF) (h2 : F.nums = numsF) (h3 : F.isNum = isNumF) (h4 : F.within = withinF) (hp : F.pSt = fun p s => bW p ∧ bS s) (q : F.bl = bL) (q1 : F.bw = bW) (k1 : SpecOk prog 38 (S22 F)) (k2 : SpecOk prog 86 (S86 F)) (k3 : SpecOk prog 87 (S87 F)) (k4 : SpecOk prog 92 (S92 F)) : SpecOk prog 45 (S45 F) := by
  refine contract_by hm hE D45 fnok45 _ fun (z : WkD × StD × Unit) hpre => ?_
  obtain ⟨p, s, ⟨⟩⟩ := z
  have hpre' : F.pSt p s := hpre
  rw [hp] at hpre'
  obtain ⟨gw, g4, g5, g6⟩ := hpre'
  have gw' := gw
  obtain ⟨g1, g2, g3⟩ := gw
  let I0 : Int × Unit → Prop := Iv s.2.length fun j => thsN p s (s.2.length - j) = thsN p s s.2.length
  let I : Int × List KpD × Unit → Int × Unit → Prop := fun e => Iv e.2.1.length fun j => (e.2.1.drop j).all (kpOk s.1.length) = e.2.1.all (kpOk s.1.length)
  let mu : Int × List KpD × Unit → Int × Unit → Nat := fun e => Mu e.2.1.length
  refine pack _ 6 (a45 Lv.std I0 (Mu s.2.length)) (only_tab (T := tabO (o45 Lv.std I mu) (cT F)) (l := [38, 86, 87, 92, 91, 93, 124]) (tb_cons (tb_sp k1 (by kernel_rfl)) (tb_cons (tb_sp k2 (by kernel_rfl)) (tb_cons (tb_sp k3 (by kernel_rfl)) (tb_cons (tb_sp k4 (by kernel_rfl)) (tb_cons (tb_d (fnok91 a0) (by kernel_rfl)) (tb_cons (tb_d (fnok93 a0) (by kernel_rfl)) (tb_cons (tb_d (fnok124 (aIk Lv.std I mu)) (by kernel_rfl)) tb_nil)))))))) ?_
  refine n45_go Lv.std F I0 (Mu s.2.length) I mu p s ?_
  have e1 : ∀ (l : List ThD) (k : Int), Lv.std.get Th l k.toNat = (l[k.toNat]?).getD (0, [], [], [], false) := fun _ _ => rfl
  have e2 : ∀ (l : List (List InD)) (k : Int), Lv.std.get (.sl In) l k.toNat = (l[k.toNat]?).getD [] := fun _ _ => rfl
  have e3 : ∀ (l : List KpD) (k : Int), Lv.std.get Kp l k.toNat = (l[k.toNat]?).getD (0, 0) := fun _ _ => rfl
  have ew : IntKind.i64.wrap ((s.1.length : Int) - 1) = (s.1.length : Int) - 1 := wrap_i64 (by omega) (by omega)
  have neg1 : (Int.negSucc 0 : Int) = -1 := rfl
  simp only [n45, VC.holds, std_cmp, std_cast, std_llen, std_toN, e1, e2, e3, std_inR, std_ar_add, std_ar_sub, ew, neg1, cmp_lss_t, cmp_lss_f, cmp_gtr_t, cmp_gtr_f, cmp_geq_t, cmp_geq_f, cmp_neq_t, cmp_neq_f, cmp_eql_t, cmp_eql_f, h, h1, h2, h3, h4, q, q1, Prod.mk.injEq, and_true, true_and, Int.toNat_natCast]
  refine ⟨gw', fun c0 => ?_, fun c0 => ⟨fun c1 => ?_, fun c1 => ⟨fun c2 => ?_, fun c2 => ⟨g4, fun c3 => ⟨Iv.zero rfl, fun x hx => ?_⟩, fun c3 => ?_⟩⟩⟩⟩
  · rw [ckStF, if_pos c0]
  · rw [ckStF, if_neg (by simpa using c0), isStF, decide_eq_false (by omega : ¬ s.1.length = p.1.length)]; rfl
  · rw [ckStF, if_neg (by simpa using c0), isStF, decide_eq_false (by omega : ¬ s.2.length = p.2.1.length)]; simp
  · obtain ⟨j, rfl, hj, i3⟩ := Iv.elim hx
    simp only [Int.toNat_natCast]
    have hl : s.1.length = p.1.length := by omega
    have e0 : isStF p s = thsN p s s.2.length := by rw [isStF, decide_eq_true hl, decide_eq_true (by omega), c3]; rfl
    refine ⟨fun hlt => ⟨⟨by omega, hlt⟩, ?_⟩, fun hge => ?_⟩
    · have hj' : j < s.2.length := by omega
      generalize ht : (s.2[j]?).getD (0, [], [], [], false) = t
      have bt : bTh t := by rw [← ht, List.getElem?_eq_getElem hj']; exact g6 _ (List.getElem_mem hj')
      obtain ⟨b1, b2, b3⟩ := bt
      rw [thsN_step p s j hj', ht] at i3
      have no : thOk p j t = false → 2 = ckStF p s := fun e => by
        rw [e, Bool.false_and] at i3
        rw [ckStF, if_neg (by simpa using c0), e0, ← i3]; rfl
      have yes : thOk p j t = true → I0 (((j + 1 : Nat) : Int), ()) := fun e => by
        rw [e, Bool.true_and] at i3
        exact Iv.mk (by omega) i3
      have gen : ∀ (X : Prop), (thOk p j t = false → X) → X ∨ thOk p j t = true := fun X hX => by cases hh : thOk p j t with | false => exact .inl (hX hh) | true => exact .inr rfl
      refine ⟨fun d1 => no ?_, fun d1 => ⟨b1, fun d2 => ⟨b3, fun d3 => ⟨⟨by omega, by omega⟩, fun d4 => ⟨fun d5 => no ?_, fun d5 => ⟨fun d6 => no ?_, fun d6 => ⟨Iv.zero rfl, fun x hx => ?_⟩⟩⟩, fun d4 => no ?_⟩, fun d3 => no ?_⟩, fun d2 => no ?_⟩⟩
      · rw [thOk, decide_eq_false (by omega : ¬ t.2.1.length = 10)]; simp
      · rw [thOk, decide_eq_false (by omega : ¬ (t.2.2.1.length : Int) ≤ p.2.2)]; simp
      · rw [thOk, decide_eq_false (by omega : ¬ t.2.2.2.1.length ≤ 20)]; simp
      · obtain ⟨y, rfl, hy, m3⟩ := Iv.elim hx
        have hy1 : y ≤ t.2.2.1.length := hy
        simp only [Int.toNat_natCast] at m3 ⊢
        have all0 : t.2.2.1.all (kpOk p.1.length) = false → thOk p j t = false := fun e => by rw [thOk, e, Bool.and_false]
        have m3' : (t.2.2.1.drop y).all (kpOk p.1.length) = t.2.2.1.all (kpOk p.1.length) := by rw [← hl]; exact m3
        refine ⟨fun hlt2 => ⟨⟨by omega, hlt2⟩, fun e1 => ⟨fun e2 => ?_, fun e2 => ⟨fun _ => no (all0 ?_), fun hc => by omega⟩⟩, fun e1 => ⟨fun _ => no (all0 ?_), fun hc => by omega⟩⟩, fun hge2 => ⟨fun hc => by omega, fun _ => ?_⟩⟩
        · rw [all_drop _ _ y (0, 0) (by omega), kpOk, e1, e2, Bool.and_self, Bool.true_and] at m3
          rw [wr hlt2 b2]
          exact ⟨Iv.mk (by show y + 1 ≤ t.2.2.1.length; omega) m3, Mu.lt (n := t.2.2.1.length) (by omega)⟩
        · rw [← hl, all_drop _ _ y (0, 0) (by omega), kpOk, e2, Bool.and_false, Bool.false_and] at m3'
          exact (by rw [← hl]; exact m3'.symm)
        · rw [← hl, all_drop _ _ y (0, 0) (by omega), kpOk, e1, Bool.false_and, Bool.false_and] at m3'
          exact (by rw [← hl]; exact m3'.symm)
        · rw [show y = t.2.2.1.length by omega, List.drop_length] at m3'
          rw [wr hlt g5]
          exact ⟨yes (by rw [thOk, decide_eq_true (by omega), d2, d3, d4, decide_eq_true d5, decide_eq_true (by omega), ← m3']; rfl), Mu.lt (by omega)⟩
      · rw [thOk, d4]; simp
      · rw [thOk, d3]; simp
      · rw [thOk, d2]; simp
    · rw [show s.2.length - j = 0 by omega] at i3
      rw [ckStF, if_neg (by simpa using c0), e0, ← i3]; rfl
  · rw [ckStF, if_neg (by simpa using c0), isStF, c3]; simp
end Go.Proofs.Tryz
set_option autoImplicit false
set_option linter.all false
namespace Go.Proofs.Tryz
open Go Go.VM
set_option maxRecDepth 100000
def a43 (L : Lv) (I : Ds [.sl Th, It] → Prop) (mu : Ds [.sl Th, It] → Nat) : Nat → LAnn
  | 0 => anH L [1, 2, 3, 4] [(3, some 1, 99, Th)] [.br 3 1 Th, .s 4 It] I mu
  | _ => .no
def n43 (L : Lv) (F : BxF) (I : Ds [.sl Th, It] → Prop) (mu : Ds [.sl Th, It] → Nat) (s : StD)  : VC :=
 let z1 := Lv.take L It [] 0;
 let z2 := Lv.llen L It z1;
 let z3 := Prod.fst s;
 let z4 := Lv.add L z2 (Lv.llen L It z3);
 let z5 := Prod.snd s;
 let z6 := Lv.app L It z1 z3;
 let z7 := Int × List Int × List (Int × Int) × List Int × Bool;
 let z8 := Lv.llen L Th z5;
 let z9 := Lv.take L Kp [] 0;
 let z10 := Lv.llen L Kp z9; VC.obl (Lv.room L z4 8) (VC.obl (St.mk 45 [(1, V.c (C.ptr 1 0)), (2, V.c (C.ptr 2 0)), (3, V.c (C.ptr 5 0)), (4, V.c (C.int IntKind.i64 0))] [(0,
   Ob.amb), (1, Ob.box 59 [C.sl It z3, C.sl Th z5]), (2, Ob.box 59 [C.nils, C.nils]), (4, Ob.row 3 It z6), (5, Ob.box 59 [C.own 4 z4, C.own 7 0]), (7, Ob.row 99 Th [])] 8 = St.mk 45
   [(1, V.c (C.ptr 1 0)), (2, V.c (C.ptr 2 0)), (3, V.c (C.ptr 5 0)), (4, V.c (C.int IntKind.i64 0))] [(0, Ob.amb), (1, Ob.box 59 [C.sl It z3, C.sl Th z5]), (2, Ob.box 59 [C.nils,
   C.nils]), (4, Ob.row 3 It z6), (5, Ob.box 59 [C.own 4 z4, C.own 7 (Lv.llen L Th [])]), (7, Ob.row 99 Th [])] 8) (VC.obl (I ([], 0, ())) (VC.all (List z7 × Int × Unit) fun (v1 :
   List (Int × List Int × List (Int × Int) × List Int × Bool) × Int × Unit) =>
 let z11 := Prod.fst (Prod.snd v1);
 let z12 := Lv.get L Th z5 (Lv.toN L z11);
 let z13 := Prod.snd z12;
 let z14 := Prod.fst z13;
 let z15 := Lv.add L z2 (Lv.llen L It z14);
 let z16 := Prod.snd z13;
 let z17 := Prod.fst z16;
 let z18 := Lv.add L z10 (Lv.llen L Kp z17);
 let z19 := Prod.snd z16;
 let z20 := Prod.fst z19;
 let z21 := Lv.add L z2 (Lv.llen L It z20);
 let z22 := Prod.fst v1;
 let z23 := Lv.llen L Th z22;
 let z24 := Lv.take L Th z22 z23;
 let z25 := (Lv.take L Th [(Prod.fst z12, Lv.take L It (Lv.app L It z1 z14) z15, Lv.take L Kp (Lv.app L Kp z9 z17) z18, Lv.take L It (Lv.app L It z1 z20) z21, Prod.snd z19)] 1);
 let z26 := Lv.add L (Lv.llen L Th z24) (Lv.llen L Th z25);
 let z27 := Lv.ar L BinOp.add IntKind.i64 z11 1;
 let z28 := Lv.app L Th z24 z25;
 let z29 := (Lv.app L Th z24 z25, Lv.ar L BinOp.add IntKind.i64 z11 1, ()); VC.imp (I v1) (VC.br (Lv.cmp L BinOp.lss z11 (Lv.cast L z8)) (VC.obl (Lv.inR L z11 z8) (VC.obl (Lv.room L
   z15 8) (VC.obl (Lv.room L z18 16) (VC.obl (Lv.room L z21 8) (VC.obl (Lv.room L z26 88) (VC.ok (St.mk 45 [(1, V.c (C.ptr 1 0)), (2, V.c (C.ptr 2 0)), (3, V.c (C.ptr 5 0)), (4, V.c
   (C.int IntKind.i64 z27))] [(0, Ob.amb), (1, Ob.box 59 [C.sl It z3, C.sl Th z5]), (2, Ob.box 59 [C.nils, C.nils]), (4, Ob.row 3 It z6), (5, Ob.box 59 [C.own 4 z4, C.own 7 z26]),
   (7, Ob.row 99 Th z28)] 8 = St.mk 45 [(1, V.c (C.ptr 1 0)), (2, V.c (C.ptr 2 0)), (3, V.c (C.ptr 5 0)), (4, V.c (C.int IntKind.i64 z27))] [(0, Ob.amb), (1, Ob.box 59 [C.sl It z3,
   C.sl Th z5]), (2, Ob.box 59 [C.nils, C.nils]), (4, Ob.row 3 It z6), (5, Ob.box 59 [C.own 4 z4, C.own 7 (Lv.llen L Th z28)]), (7, Ob.row 99 Th z28)] 8 ∧ I z29 ∧ mu z29 < mu
   v1))))))) (VC.ok (((Lv.take L It z6 z4, Lv.take L Th z22 z23), ()) = (s, ())))))))
theorem n43_eq (L : Lv) (F : BxF) (I : Ds [.sl Th, It] → Prop) (mu : Ds [.sl Th, It] → Nat) (s : StD) : vcC L F [] (D43 (a43 L I mu)) (S43 F) (s, ()) = n43 L F I mu s := by kernel_rfl
theorem n43_go (L : Lv) (F : BxF) (I : Ds [.sl Th, It] → Prop) (mu : Ds [.sl Th, It] → Nat) (s : StD) (h : VC.holds (n43 L F I mu s)) : Holds (vcC L F [] (D43 (a43 L I mu)) (S43 F) (s, ())) := Holds.of_eq (n43_eq L F I mu s) h
theorem ok43 (F : BxF) (hp : F.bs = bS) : SpecOk prog 43 (S43 F) := by
  refine contract_by hm hE D43 fnok43 _ fun (z : StD × Unit) hpre => ?_
  obtain ⟨s, ⟨⟩⟩ := z
  have hpre' : F.bs s := hpre
  rw [hp] at hpre'
  obtain ⟨g1, g2, g3⟩ := hpre'
  let I : List ThD × Int × Unit → Prop := fun x => (0 ≤ x.2.1 ∧ x.2.1 ≤ s.2.length) ∧ x.1 = s.2.take x.2.1.toNat
  let mu : List ThD × Int × Unit → Nat := fun x => (s.2.length - x.2.1).toNat
  refine pack _ 3 (a43 Lv.std I mu) (only_tab (T := cT F) (l := []) tb_nil) ?_
  refine n43_go Lv.std F I mu s ?_
  simp only [n43, VC.holds, std_cmp, std_scmp, std_ar_add, std_ar_sub, std_ar_mul, std_ar, std_dv, std_shf, std_conv, std_mn, std_mx, std_beq, std_bnot, std_band, std_scat, std_byte, std_ext, std_slen, std_strOf, std_bytes, std_llen, std_get, std_setl, std_app, std_take, std_drop, std_rep, std_mhas, std_mval, std_mput, std_cast, std_toN, std_sub, std_add, std_inR, std_le3, std_leN, std_ltN, std_ne0, std_nonneg, std_catOk, std_room, std_mkOk, std_nth, std_cnt, cmp_lss_t, cmp_lss_f, cmp_leq_t, cmp_leq_f, cmp_gtr_t, cmp_gtr_f, cmp_geq_t, cmp_geq_f, cmp_eql_t, cmp_eql_f, cmp_neq_t, cmp_neq_f, scmp_eql_t, scmp_eql_f, scmp_neq_t, scmp_neq_f, dflt_int, dflt_bool, dflt_str, dflt_sl, dflt_pair, List.take_length, List.take_succ_cons, List.take_zero, List.take_nil, List.nil_append, List.length_append, List.length_cons, List.length_nil, Nat.zero_add, pe5, Prod.mk.injEq, and_true, true_and]
  refine ⟨⟨by omega, by omega⟩, ⟨⟨Int.le_refl 0, by show (0 : Int) ≤ s.2.length; omega⟩, rfl⟩, ?_⟩
  rintro ⟨l, x, ⟨⟩⟩ ⟨⟨i1, i2⟩, i3⟩
  simp only at i1 i2 i3 ⊢
  obtain ⟨k, rfl⟩ := nat_of i1
  rw [Int.toNat_natCast] at i3
  subst i3
  have hl : (s.2.take k).length = k := by rw [List.length_take]; omega
  rw [hl, Int.toNat_natCast]
  refine ⟨fun hlt => ?_, fun hge => ?_⟩
  · have hk : k < s.2.length := by omega
    rw [wr hlt g2, List.getElem?_eq_getElem hk, Option.getD_some]
    obtain ⟨b1, b2, b3⟩ := g3 _ (List.getElem_mem hk)
    refine ⟨⟨i1, hlt⟩, ⟨by omega, by omega⟩, ⟨by omega, by omega⟩, ⟨by omega, by omega⟩, ⟨by omega, by omega⟩, ⟨⟨by show (0 : Int) ≤ ((k + 1 : Nat) : Int); omega, by show ((k + 1 : Nat) : Int) ≤ _; omega⟩, ?_⟩, by show ((s.2.length : Int) - ((k + 1 : Nat) : Int)).toNat < ((s.2.length : Int) - k).toNat; omega⟩
    show s.2.take k ++ [s.2[k]] = s.2.take ((k + 1 : Nat) : Int).toNat
    rw [Int.toNat_natCast, List.take_succ, List.getElem?_eq_getElem hk]; rfl
  · rw [List.take_of_length_le (by omega)]
end Go.Proofs.Tryz
set_option autoImplicit false
set_option linter.all false
namespace Go.Proofs.Tryz
open Go Go.VM
set_option maxRecDepth 100000
def n17 (L : Lv) (F : BxF) (I : Ds [It] → Prop) (mu : Ds [It] → Nat) (p : WkD)  : VC :=
 let z1 := Prod.fst p;
 let z2 := Lv.cast L (Lv.llen L It z1);
 let z3 := (BxF.thin F p, ());
 let z4 := Prod.fst (Prod.snd p);
 let z5 := Lv.llen L (Ty.sl In) z4;
 let z6 := Lv.cast L z5;
 let z7 := Lv.cmp L BinOp.gtr z6 6;
 let z8 := Prod.snd (Prod.snd p);
 let z9 := Lv.cmp L BinOp.gtr z6 3; VC.br (Lv.cmp L BinOp.gtr z2 70) (VC.ok ((false, ()) = z3)) (VC.br (Lv.cmp L BinOp.gtr z2 8) (VC.br (Lv.cmp L BinOp.leq z2 64) (VC.ok ((false,
   ()) = z3)) (VC.br z7 (VC.ok ((false, ()) = z3)) (VC.obl (St.mk 60 [(1, V.c (C.ptr 1 0)), (3, V.c (C.int IntKind.i64 0))] [(0, Ob.amb), (1, Ob.box 25 [C.sl It z1, C.sl (Ty.sl In)
   z4, C.int IntKind.i64 z8])] 2 = St.mk 60 [(1, V.c (C.ptr 1 0)), (3, V.c (C.int IntKind.i64 0))] [(0, Ob.amb), (1, Ob.box 25 [C.sl It z1, C.sl (Ty.sl In) z4, C.int IntKind.i64
   z8])] 2) (VC.obl (I (0, ())) (VC.all (Int × Unit) fun (v1 : Int × Unit) =>
 let z10 := Prod.fst v1;
 let z11 := Lv.cast L (Lv.llen L In (Lv.get L (Ty.sl In) z4 (Lv.toN L z10)));
 let z12 := Lv.cmp L BinOp.gtr z11 2;
 let z13 := Lv.ar L BinOp.add IntKind.i64 z10 1;
 let z14 := (Lv.ar L BinOp.add IntKind.i64 z10 1, ()); VC.imp (I v1) (VC.br (Lv.cmp L BinOp.lss z10 z6) (VC.obl (Lv.inR L z10 z5) (VC.br (Lv.cmp L BinOp.gtr z11 205) (VC.ok ((false,
   ()) = z3)) (VC.br (Lv.cmp L BinOp.gtr z11 12) (VC.br (Lv.cmp L BinOp.leq z11 200) (VC.ok ((false, ()) = z3)) (VC.br z9 (VC.br z12 (VC.ok ((false, ()) = z3)) (VC.ok (St.mk 60 [(1,
   V.c (C.ptr 1 0)), (3, V.c (C.int IntKind.i64 z13))] [(0, Ob.amb), (1, Ob.box 25 [C.sl It z1, C.sl (Ty.sl In) z4, C.int IntKind.i64 z8])] 2 = St.mk 60 [(1, V.c (C.ptr 1 0)), (3,
   V.c (C.int IntKind.i64 z13))] [(0, Ob.amb), (1, Ob.box 25 [C.sl It z1, C.sl (Ty.sl In) z4, C.int IntKind.i64 z8])] 2 ∧ I z14 ∧ mu z14 < mu v1))) (VC.ok (St.mk 60 [(1, V.c (C.ptr
   1 0)), (3, V.c (C.int IntKind.i64 z13))] [(0, Ob.amb), (1, Ob.box 25 [C.sl It z1, C.sl (Ty.sl In) z4, C.int IntKind.i64 z8])] 2 = St.mk 60 [(1, V.c (C.ptr 1 0)), (3, V.c (C.int
   IntKind.i64 z13))] [(0, Ob.amb), (1, Ob.box 25 [C.sl It z1, C.sl (Ty.sl In) z4, C.int IntKind.i64 z8])] 2 ∧ I z14 ∧ mu z14 < mu v1)))) (VC.br z9 (VC.br z12 (VC.ok ((false, ()) =
   z3)) (VC.ok (St.mk 60 [(1, V.c (C.ptr 1 0)), (3, V.c (C.int IntKind.i64 z13))] [(0, Ob.amb), (1, Ob.box 25 [C.sl It z1, C.sl (Ty.sl In) z4, C.int IntKind.i64 z8])] 2 = St.mk 60
   [(1, V.c (C.ptr 1 0)), (3, V.c (C.int IntKind.i64 z13))] [(0, Ob.amb), (1, Ob.box 25 [C.sl It z1, C.sl (Ty.sl In) z4, C.int IntKind.i64 z8])] 2 ∧ I z14 ∧ mu z14 < mu v1))) (VC.ok
   (St.mk 60 [(1, V.c (C.ptr 1 0)), (3, V.c (C.int IntKind.i64 z13))] [(0, Ob.amb), (1, Ob.box 25 [C.sl It z1, C.sl (Ty.sl In) z4, C.int IntKind.i64 z8])] 2 = St.mk 60 [(1, V.c
   (C.ptr 1 0)), (3, V.c (C.int IntKind.i64 z13))] [(0, Ob.amb), (1, Ob.box 25 [C.sl It z1, C.sl (Ty.sl In) z4, C.int IntKind.i64 z8])] 2 ∧ I z14 ∧ mu z14 < mu v1)))))) (VC.ok
   ((true, ()) = z3)))))))) (VC.br z7 (VC.ok ((false, ()) = z3)) (VC.obl (St.mk 60 [(1, V.c (C.ptr 1 0)), (3, V.c (C.int IntKind.i64 0))] [(0, Ob.amb), (1, Ob.box 25 [C.sl It z1,
   C.sl (Ty.sl In) z4, C.int IntKind.i64 z8])] 2 = St.mk 60 [(1, V.c (C.ptr 1 0)), (3, V.c (C.int IntKind.i64 0))] [(0, Ob.amb), (1, Ob.box 25 [C.sl It z1, C.sl (Ty.sl In) z4, C.int
   IntKind.i64 z8])] 2) (VC.obl (I (0, ())) (VC.all (Int × Unit) fun (v2 : Int × Unit) =>
 let z15 := Prod.fst v2;
 let z16 := Lv.cast L (Lv.llen L In (Lv.get L (Ty.sl In) z4 (Lv.toN L z15)));
 let z17 := Lv.cmp L BinOp.gtr z16 2;
 let z18 := Lv.ar L BinOp.add IntKind.i64 z15 1;
 let z19 := (Lv.ar L BinOp.add IntKind.i64 z15 1, ()); VC.imp (I v2) (VC.br (Lv.cmp L BinOp.lss z15 z6) (VC.obl (Lv.inR L z15 z5) (VC.br (Lv.cmp L BinOp.gtr z16 205) (VC.ok ((false,
   ()) = z3)) (VC.br (Lv.cmp L BinOp.gtr z16 12) (VC.br (Lv.cmp L BinOp.leq z16 200) (VC.ok ((false, ()) = z3)) (VC.br z9 (VC.br z17 (VC.ok ((false, ()) = z3)) (VC.ok (St.mk 60 [(1,
   V.c (C.ptr 1 0)), (3, V.c (C.int IntKind.i64 z18))] [(0, Ob.amb), (1, Ob.box 25 [C.sl It z1, C.sl (Ty.sl In) z4, C.int IntKind.i64 z8])] 2 = St.mk 60 [(1, V.c (C.ptr 1 0)), (3,
   V.c (C.int IntKind.i64 z18))] [(0, Ob.amb), (1, Ob.box 25 [C.sl It z1, C.sl (Ty.sl In) z4, C.int IntKind.i64 z8])] 2 ∧ I z19 ∧ mu z19 < mu v2))) (VC.ok (St.mk 60 [(1, V.c (C.ptr
   1 0)), (3, V.c (C.int IntKind.i64 z18))] [(0, Ob.amb), (1, Ob.box 25 [C.sl It z1, C.sl (Ty.sl In) z4, C.int IntKind.i64 z8])] 2 = St.mk 60 [(1, V.c (C.ptr 1 0)), (3, V.c (C.int
   IntKind.i64 z18))] [(0, Ob.amb), (1, Ob.box 25 [C.sl It z1, C.sl (Ty.sl In) z4, C.int IntKind.i64 z8])] 2 ∧ I z19 ∧ mu z19 < mu v2)))) (VC.br z9 (VC.br z17 (VC.ok ((false, ()) =
   z3)) (VC.ok (St.mk 60 [(1, V.c (C.ptr 1 0)), (3, V.c (C.int IntKind.i64 z18))] [(0, Ob.amb), (1, Ob.box 25 [C.sl It z1, C.sl (Ty.sl In) z4, C.int IntKind.i64 z8])] 2 = St.mk 60
   [(1, V.c (C.ptr 1 0)), (3, V.c (C.int IntKind.i64 z18))] [(0, Ob.amb), (1, Ob.box 25 [C.sl It z1, C.sl (Ty.sl In) z4, C.int IntKind.i64 z8])] 2 ∧ I z19 ∧ mu z19 < mu v2))) (VC.ok
   (St.mk 60 [(1, V.c (C.ptr 1 0)), (3, V.c (C.int IntKind.i64 z18))] [(0, Ob.amb), (1, Ob.box 25 [C.sl It z1, C.sl (Ty.sl In) z4, C.int IntKind.i64 z8])] 2 = St.mk 60 [(1, V.c
   (C.ptr 1 0)), (3, V.c (C.int IntKind.i64 z18))] [(0, Ob.amb), (1, Ob.box 25 [C.sl It z1, C.sl (Ty.sl In) z4, C.int IntKind.i64 z8])] 2 ∧ I z19 ∧ mu z19 < mu v2)))))) (VC.ok
   ((true, ()) = z3))))))))
theorem n17_eq (L : Lv) (F : BxF) (I : Ds [It] → Prop) (mu : Ds [It] → Nat) (p : WkD) : vcC L F [] (D17 (aT3 L I mu)) (S17 F) (p, ()) = n17 L F I mu p := by kernel_rfl
theorem n17_go (L : Lv) (F : BxF) (I : Ds [It] → Prop) (mu : Ds [It] → Nat) (p : WkD) (h : VC.holds (n17 L F I mu p)) : Holds (vcC L F [] (D17 (aT3 L I mu)) (S17 F) (p, ())) := Holds.of_eq (n17_eq L F I mu p) h
def thinL (n : Nat) (l : List InD) : Bool := !(decide (205 < (l.length : Int)) || (decide (12 < (l.length : Int)) && decide ((l.length : Int) ≤ 200)) || (decide (3 < (n : Int)) && decide (2 < (l.length : Int))))
def thinF (p : WkD) : Bool := !(decide (70 < (p.1.length : Int)) || (decide (8 < (p.1.length : Int)) && decide ((p.1.length : Int) ≤ 64)) || decide (6 < (p.2.1.length : Int))) && p.2.1.all (thinL p.2.1.length)
theorem ok17 (F : BxF) (h : F.thin = thinF) (hp : F.bwT = bwTF) : SpecOk prog 17 (S17 F) := by
  refine contract_by hm hE D17 fnok17 _ fun (z : WkD × Unit) hpre => ?_
  obtain ⟨p, ⟨⟩⟩ := z
  have hpre' : F.bwT p := hpre
  rw [hp] at hpre'
  obtain ⟨g1, g2, g3⟩ := hpre'
  let I : Int × Unit → Prop := Iv p.2.1.length fun k => (p.2.1.drop k).all (thinL p.2.1.length) = p.2.1.all (thinL p.2.1.length)
  refine pack _ 3 (aT3 Lv.std I (Mu p.2.1.length)) (only_tab (T := cT F) (l := []) tb_nil) ?_
  refine n17_go Lv.std F I (Mu p.2.1.length) p ?_
  have e2 : ∀ (l : List (List InD)) (k : Int), Lv.std.get (.sl In) l k.toNat = (l[k.toNat]?).getD [] := fun _ _ => rfl
  simp only [n17, VC.holds, std_cmp, std_cast, std_llen, std_toN, e2, std_inR, std_ar_add, cmp_lss_t, cmp_lss_f, cmp_gtr_t, cmp_gtr_f, cmp_leq_t, cmp_leq_f, h, and_true, true_and]
  have et : ∀ l, thinL p.2.1.length l = true ↔ ¬ (205 < (l.length : Int) ∨ (12 < (l.length : Int) ∧ (l.length : Int) ≤ 200) ∨ (3 < (p.2.1.length : Int) ∧ 2 < (l.length : Int))) := fun l => by
    unfold thinL; simp only [Bool.not_eq_true', Bool.or_eq_false_iff, Bool.and_eq_false_iff, decide_eq_false_iff_not]; omega
  have ew : thinF p = true ↔ ¬ (70 < (p.1.length : Int) ∨ (8 < (p.1.length : Int) ∧ (p.1.length : Int) ≤ 64) ∨ 6 < (p.2.1.length : Int)) ∧ p.2.1.all (thinL p.2.1.length) = true := by
    unfold thinF; simp only [Bool.and_eq_true, Bool.not_eq_true', Bool.or_eq_false_iff, Bool.and_eq_false_iff, decide_eq_false_iff_not]
    constructor
    · rintro ⟨h1, h2⟩; exact ⟨by omega, h2⟩
    · rintro ⟨h1, h2⟩; exact ⟨by omega, h2⟩
  have fls : ¬ (thinF p = true) → (false, ()) = (thinF p, ()) := fun h => by rw [Bool.not_eq_true] at h; rw [h]
  have fw : (70 < (p.1.length : Int) ∨ (8 < (p.1.length : Int) ∧ (p.1.length : Int) ≤ 64) ∨ 6 < (p.2.1.length : Int)) → (false, ()) = (thinF p, ()) := fun h => fls fun e => (ew.1 e).1 h
  have fail : ∀ k : Nat, k < p.2.1.length → (p.2.1.drop k).all (thinL p.2.1.length) = p.2.1.all (thinL p.2.1.length) → (205 < (((p.2.1[k]?).getD []).length : Int) ∨ (12 < (((p.2.1[k]?).getD []).length : Int) ∧ (((p.2.1[k]?).getD []).length : Int) ≤ 200) ∨ (3 < (p.2.1.length : Int) ∧ 2 < (((p.2.1[k]?).getD []).length : Int))) → (false, ()) = (thinF p, ()) := fun k hk i3 h => fls fun e => by
    rw [(ew.1 e).2, all_drop _ _ k [] hk, Bool.and_eq_true] at i3
    exact (et _).1 i3.1 h
  have passI : ∀ k : Nat, k < p.2.1.length → (p.2.1.drop k).all (thinL p.2.1.length) = p.2.1.all (thinL p.2.1.length) → ¬ (205 < (((p.2.1[k]?).getD []).length : Int) ∨ (12 < (((p.2.1[k]?).getD []).length : Int) ∧ (((p.2.1[k]?).getD []).length : Int) ≤ 200) ∨ (3 < (p.2.1.length : Int) ∧ 2 < (((p.2.1[k]?).getD []).length : Int))) → I (IntKind.i64.wrap ((k : Int) + 1), ()) := fun k hk i3 h => by
    rw [all_drop _ _ k [] hk, (et _).2 h, Bool.true_and] at i3
    rw [wrB (by omega) g2]
    exact Iv.mk (by omega) i3
  have passM : ∀ k : Nat, k < p.2.1.length → Mu p.2.1.length (IntKind.i64.wrap ((k : Int) + 1), ()) < Mu p.2.1.length ((k : Int), ()) := fun k hk => by rw [wrB (by omega) g2]; exact Mu.lt hk
  refine ⟨fun a => fw (by omega), fun a => ⟨fun b => ⟨fun c => fw (by omega), fun c => ⟨fun d => fw (by omega), fun d => ?_⟩⟩, fun b => ⟨fun d => fw (by omega), fun d => ?_⟩⟩⟩
  all_goals
    refine ⟨Iv.zero rfl, fun x hx => ?_⟩
    obtain ⟨k, rfl, hk, i3⟩ := Iv.elim hx
    simp only [Int.toNat_natCast]
    refine ⟨fun hlt => ⟨⟨by omega, hlt⟩, ?_⟩, fun hge => ?_⟩
    · have fail' := fail k (by omega) i3
      have passI' := passI k (by omega) i3
      have passM' := passM k (by omega)
      clear_value I
      repeat' (first | refine And.intro ?_ ?_ | intro _)
      all_goals first | exact passM' | exact fail' (by omega) | exact passI' (by omega)
    · rw [show k = p.2.1.length by omega, List.drop_length] at i3
      have i3 : true = p.2.1.all (thinL p.2.1.length) := i3
      rw [ew.2 ⟨by omega, i3.symm⟩]
end Go.Proofs.Tryz
set_option autoImplicit false
set_option linter.all false
namespace Go.Proofs.Tryz
open Go Go.VM
set_option maxRecDepth 100000
def a89 (L : Lv) (I : Ds [It] → Prop) (mu : Ds [It] → Nat) : Nat → LAnn
  | 0 => anH L [1, 3, 5, 7] [] [.s 7 It] I mu
  | _ => .no
def a41 (L : Lv) (I : Ds [It] → Prop) (mu : Ds [It] → Nat) : Nat → LAnn
  | 0 => anH L [2, 3, 5] [] [.s 5 It] I mu
  | _ => .no
def n89 (L : Lv) (F : BxF) (I : Ds [It] → Prop) (mu : Ds [It] → Nat) (p : WkD) (k : Int) (t : ThD)  : VC :=
 let z1 := Prod.fst p;
 let z2 := Prod.fst (Prod.snd p);
 let z3 := Prod.snd (Prod.snd p);
 let z4 := Prod.fst t;
 let z5 := Prod.fst (Prod.snd t);
 let z6 := Prod.snd (Prod.snd t);
 let z7 := Prod.fst z6;
 let z8 := Prod.snd z6;
 let z9 := Prod.fst z8;
 let z10 := Prod.snd z8;
 let z11 := Lv.llen L Kp z7;
 let z12 := Lv.cast L z11;
 let z13 := (BxF.isTh F p k t, ()); VC.obl (St.mk 76 [(1, V.c (C.int IntKind.i64 k)), (3, V.c (C.ptr 1 0)), (5, V.c (C.ptr 2 0)), (7, V.c (C.int IntKind.i64 0))] [(0, Ob.amb), (1,
   Ob.box 25 [C.sl It z1, C.sl (Ty.sl In) z2, C.int IntKind.i64 z3]), (2, Ob.box 99 [C.int IntKind.i64 z4, C.sl It z5, C.sl Kp z7, C.sl It z9, C.sym z10])] 3 = St.mk 76 [(1, V.c
   (C.int IntKind.i64 k)), (3, V.c (C.ptr 1 0)), (5, V.c (C.ptr 2 0)), (7, V.c (C.int IntKind.i64 0))] [(0, Ob.amb), (1, Ob.box 25 [C.sl It z1, C.sl (Ty.sl In) z2, C.int IntKind.i64
   z3]), (2, Ob.box 99 [C.int IntKind.i64 z4, C.sl It z5, C.sl Kp z7, C.sl It z9, C.sym z10])] 3) (VC.obl (I (0, ())) (VC.all (Int × Unit) fun (v1 : Int × Unit) =>
 let z14 := Prod.fst v1;
 let z15 := Lv.inR L z14 z11;
 let z16 := Lv.get L Kp z7 (Lv.toN L z14);
 let z17 := Lv.ar L BinOp.add IntKind.i64 z14 1;
 let z18 := (Lv.ar L BinOp.add IntKind.i64 z14 1, ()); VC.imp (I v1) (VC.br (Lv.cmp L BinOp.lss z14 z12) (VC.obl z15 (VC.obl True (VC.br (BxF.within F (Prod.fst z16) 0 (Lv.ar L
   BinOp.sub IntKind.i64 (Lv.cast L (Lv.llen L It z1)) 1)) (VC.obl z15 (VC.obl True (VC.br (BxF.isNum F (Prod.snd z16)) (VC.ok (St.mk 76 [(1, V.c (C.int IntKind.i64 k)), (3, V.c
   (C.ptr 1 0)), (5, V.c (C.ptr 2 0)), (7, V.c (C.int IntKind.i64 z17))] [(0, Ob.amb), (1, Ob.box 25 [C.sl It z1, C.sl (Ty.sl In) z2, C.int IntKind.i64 z3]), (2, Ob.box 99 [C.int
   IntKind.i64 z4, C.sl It z5, C.sl Kp z7, C.sl It z9, C.sym z10])] 3 = St.mk 76 [(1, V.c (C.int IntKind.i64 k)), (3, V.c (C.ptr 1 0)), (5, V.c (C.ptr 2 0)), (7, V.c (C.int
   IntKind.i64 z17))] [(0, Ob.amb), (1, Ob.box 25 [C.sl It z1, C.sl (Ty.sl In) z2, C.int IntKind.i64 z3]), (2, Ob.box 99 [C.int IntKind.i64 z4, C.sl It z5, C.sl Kp z7, C.sl It z9,
   C.sym z10])] 3 ∧ I z18 ∧ mu z18 < mu v1)) (VC.ok ((false, ()) = z13))))) (VC.ok ((false, ()) = z13))))) (VC.obl (Lv.inR L k (Lv.llen L (Ty.sl In) z2)) (VC.obl True (VC.br
   (BxF.within F z4 0 (Lv.cast L (Lv.llen L In (Lv.get L (Ty.sl In) z2 (Lv.toN L k))))) (VC.br (Lv.cmp L BinOp.eql (Lv.cast L (Lv.llen L It z5)) 10) (VC.obl (BxF.bl F z5) (VC.br
   (BxF.nums F z5) (VC.br (Lv.cmp L BinOp.leq z12 z3) (VC.br (Lv.cmp L BinOp.leq (Lv.cast L (Lv.llen L It z9)) 20) (VC.obl (BxF.bl F z9) (VC.br (BxF.nums F z9) (VC.ok ((true, ()) =
   z13)) (VC.ok ((false, ()) = z13)))) (VC.ok ((false, ()) = z13))) (VC.ok ((false, ()) = z13))) (VC.ok ((false, ()) = z13)))) (VC.ok ((false, ()) = z13))) (VC.ok ((false, ()) =
   z13))))))))
theorem n89_eq (L : Lv) (F : BxF) (I : Ds [It] → Prop) (mu : Ds [It] → Nat) (p : WkD) (k : Int) (t : ThD) : vcC L F [54, 63, 88] (D89 (a89 L I mu)) (S89 F) (p, k, t, ()) = n89 L F I mu p k t := by kernel_rfl
theorem n89_go (L : Lv) (F : BxF) (I : Ds [It] → Prop) (mu : Ds [It] → Nat) (p : WkD) (k : Int) (t : ThD) (h : VC.holds (n89 L F I mu p k t)) : Holds (vcC L F [54, 63, 88] (D89 (a89 L I mu)) (S89 F) (p, k, t, ())) := Holds.of_eq (n89_eq L F I mu p k t) h
def n41 (L : Lv) (F : BxF) (I : Ds [It] → Prop) (mu : Ds [It] → Nat) (p : WkD) (s : StD)  : VC :=
 let z1 := Prod.fst s;
 let z2 := Prod.fst p;
 let z3 := (BxF.isSt F p s, ());
 let z4 := Prod.snd s;
 let z5 := Lv.llen L Th z4;
 let z6 := Lv.cast L z5;
 let z7 := Prod.snd p;
 let z8 := Prod.fst z7;
 let z9 := Prod.snd z7;
 let z10 := (Prod.fst p, Prod.fst z7, Prod.snd z7); VC.br (Lv.cmp L BinOp.neq (Lv.cast L (Lv.llen L It z1)) (Lv.cast L (Lv.llen L It z2))) (VC.ok ((false, ()) = z3)) (VC.br (Lv.cmp
   L BinOp.neq z6 (Lv.cast L (Lv.llen L (Ty.sl In) z8))) (VC.ok ((false, ()) = z3)) (VC.obl (BxF.bl F z1) (VC.br (BxF.nums F z1) (VC.obl (St.mk 44 [(2, V.c (C.ptr 1 0)), (3, V.c
   (C.ptr 2 0)), (5, V.c (C.int IntKind.i64 0))] [(0, Ob.amb), (1, Ob.box 25 [C.sl It z2, C.sl (Ty.sl In) z8, C.int IntKind.i64 z9]), (2, Ob.box 59 [C.sl It z1, C.sl Th z4])] 3 =
   St.mk 44 [(2, V.c (C.ptr 1 0)), (3, V.c (C.ptr 2 0)), (5, V.c (C.int IntKind.i64 0))] [(0, Ob.amb), (1, Ob.box 25 [C.sl It z2, C.sl (Ty.sl In) z8, C.int IntKind.i64 z9]), (2,
   Ob.box 59 [C.sl It z1, C.sl Th z4])] 3) (VC.obl (I (0, ())) (VC.all (Int × Unit) fun (v1 : Int × Unit) =>
 let z11 := Prod.fst v1;
 let z12 := Lv.get L Th z4 (Lv.toN L z11);
 let z13 := Prod.snd z12;
 let z14 := Prod.snd z13;
 let z15 := Prod.snd z14;
 let z16 := (Prod.fst z12, Prod.fst z13, Prod.fst z14, Prod.fst z15, Prod.snd z15);
 let z17 := Lv.ar L BinOp.add IntKind.i64 z11 1;
 let z18 := (Lv.ar L BinOp.add IntKind.i64 z11 1, ()); VC.imp (I v1) (VC.br (Lv.cmp L BinOp.lss z11 z6) (VC.obl (Lv.inR L z11 z5) (VC.obl (BxF.pTh F z10 z11 z16) (VC.br (BxF.isTh F
   z10 z11 z16) (VC.ok (St.mk 44 [(2, V.c (C.ptr 1 0)), (3, V.c (C.ptr 2 0)), (5, V.c (C.int IntKind.i64 z17))] [(0, Ob.amb), (1, Ob.box 25 [C.sl It z2, C.sl (Ty.sl In) z8, C.int
   IntKind.i64 z9]), (2, Ob.box 59 [C.sl It z1, C.sl Th z4])] 3 = St.mk 44 [(2, V.c (C.ptr 1 0)), (3, V.c (C.ptr 2 0)), (5, V.c (C.int IntKind.i64 z17))] [(0, Ob.amb), (1, Ob.box 25
   [C.sl It z2, C.sl (Ty.sl In) z8, C.int IntKind.i64 z9]), (2, Ob.box 59 [C.sl It z1, C.sl Th z4])] 3 ∧ I z18 ∧ mu z18 < mu v1)) (VC.ok ((false, ()) = z3))))) (VC.ok ((true, ()) =
   z3)))))) (VC.ok ((false, ()) = z3)))))
theorem n41_eq (L : Lv) (F : BxF) (I : Ds [It] → Prop) (mu : Ds [It] → Nat) (p : WkD) (s : StD) : vcC L F [88, 89] (D41 (a41 L I mu)) (S41 F) (p, s, ()) = n41 L F I mu p s := by kernel_rfl
theorem n41_go (L : Lv) (F : BxF) (I : Ds [It] → Prop) (mu : Ds [It] → Nat) (p : WkD) (s : StD) (h : VC.holds (n41 L F I mu p s)) : Holds (vcC L F [88, 89] (D41 (a41 L I mu)) (S41 F) (p, s, ())) := Holds.of_eq (n41_eq L F I mu p s) h
theorem ok89 (F : BxF) (h : F.isTh = fun p k t => thOk p k.toNat t) (h1 : F.isNum = isNumF) (h2 : F.within = withinF) (h3 : F.nums = numsF) (hp : F.pTh = fun p k t => p.1.length ≤ 1000000 ∧ (0 ≤ k ∧ k < p.2.1.length) ∧ bTh t) (q : F.bl = bL) (k1 : SpecOk prog 54 (S86 F)) (k2 : SpecOk prog 63 (S92 F)) (k3 : SpecOk prog 88 (S87 F)) : SpecOk prog 89 (S89 F) := by
  refine contract_by hm hE D89 fnok89 _ fun (z : WkD × Int × ThD × Unit) hpre => ?_
  obtain ⟨p, k, t, ⟨⟩⟩ := z
  have hpre' : F.pTh p k t := hpre
  rw [hp] at hpre'
  obtain ⟨g1, g2, g3, g4, g5⟩ := hpre'
  obtain ⟨k, rfl⟩ := nat_of g2.1
  let I : Int × Unit → Prop := Iv t.2.2.1.length fun j => (t.2.2.1.drop j).all (kpOk p.1.length) = t.2.2.1.all (kpOk p.1.length)
  refine pack _ 3 (a89 Lv.std I (Mu t.2.2.1.length)) (only_tab (T := cT F) (l := [54, 63, 88]) (tb_cons (tb_sp k1 (by kernel_rfl)) (tb_cons (tb_sp k2 (by kernel_rfl)) (tb_cons (tb_sp k3 (by kernel_rfl)) tb_nil)))) ?_
  refine n89_go Lv.std F I (Mu t.2.2.1.length) p k t ?_
  have eI : ∀ (l : List (List InD)) (k : Int), Lv.std.get (.sl In) l k.toNat = (l[k.toNat]?).getD [] := fun _ _ => rfl
  have eJ : ∀ (l : List KpD) (k : Int), Lv.std.get Kp l k.toNat = (l[k.toNat]?).getD (0, 0) := fun _ _ => rfl
  have ew : IntKind.i64.wrap ((p.1.length : Int) - 1) = (p.1.length : Int) - 1 := wrap_i64 (by omega) (by omega)
  simp only [n89, VC.holds, std_cmp, std_cast, std_llen, std_toN, eI, eJ, std_inR, std_ar_add, std_ar_sub, ew, cmp_lss_t, cmp_lss_f, cmp_leq_t, cmp_leq_f, cmp_eql_t, cmp_eql_f, h, h1, h2, h3, q, Prod.mk.injEq, and_true, true_and, Int.toNat_natCast]
  refine ⟨Iv.zero rfl, fun x hx => ?_⟩
  obtain ⟨j, rfl, hj, i3⟩ := Iv.elim hx
  simp only [Int.toNat_natCast]
  have no : t.2.2.1.all (kpOk p.1.length) = false → false = thOk p k t := fun e => by rw [thOk, e, Bool.and_false]
  refine ⟨fun hlt => ⟨⟨by omega, hlt⟩, fun ha => ⟨⟨by omega, hlt⟩, fun hb => ?_, fun hb => ?_⟩, fun ha => ?_⟩, fun hge => ⟨g2, fun a1 => ⟨fun a2 => ⟨g3, fun a3 => ⟨fun a4 => ⟨fun a5 => ⟨g5, fun a6 => ?_, fun a6 => ?_⟩, fun a5 => ?_⟩, fun a4 => ?_⟩, fun a3 => ?_⟩, fun a2 => ?_⟩, fun a1 => ?_⟩⟩
  · rw [all_drop _ _ j (0, 0) (by omega), kpOk, ha, hb, Bool.and_self, Bool.true_and] at i3
    rw [wr hlt g4]
    exact ⟨Iv.mk (by omega) i3, Mu.lt (by omega)⟩
  · rw [all_drop _ _ j (0, 0) (by omega), kpOk, hb, Bool.and_false, Bool.false_and] at i3
    exact no i3.symm
  · rw [all_drop _ _ j (0, 0) (by omega), kpOk, ha, Bool.false_and, Bool.false_and] at i3
    exact no i3.symm
  · have a1' : withinF t.1 0 (((p.2.1[k]?).getD []).length : Int) = true := a1
    rw [show j = t.2.2.1.length by omega, List.drop_length] at i3
    rw [thOk, decide_eq_true (by omega), a3, a6, a1', decide_eq_true a4, decide_eq_true (by omega), ← i3]; rfl
  · rw [thOk, a6]; simp
  · rw [thOk, decide_eq_false (by omega : ¬ t.2.2.2.1.length ≤ 20)]; simp
  · rw [thOk, decide_eq_false (by omega : ¬ (t.2.2.1.length : Int) ≤ p.2.2)]; simp
  · rw [thOk, a3]; simp
  · rw [thOk, decide_eq_false (by omega : ¬ t.2.1.length = 10)]; simp
  · have a1' : withinF t.1 0 (((p.2.1[k]?).getD []).length : Int) = false := a1
    rw [thOk, a1']; simp
theorem ok41 (F : BxF) (h : F.isSt = isStF) (h1 : F.isTh = fun p k t => thOk p k.toNat t) (h2 : F.nums = numsF) (hp : F.pSt = fun p s => bW p ∧ bS s) (q : F.bl = bL) (q1 : F.pTh = fun p k t => p.1.length ≤ 1000000 ∧ (0 ≤ k ∧ k < p.2.1.length) ∧ bTh t) (k1 : SpecOk prog 88 (S87 F)) (k2 : SpecOk prog 89 (S89 F)) : SpecOk prog 41 (S41 F) := by
  refine contract_by hm hE D41 fnok41 _ fun (z : WkD × StD × Unit) hpre => ?_
  obtain ⟨p, s, ⟨⟩⟩ := z
  have hpre' : F.pSt p s := hpre
  rw [hp] at hpre'
  obtain ⟨⟨g1, g2, g3⟩, g4, g5, g6⟩ := hpre'
  let I : Int × Unit → Prop := Iv s.2.length fun j => thsN p s (s.2.length - j) = thsN p s s.2.length
  refine pack _ 3 (a41 Lv.std I (Mu s.2.length)) (only_tab (T := cT F) (l := [88, 89]) (tb_cons (tb_sp k1 (by kernel_rfl)) (tb_cons (tb_sp k2 (by kernel_rfl)) tb_nil))) ?_
  refine n41_go Lv.std F I (Mu s.2.length) p s ?_
  have eT : ∀ (l : List ThD) (k : Int), Lv.std.get Th l k.toNat = (l[k.toNat]?).getD (0, [], [], [], false) := fun _ _ => rfl
  simp only [n41, VC.holds, std_cmp, std_cast, std_llen, std_toN, eT, std_inR, std_ar_add, cmp_lss_t, cmp_lss_f, cmp_neq_t, cmp_neq_f, h, h1, h2, q, q1, Prod.mk.injEq, and_true, true_and]
  refine ⟨fun c1 => ?_, fun c1 => ⟨fun c2 => ?_, fun c2 => ⟨g4, fun c3 => ⟨Iv.zero rfl, fun x hx => ?_⟩, fun c3 => ?_⟩⟩⟩
  · rw [isStF, decide_eq_false (by omega : ¬ s.1.length = p.1.length)]; rfl
  · rw [isStF, decide_eq_false (by omega : ¬ s.2.length = p.2.1.length)]; simp
  · obtain ⟨j, rfl, hj, i3⟩ := Iv.elim hx
    simp only [Int.toNat_natCast]
    have e0 : isStF p s = thsN p s s.2.length := by rw [isStF, decide_eq_true (by omega), decide_eq_true (by omega), c3]; rfl
    refine ⟨fun hlt => ⟨⟨by omega, hlt⟩, ⟨g1, ⟨by omega, by omega⟩, ?_⟩, fun ha => ?_, fun ha => ?_⟩, fun hge => ?_⟩
    · rw [List.getElem?_eq_getElem (by omega)]; exact g6 _ (List.getElem_mem (by omega))
    · rw [thsN_step p s j (by omega)] at i3
      have ha' : thOk p j ((s.2[j]?).getD (0, [], [], [], false)) = true := ha
      rw [ha', Bool.true_and] at i3
      rw [wr hlt g5]
      exact ⟨Iv.mk (by omega) i3, Mu.lt (by omega)⟩
    · rw [thsN_step p s j (by omega)] at i3
      have ha' : thOk p j ((s.2[j]?).getD (0, [], [], [], false)) = false := ha
      rw [ha', Bool.false_and] at i3
      rw [e0]; exact i3
    · rw [show s.2.length - j = 0 by omega] at i3
      rw [e0]; exact i3
  · rw [isStF, c3]; simp
end Go.Proofs.Tryz
set_option autoImplicit false
set_option linter.all false
namespace Go.Proofs.Tryz
open Go Go.VM
set_option maxRecDepth 100000
def a51 (L : Lv) (I : Ds [.sl It, .sl Th, It] → Prop) (mu : Ds [.sl It, .sl Th, It] → Nat) : Nat → LAnn
  | 0 => anH L [1, 4, 8, 9, 10] [] [.b 9 0 (.sl It), .b 9 1 (.sl Th), .s 10 It] I mu
  | _ => .no
def aIw (L : Lv) (I : Int × List Int × Unit → Ds [It] → Prop) (mu : Int × List Int × Unit → Ds [It] → Nat) : Nat → LAnn
  | 0 => anE L [0, 1, 7, 8] [] [.fn 1, .h (.s 0 (.sl It))] [.s 8 It] I mu
  | _ => .no
noncomputable def o51 (L : Lv) (I : Int × List Int × Unit → Ds [It] → Prop) (mu : Int × List Int × Unit → Ds [It] → Nat) : List (Nat × FT) := [(96, .inl (D96 a0)), (97, .inl (D97 a0)), (125, .inl (D125 (aIw L I mu)))]
def n51 (L : Lv) (F : BxF) (I0 : Ds [.sl It, .sl Th, It] → Prop) (mu0 : Ds [.sl It, .sl Th, It] → Nat) (I : Int × List Int × Unit → Ds [It] → Prop) (mu : Int × List Int × Unit → Ds [It] → Nat) (p : WkD) (l : List Int)  : VC :=
 let z1 := Prod.snd p;
 let z2 := (Prod.fst p, Prod.fst z1, Prod.snd z1);
 let z3 := BxF.check F z2;
 let z4 := Lv.llen L It l;
 let z5 := Lv.cast L z4;
 let z6 := Prod.fst p;
 let z7 := Prod.fst z1;
 let z8 := Prod.snd z1;
 let z9 := Lv.cmp L BinOp.neq 3 0;
 let z10 := Prod.snd (BxF.runE F p l);
 let z11 := (Prod.fst (BxF.runE F p l), Prod.fst z10, Prod.snd z10, ());
 let z12 := BxF.pFirst F z2;
 let z13 := BxF.first F z2;
 let z14 := Prod.fst z13;
 let z15 := Prod.snd z13;
 let z16 := (Prod.fst z13, Prod.snd z13, 0, ());
 let z17 := Int × List Int × List (Int × Int) × List Int × Bool;
 let z18 := List Int × List z17 × Int × Unit;
 let z19 := Lv.toN L 0;
 let z20 := Lv.cmp L BinOp.neq z3 0; VC.obl (BxF.bw F z2) (VC.br (Lv.cmp L BinOp.eql z3 0) (VC.obl (St.mk 19 [(0, V.c (C.sl It l)), (1, V.c (C.fn 97 [])), (7, V.c (C.int IntKind.i64
   z5)), (8, V.c (C.int IntKind.i64 0))] [(0, Ob.amb), (1, Ob.box 25 [C.sl It z6, C.sl (Ty.sl In) z7, C.int IntKind.i64 z8]), (2, Ob.box 59 [C.nils, C.nils])] 3 = St.mk 19 [(0, V.c
   (C.sl It l)), (1, V.c (C.fn 97 [])), (7, V.c (C.int IntKind.i64 z5)), (8, V.c (C.int IntKind.i64 0))] [(0, Ob.amb), (1, Ob.box 25 [C.sl It z6, C.sl (Ty.sl In) z7, C.int
   IntKind.i64 z8]), (2, Ob.box 59 [C.nils, C.nils])] 3) (VC.obl (I (97, l, ()) (0, ())) (VC.all (Int × Unit) fun (v1 : Int × Unit) =>
 let z21 := Prod.fst v1;
 let z22 := Lv.ar L BinOp.add IntKind.i64 z21 1;
 let z23 := (Lv.ar L BinOp.add IntKind.i64 z21 1, ()); VC.imp (I (97, l, ()) v1) (VC.br (Lv.cmp L BinOp.lss z21 z5) (VC.obl (Lv.inR L z21 z4) (VC.br (Lv.cmp L BinOp.lss (Lv.get L It
   l (Lv.toN L z21)) 0) (VC.br (Lv.cmp L BinOp.geq z21 0) (VC.br z9 (VC.ok ((([], []), 0, 3, ()) = z11)) (VC.obl z12 (VC.obl (St.mk 63 [(1, V.c (C.sl It l)), (4, V.c (C.ptr 2 0)),
   (8, V.c (C.ptr 3 0)), (9, V.c (C.ptr 4 0)), (10, V.c (C.int IntKind.i64 0))] [(0, Ob.amb), (1, Ob.box 25 [C.sl It z6, C.sl (Ty.sl In) z7, C.int IntKind.i64 z8]), (2, Ob.box 59
   [C.nils, C.nils]), (3, Ob.box 103 [C.sl It z6, C.sl (Ty.sl In) z7, C.int IntKind.i64 z8, C.sym false]), (4, Ob.box 59 [C.sl It z14, C.sl Th z15])] 5 = St.mk 63 [(1, V.c (C.sl It
   l)), (4, V.c (C.ptr 2 0)), (8, V.c (C.ptr 3 0)), (9, V.c (C.ptr 4 0)), (10, V.c (C.int IntKind.i64 0))] [(0, Ob.amb), (1, Ob.box 25 [C.sl It z6, C.sl (Ty.sl In) z7, C.int
   IntKind.i64 z8]), (2, Ob.box 59 [C.nils, C.nils]), (3, Ob.box 103 [C.sl It z6, C.sl (Ty.sl In) z7, C.int IntKind.i64 z8, C.sym false]), (4, Ob.box 59 [C.sl It z14, C.sl Th z15])]
   5) (VC.obl (I0 z16) (VC.all z18 fun (v2 : List Int × List (Int × List Int × List (Int × Int) × List Int × Bool) × Int × Unit) =>
 let z24 := (Prod.fst v2, Prod.fst (Prod.snd v2));
 let z25 := (BxF.moves F (z2, false) z24);
 let z26 := Lv.llen L Mv z25;
 let z27 := Lv.cast L z26;
 let z28 := Prod.snd (Prod.snd v2);
 let z29 := Prod.fst z28;
 let z30 := Lv.dv L BinOp.rem IntKind.i64 (Lv.get L It l (Lv.toN L z29)) z27;
 let z31 := Lv.get L Mv z25 (Lv.toN L z30);
 let z32 := (Prod.fst z31, Prod.snd z31);
 let z33 := Lv.ar L BinOp.add IntKind.i64 z29 1;
 let z34 := (BxF.doo F (z2, false) z24 z32);
 let z35 := Prod.fst z34;
 let z36 := Prod.snd z34;
 let z37 := (Prod.fst z34, Prod.snd z34, Lv.ar L BinOp.add IntKind.i64 z29 1, ());
 let z38 := Lv.get L Mv z25 z19;
 let z39 := (Prod.fst z38, Prod.snd z38);
 let z40 := (BxF.doo F (z2, false) z24 z39);
 let z41 := Prod.fst z40;
 let z42 := Prod.snd z40;
 let z43 := (Prod.fst z40, Prod.snd z40, Lv.ar L BinOp.add IntKind.i64 z29 1, ()); VC.imp (I0 v2) (VC.obl (BxF.pE F z24 (z2, false)) (VC.br (Lv.cmp L BinOp.eql z27 0) (VC.obl
   (BxF.bs F z24) (VC.ok ((z24, Prod.fst z28, 0, ()) = z11))) (VC.br (Lv.cmp L BinOp.eql z29 3000) (VC.ok ((([], []), 0, 5, ()) = z11)) (VC.br (Lv.cmp L BinOp.lss z29 z5) (VC.obl
   (Lv.inR L z29 z4) (VC.obl (Lv.ne0 L z27) (VC.obl (Lv.inR L z30 z26) (VC.obl (BxF.pDo F (z2, false) z24 z32) (VC.ok (St.mk 63 [(1, V.c (C.sl It l)), (4, V.c (C.ptr 2 0)), (8, V.c
   (C.ptr 3 0)), (9, V.c (C.ptr 4 0)), (10, V.c (C.int IntKind.i64 z33))] [(0, Ob.amb), (1, Ob.box 25 [C.sl It z6, C.sl (Ty.sl In) z7, C.int IntKind.i64 z8]), (2, Ob.box 59 [C.nils,
   C.nils]), (3, Ob.box 103 [C.sl It z6, C.sl (Ty.sl In) z7, C.int IntKind.i64 z8, C.sym false]), (4, Ob.box 59 [C.sl It z35, C.sl Th z36])] 5 = St.mk 63 [(1, V.c (C.sl It l)), (4,
   V.c (C.ptr 2 0)), (8, V.c (C.ptr 3 0)), (9, V.c (C.ptr 4 0)), (10, V.c (C.int IntKind.i64 z33))] [(0, Ob.amb), (1, Ob.box 25 [C.sl It z6, C.sl (Ty.sl In) z7, C.int IntKind.i64
   z8]), (2, Ob.box 59 [C.nils, C.nils]), (3, Ob.box 103 [C.sl It z6, C.sl (Ty.sl In) z7, C.int IntKind.i64 z8, C.sym false]), (4, Ob.box 59 [C.sl It z35, C.sl Th z36])] 5 ∧ I0 z37
   ∧ mu0 z37 < mu0 v2)))))) (VC.obl (Lv.inR L 0 z26) (VC.obl (BxF.pDo F (z2, false) z24 z39) (VC.ok (St.mk 63 [(1, V.c (C.sl It l)), (4, V.c (C.ptr 2 0)), (8, V.c (C.ptr 3 0)), (9,
   V.c (C.ptr 4 0)), (10, V.c (C.int IntKind.i64 z33))] [(0, Ob.amb), (1, Ob.box 25 [C.sl It z6, C.sl (Ty.sl In) z7, C.int IntKind.i64 z8]), (2, Ob.box 59 [C.nils, C.nils]), (3,
   Ob.box 103 [C.sl It z6, C.sl (Ty.sl In) z7, C.int IntKind.i64 z8, C.sym false]), (4, Ob.box 59 [C.sl It z41, C.sl Th z42])] 5 = St.mk 63 [(1, V.c (C.sl It l)), (4, V.c (C.ptr 2
   0)), (8, V.c (C.ptr 3 0)), (9, V.c (C.ptr 4 0)), (10, V.c (C.int IntKind.i64 z33))] [(0, Ob.amb), (1, Ob.box 25 [C.sl It z6, C.sl (Ty.sl In) z7, C.int IntKind.i64 z8]), (2,
   Ob.box 59 [C.nils, C.nils]), (3, Ob.box 103 [C.sl It z6, C.sl (Ty.sl In) z7, C.int IntKind.i64 z8, C.sym false]), (4, Ob.box 59 [C.sl It z41, C.sl Th z42])] 5 ∧ I0 z43 ∧ mu0 z43
   < mu0 v2))))))))))))) (VC.br z20 (VC.ok ((([], []), 0, BxF.check F z2, ()) = z11)) (VC.obl z12 (VC.obl (St.mk 63 [(1, V.c (C.sl It l)), (4, V.c (C.ptr 2 0)), (8, V.c (C.ptr 3
   0)), (9, V.c (C.ptr 4 0)), (10, V.c (C.int IntKind.i64 0))] [(0, Ob.amb), (1, Ob.box 25 [C.sl It z6, C.sl (Ty.sl In) z7, C.int IntKind.i64 z8]), (2, Ob.box 59 [C.nils, C.nils]),
   (3, Ob.box 103 [C.sl It z6, C.sl (Ty.sl In) z7, C.int IntKind.i64 z8, C.sym false]), (4, Ob.box 59 [C.sl It z14, C.sl Th z15])] 5 = St.mk 63 [(1, V.c (C.sl It l)), (4, V.c (C.ptr
   2 0)), (8, V.c (C.ptr 3 0)), (9, V.c (C.ptr 4 0)), (10, V.c (C.int IntKind.i64 0))] [(0, Ob.amb), (1, Ob.box 25 [C.sl It z6, C.sl (Ty.sl In) z7, C.int IntKind.i64 z8]), (2,
   Ob.box 59 [C.nils, C.nils]), (3, Ob.box 103 [C.sl It z6, C.sl (Ty.sl In) z7, C.int IntKind.i64 z8, C.sym false]), (4, Ob.box 59 [C.sl It z14, C.sl Th z15])] 5) (VC.obl (I0 z16)
   (VC.all z18 fun (v3 : List Int × List (Int × List Int × List (Int × Int) × List Int × Bool) × Int × Unit) =>
 let z44 := (Prod.fst v3, Prod.fst (Prod.snd v3));
 let z45 := (BxF.moves F (z2, false) z44);
 let z46 := Lv.llen L Mv z45;
 let z47 := Lv.cast L z46;
 let z48 := Prod.snd (Prod.snd v3);
 let z49 := Prod.fst z48;
 let z50 := Lv.dv L BinOp.rem IntKind.i64 (Lv.get L It l (Lv.toN L z49)) z47;
 let z51 := Lv.get L Mv z45 (Lv.toN L z50);
 let z52 := (Prod.fst z51, Prod.snd z51);
 let z53 := Lv.ar L BinOp.add IntKind.i64 z49 1;
 let z54 := (BxF.doo F (z2, false) z44 z52);
 let z55 := Prod.fst z54;
 let z56 := Prod.snd z54;
 let z57 := (Prod.fst z54, Prod.snd z54, Lv.ar L BinOp.add IntKind.i64 z49 1, ());
 let z58 := Lv.get L Mv z45 z19;
 let z59 := (Prod.fst z58, Prod.snd z58);
 let z60 := (BxF.doo F (z2, false) z44 z59);
 let z61 := Prod.fst z60;
 let z62 := Prod.snd z60;
 let z63 := (Prod.fst z60, Prod.snd z60, Lv.ar L BinOp.add IntKind.i64 z49 1, ()); VC.imp (I0 v3) (VC.obl (BxF.pE F z44 (z2, false)) (VC.br (Lv.cmp L BinOp.eql z47 0) (VC.obl
   (BxF.bs F z44) (VC.ok ((z44, Prod.fst z48, 0, ()) = z11))) (VC.br (Lv.cmp L BinOp.eql z49 3000) (VC.ok ((([], []), 0, 5, ()) = z11)) (VC.br (Lv.cmp L BinOp.lss z49 z5) (VC.obl
   (Lv.inR L z49 z4) (VC.obl (Lv.ne0 L z47) (VC.obl (Lv.inR L z50 z46) (VC.obl (BxF.pDo F (z2, false) z44 z52) (VC.ok (St.mk 63 [(1, V.c (C.sl It l)), (4, V.c (C.ptr 2 0)), (8, V.c
   (C.ptr 3 0)), (9, V.c (C.ptr 4 0)), (10, V.c (C.int IntKind.i64 z53))] [(0, Ob.amb), (1, Ob.box 25 [C.sl It z6, C.sl (Ty.sl In) z7, C.int IntKind.i64 z8]), (2, Ob.box 59 [C.nils,
   C.nils]), (3, Ob.box 103 [C.sl It z6, C.sl (Ty.sl In) z7, C.int IntKind.i64 z8, C.sym false]), (4, Ob.box 59 [C.sl It z55, C.sl Th z56])] 5 = St.mk 63 [(1, V.c (C.sl It l)), (4,
   V.c (C.ptr 2 0)), (8, V.c (C.ptr 3 0)), (9, V.c (C.ptr 4 0)), (10, V.c (C.int IntKind.i64 z53))] [(0, Ob.amb), (1, Ob.box 25 [C.sl It z6, C.sl (Ty.sl In) z7, C.int IntKind.i64
   z8]), (2, Ob.box 59 [C.nils, C.nils]), (3, Ob.box 103 [C.sl It z6, C.sl (Ty.sl In) z7, C.int IntKind.i64 z8, C.sym false]), (4, Ob.box 59 [C.sl It z55, C.sl Th z56])] 5 ∧ I0 z57
   ∧ mu0 z57 < mu0 v3)))))) (VC.obl (Lv.inR L 0 z46) (VC.obl (BxF.pDo F (z2, false) z44 z59) (VC.ok (St.mk 63 [(1, V.c (C.sl It l)), (4, V.c (C.ptr 2 0)), (8, V.c (C.ptr 3 0)), (9,
   V.c (C.ptr 4 0)), (10, V.c (C.int IntKind.i64 z53))] [(0, Ob.amb), (1, Ob.box 25 [C.sl It z6, C.sl (Ty.sl In) z7, C.int IntKind.i64 z8]), (2, Ob.box 59 [C.nils, C.nils]), (3,
   Ob.box 103 [C.sl It z6, C.sl (Ty.sl In) z7, C.int IntKind.i64 z8, C.sym false]), (4, Ob.box 59 [C.sl It z61, C.sl Th z62])] 5 = St.mk 63 [(1, V.c (C.sl It l)), (4, V.c (C.ptr 2
   0)), (8, V.c (C.ptr 3 0)), (9, V.c (C.ptr 4 0)), (10, V.c (C.int IntKind.i64 z53))] [(0, Ob.amb), (1, Ob.box 25 [C.sl It z6, C.sl (Ty.sl In) z7, C.int IntKind.i64 z8]), (2,
   Ob.box 59 [C.nils, C.nils]), (3, Ob.box 103 [C.sl It z6, C.sl (Ty.sl In) z7, C.int IntKind.i64 z8, C.sym false]), (4, Ob.box 59 [C.sl It z61, C.sl Th z62])] 5 ∧ I0 z63 ∧ mu0 z63
   < mu0 v3)))))))))))))) (VC.ok (St.mk 19 [(0, V.c (C.sl It l)), (1, V.c (C.fn 97 [])), (7, V.c (C.int IntKind.i64 z5)), (8, V.c (C.int IntKind.i64 z22))] [(0, Ob.amb), (1, Ob.box
   25 [C.sl It z6, C.sl (Ty.sl In) z7, C.int IntKind.i64 z8]), (2, Ob.box 59 [C.nils, C.nils])] 3 = St.mk 19 [(0, V.c (C.sl It l)), (1, V.c (C.fn 97 [])), (7, V.c (C.int IntKind.i64
   z5)), (8, V.c (C.int IntKind.i64 z22))] [(0, Ob.amb), (1, Ob.box 25 [C.sl It z6, C.sl (Ty.sl In) z7, C.int IntKind.i64 z8]), (2, Ob.box 59 [C.nils, C.nils])] 3 ∧ I (97, l, ())
   z23 ∧ mu (97, l, ()) z23 < mu (97, l, ()) v1)))) (VC.br (Lv.cmp L BinOp.geq (Int.negSucc 0) 0) (VC.br z9 (VC.ok ((([], []), 0, 3, ()) = z11)) (VC.obl z12 (VC.obl (St.mk 63 [(1,
   V.c (C.sl It l)), (4, V.c (C.ptr 2 0)), (8, V.c (C.ptr 3 0)), (9, V.c (C.ptr 4 0)), (10, V.c (C.int IntKind.i64 0))] [(0, Ob.amb), (1, Ob.box 25 [C.sl It z6, C.sl (Ty.sl In) z7,
   C.int IntKind.i64 z8]), (2, Ob.box 59 [C.nils, C.nils]), (3, Ob.box 103 [C.sl It z6, C.sl (Ty.sl In) z7, C.int IntKind.i64 z8, C.sym false]), (4, Ob.box 59 [C.sl It z14, C.sl Th
   z15])] 5 = St.mk 63 [(1, V.c (C.sl It l)), (4, V.c (C.ptr 2 0)), (8, V.c (C.ptr 3 0)), (9, V.c (C.ptr 4 0)), (10, V.c (C.int IntKind.i64 0))] [(0, Ob.amb), (1, Ob.box 25 [C.sl It
   z6, C.sl (Ty.sl In) z7, C.int IntKind.i64 z8]), (2, Ob.box 59 [C.nils, C.nils]), (3, Ob.box 103 [C.sl It z6, C.sl (Ty.sl In) z7, C.int IntKind.i64 z8, C.sym false]), (4, Ob.box
   59 [C.sl It z14, C.sl Th z15])] 5) (VC.obl (I0 z16) (VC.all z18 fun (v4 : List Int × List (Int × List Int × List (Int × Int) × List Int × Bool) × Int × Unit) =>
 let z64 := (Prod.fst v4, Prod.fst (Prod.snd v4));
 let z65 := (BxF.moves F (z2, false) z64);
 let z66 := Lv.llen L Mv z65;
 let z67 := Lv.cast L z66;
 let z68 := Prod.snd (Prod.snd v4);
 let z69 := Prod.fst z68;
 let z70 := Lv.dv L BinOp.rem IntKind.i64 (Lv.get L It l (Lv.toN L z69)) z67;
 let z71 := Lv.get L Mv z65 (Lv.toN L z70);
 let z72 := (Prod.fst z71, Prod.snd z71);
 let z73 := Lv.ar L BinOp.add IntKind.i64 z69 1;
 let z74 := (BxF.doo F (z2, false) z64 z72);
 let z75 := Prod.fst z74;
 let z76 := Prod.snd z74;
 let z77 := (Prod.fst z74, Prod.snd z74, Lv.ar L BinOp.add IntKind.i64 z69 1, ());
 let z78 := Lv.get L Mv z65 z19;
 let z79 := (Prod.fst z78, Prod.snd z78);
 let z80 := (BxF.doo F (z2, false) z64 z79);
 let z81 := Prod.fst z80;
 let z82 := Prod.snd z80;
 let z83 := (Prod.fst z80, Prod.snd z80, Lv.ar L BinOp.add IntKind.i64 z69 1, ()); VC.imp (I0 v4) (VC.obl (BxF.pE F z64 (z2, false)) (VC.br (Lv.cmp L BinOp.eql z67 0) (VC.obl
   (BxF.bs F z64) (VC.ok ((z64, Prod.fst z68, 0, ()) = z11))) (VC.br (Lv.cmp L BinOp.eql z69 3000) (VC.ok ((([], []), 0, 5, ()) = z11)) (VC.br (Lv.cmp L BinOp.lss z69 z5) (VC.obl
   (Lv.inR L z69 z4) (VC.obl (Lv.ne0 L z67) (VC.obl (Lv.inR L z70 z66) (VC.obl (BxF.pDo F (z2, false) z64 z72) (VC.ok (St.mk 63 [(1, V.c (C.sl It l)), (4, V.c (C.ptr 2 0)), (8, V.c
   (C.ptr 3 0)), (9, V.c (C.ptr 4 0)), (10, V.c (C.int IntKind.i64 z73))] [(0, Ob.amb), (1, Ob.box 25 [C.sl It z6, C.sl (Ty.sl In) z7, C.int IntKind.i64 z8]), (2, Ob.box 59 [C.nils,
   C.nils]), (3, Ob.box 103 [C.sl It z6, C.sl (Ty.sl In) z7, C.int IntKind.i64 z8, C.sym false]), (4, Ob.box 59 [C.sl It z75, C.sl Th z76])] 5 = St.mk 63 [(1, V.c (C.sl It l)), (4,
   V.c (C.ptr 2 0)), (8, V.c (C.ptr 3 0)), (9, V.c (C.ptr 4 0)), (10, V.c (C.int IntKind.i64 z73))] [(0, Ob.amb), (1, Ob.box 25 [C.sl It z6, C.sl (Ty.sl In) z7, C.int IntKind.i64
   z8]), (2, Ob.box 59 [C.nils, C.nils]), (3, Ob.box 103 [C.sl It z6, C.sl (Ty.sl In) z7, C.int IntKind.i64 z8, C.sym false]), (4, Ob.box 59 [C.sl It z75, C.sl Th z76])] 5 ∧ I0 z77
   ∧ mu0 z77 < mu0 v4)))))) (VC.obl (Lv.inR L 0 z66) (VC.obl (BxF.pDo F (z2, false) z64 z79) (VC.ok (St.mk 63 [(1, V.c (C.sl It l)), (4, V.c (C.ptr 2 0)), (8, V.c (C.ptr 3 0)), (9,
   V.c (C.ptr 4 0)), (10, V.c (C.int IntKind.i64 z73))] [(0, Ob.amb), (1, Ob.box 25 [C.sl It z6, C.sl (Ty.sl In) z7, C.int IntKind.i64 z8]), (2, Ob.box 59 [C.nils, C.nils]), (3,
   Ob.box 103 [C.sl It z6, C.sl (Ty.sl In) z7, C.int IntKind.i64 z8, C.sym false]), (4, Ob.box 59 [C.sl It z81, C.sl Th z82])] 5 = St.mk 63 [(1, V.c (C.sl It l)), (4, V.c (C.ptr 2
   0)), (8, V.c (C.ptr 3 0)), (9, V.c (C.ptr 4 0)), (10, V.c (C.int IntKind.i64 z73))] [(0, Ob.amb), (1, Ob.box 25 [C.sl It z6, C.sl (Ty.sl In) z7, C.int IntKind.i64 z8]), (2,
   Ob.box 59 [C.nils, C.nils]), (3, Ob.box 103 [C.sl It z6, C.sl (Ty.sl In) z7, C.int IntKind.i64 z8, C.sym false]), (4, Ob.box 59 [C.sl It z81, C.sl Th z82])] 5 ∧ I0 z83 ∧ mu0 z83
   < mu0 v4))))))))))))) (VC.br z20 (VC.ok ((([], []), 0, BxF.check F z2, ()) = z11)) (VC.obl z12 (VC.obl (St.mk 63 [(1, V.c (C.sl It l)), (4, V.c (C.ptr 2 0)), (8, V.c (C.ptr 3
   0)), (9, V.c (C.ptr 4 0)), (10, V.c (C.int IntKind.i64 0))] [(0, Ob.amb), (1, Ob.box 25 [C.sl It z6, C.sl (Ty.sl In) z7, C.int IntKind.i64 z8]), (2, Ob.box 59 [C.nils, C.nils]),
   (3, Ob.box 103 [C.sl It z6, C.sl (Ty.sl In) z7, C.int IntKind.i64 z8, C.sym false]), (4, Ob.box 59 [C.sl It z14, C.sl Th z15])] 5 = St.mk 63 [(1, V.c (C.sl It l)), (4, V.c (C.ptr
   2 0)), (8, V.c (C.ptr 3 0)), (9, V.c (C.ptr 4 0)), (10, V.c (C.int IntKind.i64 0))] [(0, Ob.amb), (1, Ob.box 25 [C.sl It z6, C.sl (Ty.sl In) z7, C.int IntKind.i64 z8]), (2,
   Ob.box 59 [C.nils, C.nils]), (3, Ob.box 103 [C.sl It z6, C.sl (Ty.sl In) z7, C.int IntKind.i64 z8, C.sym false]), (4, Ob.box 59 [C.sl It z14, C.sl Th z15])] 5) (VC.obl (I0 z16)
   (VC.all z18 fun (v5 : List Int × List (Int × List Int × List (Int × Int) × List Int × Bool) × Int × Unit) =>
 let z84 := (Prod.fst v5, Prod.fst (Prod.snd v5));
 let z85 := (BxF.moves F (z2, false) z84);
 let z86 := Lv.llen L Mv z85;
 let z87 := Lv.cast L z86;
 let z88 := Prod.snd (Prod.snd v5);
 let z89 := Prod.fst z88;
 let z90 := Lv.dv L BinOp.rem IntKind.i64 (Lv.get L It l (Lv.toN L z89)) z87;
 let z91 := Lv.get L Mv z85 (Lv.toN L z90);
 let z92 := (Prod.fst z91, Prod.snd z91);
 let z93 := Lv.ar L BinOp.add IntKind.i64 z89 1;
 let z94 := (BxF.doo F (z2, false) z84 z92);
 let z95 := Prod.fst z94;
 let z96 := Prod.snd z94;
 let z97 := (Prod.fst z94, Prod.snd z94, Lv.ar L BinOp.add IntKind.i64 z89 1, ());
 let z98 := Lv.get L Mv z85 z19;
 let z99 := (Prod.fst z98, Prod.snd z98);
 let z100 := (BxF.doo F (z2, false) z84 z99);
 let z101 := Prod.fst z100;
 let z102 := Prod.snd z100;
 let z103 := (Prod.fst z100, Prod.snd z100, Lv.ar L BinOp.add IntKind.i64 z89 1, ()); VC.imp (I0 v5) (VC.obl (BxF.pE F z84 (z2, false)) (VC.br (Lv.cmp L BinOp.eql z87 0) (VC.obl
   (BxF.bs F z84) (VC.ok ((z84, Prod.fst z88, 0, ()) = z11))) (VC.br (Lv.cmp L BinOp.eql z89 3000) (VC.ok ((([], []), 0, 5, ()) = z11)) (VC.br (Lv.cmp L BinOp.lss z89 z5) (VC.obl
   (Lv.inR L z89 z4) (VC.obl (Lv.ne0 L z87) (VC.obl (Lv.inR L z90 z86) (VC.obl (BxF.pDo F (z2, false) z84 z92) (VC.ok (St.mk 63 [(1, V.c (C.sl It l)), (4, V.c (C.ptr 2 0)), (8, V.c
   (C.ptr 3 0)), (9, V.c (C.ptr 4 0)), (10, V.c (C.int IntKind.i64 z93))] [(0, Ob.amb), (1, Ob.box 25 [C.sl It z6, C.sl (Ty.sl In) z7, C.int IntKind.i64 z8]), (2, Ob.box 59 [C.nils,
   C.nils]), (3, Ob.box 103 [C.sl It z6, C.sl (Ty.sl In) z7, C.int IntKind.i64 z8, C.sym false]), (4, Ob.box 59 [C.sl It z95, C.sl Th z96])] 5 = St.mk 63 [(1, V.c (C.sl It l)), (4,
   V.c (C.ptr 2 0)), (8, V.c (C.ptr 3 0)), (9, V.c (C.ptr 4 0)), (10, V.c (C.int IntKind.i64 z93))] [(0, Ob.amb), (1, Ob.box 25 [C.sl It z6, C.sl (Ty.sl In) z7, C.int IntKind.i64
   z8]), (2, Ob.box 59 [C.nils, C.nils]), (3, Ob.box 103 [C.sl It z6, C.sl (Ty.sl In) z7, C.int IntKind.i64 z8, C.sym false]), (4, Ob.box 59 [C.sl It z95, C.sl Th z96])] 5 ∧ I0 z97
   ∧ mu0 z97 < mu0 v5)))))) (VC.obl (Lv.inR L 0 z86) (VC.obl (BxF.pDo F (z2, false) z84 z99) (VC.ok (St.mk 63 [(1, V.c (C.sl It l)), (4, V.c (C.ptr 2 0)), (8, V.c (C.ptr 3 0)), (9,
   V.c (C.ptr 4 0)), (10, V.c (C.int IntKind.i64 z93))] [(0, Ob.amb), (1, Ob.box 25 [C.sl It z6, C.sl (Ty.sl In) z7, C.int IntKind.i64 z8]), (2, Ob.box 59 [C.nils, C.nils]), (3,
   Ob.box 103 [C.sl It z6, C.sl (Ty.sl In) z7, C.int IntKind.i64 z8, C.sym false]), (4, Ob.box 59 [C.sl It z101, C.sl Th z102])] 5 = St.mk 63 [(1, V.c (C.sl It l)), (4, V.c (C.ptr 2
   0)), (8, V.c (C.ptr 3 0)), (9, V.c (C.ptr 4 0)), (10, V.c (C.int IntKind.i64 z93))] [(0, Ob.amb), (1, Ob.box 25 [C.sl It z6, C.sl (Ty.sl In) z7, C.int IntKind.i64 z8]), (2,
   Ob.box 59 [C.nils, C.nils]), (3, Ob.box 103 [C.sl It z6, C.sl (Ty.sl In) z7, C.int IntKind.i64 z8, C.sym false]), (4, Ob.box 59 [C.sl It z101, C.sl Th z102])] 5 ∧ I0 z103 ∧ mu0
   z103 < mu0 v5)))))))))))))))))) (VC.br z20 (VC.ok ((([], []), 0, BxF.check F z2, ()) = z11)) (VC.obl z12 (VC.obl (St.mk 63 [(1, V.c (C.sl It l)), (4, V.c (C.ptr 2 0)), (8, V.c
   (C.ptr 3 0)), (9, V.c (C.ptr 4 0)), (10, V.c (C.int IntKind.i64 0))] [(0, Ob.amb), (1, Ob.box 25 [C.sl It z6, C.sl (Ty.sl In) z7, C.int IntKind.i64 z8]), (2, Ob.box 59 [C.nils,
   C.nils]), (3, Ob.box 103 [C.sl It z6, C.sl (Ty.sl In) z7, C.int IntKind.i64 z8, C.sym false]), (4, Ob.box 59 [C.sl It z14, C.sl Th z15])] 5 = St.mk 63 [(1, V.c (C.sl It l)), (4,
   V.c (C.ptr 2 0)), (8, V.c (C.ptr 3 0)), (9, V.c (C.ptr 4 0)), (10, V.c (C.int IntKind.i64 0))] [(0, Ob.amb), (1, Ob.box 25 [C.sl It z6, C.sl (Ty.sl In) z7, C.int IntKind.i64
   z8]), (2, Ob.box 59 [C.nils, C.nils]), (3, Ob.box 103 [C.sl It z6, C.sl (Ty.sl In) z7, C.int IntKind.i64 z8, C.sym false]), (4, Ob.box 59 [C.sl It z14, C.sl Th z15])] 5) (VC.obl
   (I0 z16) (VC.all z18 fun (v6 : List Int × List (Int × List Int × List (Int × Int) × List Int × Bool) × Int × Unit) =>
 let z104 := (Prod.fst v6, Prod.fst (Prod.snd v6));
 let z105 := (BxF.moves F (z2, false) z104);
 let z106 := Lv.llen L Mv z105;
 let z107 := Lv.cast L z106;
 let z108 := Prod.snd (Prod.snd v6);
 let z109 := Prod.fst z108;
 let z110 := Lv.dv L BinOp.rem IntKind.i64 (Lv.get L It l (Lv.toN L z109)) z107;
 let z111 := Lv.get L Mv z105 (Lv.toN L z110);
 let z112 := (Prod.fst z111, Prod.snd z111);
 let z113 := Lv.ar L BinOp.add IntKind.i64 z109 1;
 let z114 := (BxF.doo F (z2, false) z104 z112);
 let z115 := Prod.fst z114;
 let z116 := Prod.snd z114;
 let z117 := (Prod.fst z114, Prod.snd z114, Lv.ar L BinOp.add IntKind.i64 z109 1, ());
 let z118 := Lv.get L Mv z105 z19;
 let z119 := (Prod.fst z118, Prod.snd z118);
 let z120 := (BxF.doo F (z2, false) z104 z119);
 let z121 := Prod.fst z120;
 let z122 := Prod.snd z120;
 let z123 := (Prod.fst z120, Prod.snd z120, Lv.ar L BinOp.add IntKind.i64 z109 1, ()); VC.imp (I0 v6) (VC.obl (BxF.pE F z104 (z2, false)) (VC.br (Lv.cmp L BinOp.eql z107 0) (VC.obl
   (BxF.bs F z104) (VC.ok ((z104, Prod.fst z108, 0, ()) = z11))) (VC.br (Lv.cmp L BinOp.eql z109 3000) (VC.ok ((([], []), 0, 5, ()) = z11)) (VC.br (Lv.cmp L BinOp.lss z109 z5)
   (VC.obl (Lv.inR L z109 z4) (VC.obl (Lv.ne0 L z107) (VC.obl (Lv.inR L z110 z106) (VC.obl (BxF.pDo F (z2, false) z104 z112) (VC.ok (St.mk 63 [(1, V.c (C.sl It l)), (4, V.c (C.ptr 2
   0)), (8, V.c (C.ptr 3 0)), (9, V.c (C.ptr 4 0)), (10, V.c (C.int IntKind.i64 z113))] [(0, Ob.amb), (1, Ob.box 25 [C.sl It z6, C.sl (Ty.sl In) z7, C.int IntKind.i64 z8]), (2,
   Ob.box 59 [C.nils, C.nils]), (3, Ob.box 103 [C.sl It z6, C.sl (Ty.sl In) z7, C.int IntKind.i64 z8, C.sym false]), (4, Ob.box 59 [C.sl It z115, C.sl Th z116])] 5 = St.mk 63 [(1,
   V.c (C.sl It l)), (4, V.c (C.ptr 2 0)), (8, V.c (C.ptr 3 0)), (9, V.c (C.ptr 4 0)), (10, V.c (C.int IntKind.i64 z113))] [(0, Ob.amb), (1, Ob.box 25 [C.sl It z6, C.sl (Ty.sl In)
   z7, C.int IntKind.i64 z8]), (2, Ob.box 59 [C.nils, C.nils]), (3, Ob.box 103 [C.sl It z6, C.sl (Ty.sl In) z7, C.int IntKind.i64 z8, C.sym false]), (4, Ob.box 59 [C.sl It z115,
   C.sl Th z116])] 5 ∧ I0 z117 ∧ mu0 z117 < mu0 v6)))))) (VC.obl (Lv.inR L 0 z106) (VC.obl (BxF.pDo F (z2, false) z104 z119) (VC.ok (St.mk 63 [(1, V.c (C.sl It l)), (4, V.c (C.ptr 2
   0)), (8, V.c (C.ptr 3 0)), (9, V.c (C.ptr 4 0)), (10, V.c (C.int IntKind.i64 z113))] [(0, Ob.amb), (1, Ob.box 25 [C.sl It z6, C.sl (Ty.sl In) z7, C.int IntKind.i64 z8]), (2,
   Ob.box 59 [C.nils, C.nils]), (3, Ob.box 103 [C.sl It z6, C.sl (Ty.sl In) z7, C.int IntKind.i64 z8, C.sym false]), (4, Ob.box 59 [C.sl It z121, C.sl Th z122])] 5 = St.mk 63 [(1,
   V.c (C.sl It l)), (4, V.c (C.ptr 2 0)), (8, V.c (C.ptr 3 0)), (9, V.c (C.ptr 4 0)), (10, V.c (C.int IntKind.i64 z113))] [(0, Ob.amb), (1, Ob.box 25 [C.sl It z6, C.sl (Ty.sl In)
   z7, C.int IntKind.i64 z8]), (2, Ob.box 59 [C.nils, C.nils]), (3, Ob.box 103 [C.sl It z6, C.sl (Ty.sl In) z7, C.int IntKind.i64 z8, C.sym false]), (4, Ob.box 59 [C.sl It z121,
   C.sl Th z122])] 5 ∧ I0 z123 ∧ mu0 z123 < mu0 v6))))))))))))))
theorem n51_eq (L : Lv) (F : BxF) (I0 : Ds [.sl It, .sl Th, It] → Prop) (mu0 : Ds [.sl It, .sl Th, It] → Nat) (I : Int × List Int × Unit → Ds [It] → Prop) (mu : Int × List Int × Unit → Ds [It] → Nat) (p : WkD) (l : List Int) : vcO L F (o51 L I mu) [38, 79, 90, 96, 97, 98, 99, 125] 5 (D51 (a51 L I0 mu0)) (S51 F) (p, l, ()) = n51 L F I0 mu0 I mu p l := by kernel_rfl
theorem n51_go (L : Lv) (F : BxF) (I0 : Ds [.sl It, .sl Th, It] → Prop) (mu0 : Ds [.sl It, .sl Th, It] → Nat) (I : Int × List Int × Unit → Ds [It] → Prop) (mu : Int × List Int × Unit → Ds [It] → Nat) (p : WkD) (l : List Int) (h : VC.holds (n51 L F I0 mu0 I mu p l)) : Holds (vcO L F (o51 L I mu) [38, 79, 90, 96, 97, 98, 99, 125] 5 (D51 (a51 L I0 mu0)) (S51 F) (p, l, ())) := Holds.of_eq (n51_eq L F I0 mu0 I mu p l) h
def negF (n : Int) : Bool := decide (n < 0)
def runF (p : WkD) (l : List Int) : StD × Int × Int := if checkF p ≠ 0 then (([], []), 0, checkF p) else if l.any negF = true then (([], []), 0, 3) else runN (p, false) l 3000 (firstF p)
theorem ok51 (F : BxF) (h : F.runE = runF) (h1 : F.check = checkF) (h2 : F.first = firstF) (h3 : F.moves = movesF) (h4 : F.doo = doF) (hp : F.pRunR = fun p l => bW p ∧ l.length ≤ 1000000) (q : F.pE = pEF) (q1 : F.pDo = pDoF) (q2 : F.bw = bW) (q3 : F.bs = bS) (q4 : F.pFirst = fun p => p.1.length ≤ 1000000 ∧ p.2.1.length ≤ 1000000)
    (k1 : SpecOk prog 38 (S22 F)) (k2 : SpecOk prog 79 (S79 F)) (k3 : SpecOk prog 90 (S90 F)) (k4 : SpecOk prog 98 (S43 F)) (k5 : SpecOk prog 99 (S99 F)) : SpecOk prog 51 (S51 F) := by
  refine contract_by hm hE D51 fnok51 _ fun (z : WkD × List Int × Unit) hpre => ?_
  obtain ⟨p, l, ⟨⟩⟩ := z
  have hpre' : F.pRunR p l := hpre
  rw [hp] at hpre'
  obtain ⟨g1, g2⟩ := hpre'
  let I : Int × List Int × Unit → Int × Unit → Prop := fun e => Iv l.length fun k => (l.drop k).any negF = l.any negF
  let mu : Int × List Int × Unit → Int × Unit → Nat := fun e => Mu l.length
  let I0 : List Int × List ThD × Int × Unit → Prop := fun x => (0 ≤ x.2.2.1 ∧ x.2.2.1 ≤ 3000) ∧ OkS p (x.1, x.2.1) ∧ runN (p, false) l (3000 - x.2.2.1.toNat) (x.1, x.2.1) = runN (p, false) l 3000 (firstF p)
  let mu0 : List Int × List ThD × Int × Unit → Nat := fun x => (3000 - x.2.2.1).toNat
  refine pack _ 5 (a51 Lv.std I0 mu0) (only_tab (T := tabO (o51 Lv.std I mu) (cT F)) (l := [38, 79, 90, 96, 97, 98, 99, 125]) (tb_cons (tb_sp k1 (by kernel_rfl)) (tb_cons (tb_sp k2 (by kernel_rfl)) (tb_cons (tb_sp k3 (by kernel_rfl)) (tb_cons (tb_d (fnok96 a0) (by kernel_rfl)) (tb_cons (tb_d (fnok97 a0) (by kernel_rfl)) (tb_cons (tb_sp k4 (by kernel_rfl)) (tb_cons (tb_sp k5 (by kernel_rfl)) (tb_cons (tb_d (fnok125 (aIw Lv.std I mu)) (by kernel_rfl)) tb_nil))))))))) ?_
  refine n51_go Lv.std F I0 mu0 I mu p l ?_
  have e1 : ∀ (l : List Int) (k : Int), Lv.std.get It l k.toNat = (l[k.toNat]?).getD 0 := fun _ _ => rfl
  have e2 : ∀ (l : List MvD) (k : Int), Lv.std.get Mv l k.toNat = (l[k.toNat]?).getD (0, false) := fun _ _ => rfl
  have neg1 : (Int.negSucc 0 : Int) = -1 := rfl
  simp only [n51, VC.holds, std_cmp, std_cast, std_llen, std_toN, e1, e2, std_inR, std_ne0, std_ar_add, neg1, cmp_lss_t, cmp_lss_f, cmp_geq_t, cmp_geq_f, cmp_neq_t, cmp_neq_f, cmp_eql_t, cmp_eql_f, h, h1, h2, h3, h4, q, q1, q2, q3, q4, pe5, Prod.mk.injEq, and_true, true_and]
  have hrem : ∀ (b : Int) (c : Nat), 0 ≤ b → c ≠ 0 → 0 ≤ remF b c ∧ remF b c < c := fun b c hb hc => by
    have e : remF b c = b.tmod c := rfl
    rw [e]
    exact ⟨Int.tmod_nonneg _ hb, Int.tmod_lt_of_pos _ (Int.natCast_pos.2 (Nat.pos_of_ne_zero hc))⟩
  have er : ∀ (b c : Int), Lv.std.dv .rem .i64 b c = remF b c := fun _ _ => rfl
  simp only [er]
  have pk : ∀ (s : StD) (n : Nat) (x : Int), x = (if n < l.length then remF ((l[n]?).getD 0) (movesF (p, false) s).length else 0) → ((movesF (p, false) s)[x.toNat]?).getD (0, false) = pickF (p, false) s l n := fun s n x hx => by rw [hx]; rfl
  refine ⟨g1, fun c0 => ⟨Iv.zero (by simp), fun x hx => ?_⟩, fun c0 => ⟨fun _ => ?_, fun c1 => absurd c1 c0⟩⟩
  · obtain ⟨k, rfl, hk, i3⟩ := Iv.elim hx
    simp only [Int.toNat_natCast] at i3 ⊢
    refine ⟨fun hlt => ⟨⟨by omega, hlt⟩, fun hn => ⟨fun _ => ⟨fun _ => ?_, fun hc => by cases hc⟩, fun hc => by omega⟩, fun hn => ?_⟩, fun hge => ⟨fun hc => by omega, fun _ => ⟨fun hc => absurd c0 hc, fun _ => ?_⟩⟩⟩
    · rw [any_drop negF _ k 0 (by omega), show negF ((l[k]?).getD 0) = true from decide_eq_true hn, Bool.true_or] at i3
      rw [runF, if_neg (by simpa using c0), if_pos i3.symm]; exact ⟨rfl, rfl, rfl⟩
    · rw [wr hlt g2]
      rw [any_drop negF _ k 0 (by omega), show negF ((l[k]?).getD 0) = false from decide_eq_false (by omega), Bool.false_or] at i3
      exact ⟨Iv.mk (by omega) i3, Mu.lt (by omega)⟩
    · rw [show k = l.length by omega, List.drop_length] at i3
      have hany : l.any negF = false := i3.symm
      have hnn : ∀ n : Nat, n < l.length → 0 ≤ (l[n]?).getD 0 := fun n hn => by
        rw [List.getElem?_eq_getElem hn]
        have := List.any_eq_false.1 hany _ (List.getElem_mem hn)
        have : ¬ (l[n] < 0) := fun e => this (decide_eq_true e)
        show (0 : Int) ≤ l[n]
        omega
      have o1 : OkP p := (okP_iff p).1 c0
      have er0 : runF p l = runN (p, false) l 3000 (firstF p) := by rw [runF, if_neg (by simpa using c0), if_neg (by rw [hany]; simp)]
      rw [er0]
      refine ⟨⟨g1.1, g1.2.1⟩, ⟨⟨Int.le_refl 0, by show (0 : Int) ≤ 3000; decide⟩, first_ok o1, rfl⟩, ?_⟩
      rintro ⟨ws, ts, x, ⟨⟩⟩ ⟨⟨i1, i2⟩, o2, i4⟩
      simp only at i1 i2 o2 i4 ⊢
      obtain ⟨n, rfl⟩ := nat_of i1
      rw [Int.toNat_natCast] at i4
      generalize hs : (ws, ts) = s at *
      refine ⟨ok_pE o1 o2, fun hz => ⟨ok_bS o1 o2, ?_⟩, fun hz => ⟨fun h3 => ?_, fun h3 => ?_⟩⟩
      · have hnil : movesF (p, false) s = [] := List.eq_nil_of_length_eq_zero (by omega)
        rw [← i4]
        cases hf : 3000 - n with
        | zero => rw [runN, if_pos hnil]; exact ⟨rfl, by show (n : Int) = 3000; omega, rfl⟩
        | succ f => rw [runN, if_pos hnil]; exact ⟨rfl, by show (n : Int) = ((3000 - (f + 1) : Nat) : Int); omega, rfl⟩
      · have hnil : ¬ movesF (p, false) s = [] := fun e => hz (by rw [e]; rfl)
        rw [← i4, show 3000 - n = 0 by omega, runN, if_neg hnil]; exact ⟨rfl, rfl, rfl⟩
      · have hnil : ¬ movesF (p, false) s = [] := fun e => hz (by rw [e]; rfl)
        have hml : (movesF (p, false) s).length ≠ 0 := fun e => hnil (List.eq_nil_of_length_eq_zero e)
        have ew : IntKind.i64.wrap ((n : Int) + 1) = ((n + 1 : Nat) : Int) := wr (n := 3000) (by omega) (by omega)
        rw [ew]
        obtain ⟨f, hf⟩ : ∃ f, 3000 - n = f + 1 := ⟨3000 - n - 1, by omega⟩
        have hn : 3000 - (f + 1) = n := by omega
        have hstep : runN (p, false) l (3000 - n) s = runN (p, false) l f (doF (p, false) s (pickF (p, false) s l n)) := by rw [hf, runN, if_neg hnil, hn]
        have hpm : pickF (p, false) s l n ∈ movesF (p, false) s := by
          unfold pickF
          split
          · rename_i hl
            have := hrem _ (movesF (p, false) s).length (hnn n hl) hml
            rw [List.getElem?_eq_getElem (by omega)]; exact List.getElem_mem _
          · rw [List.getElem?_eq_getElem (by show (0 : Nat) < _; omega)]; exact List.getElem_mem _
        have hnext : I0 ((doF (p, false) s (pickF (p, false) s l n)).1, (doF (p, false) s (pickF (p, false) s l n)).2, ((n + 1 : Nat) : Int), ()) := by
          refine ⟨⟨by show (0 : Int) ≤ ((n + 1 : Nat) : Int); omega, by show ((n + 1 : Nat) : Int) ≤ 3000; omega⟩, do_ok o1 o2 hpm, ?_⟩
          show runN (p, false) l (3000 - ((n + 1 : Nat) : Int).toNat) (doF (p, false) s (pickF (p, false) s l n)) = _
          rw [Int.toNat_natCast, show 3000 - (n + 1) = f by omega, ← hstep]; exact i4
        have ml : ∀ a b c d, mu0 (a, b, ((n + 1 : Nat) : Int), ()) < mu0 (c, d, (n : Int), ()) := fun a b c d => by show ((3000 : Int) - ((n + 1 : Nat) : Int)).toNat < ((3000 : Int) - (n : Int)).toNat; omega
        refine ⟨fun hl => ?_, fun hl => ?_⟩
        · have hr := hrem _ (movesF (p, false) s).length (hnn n (by omega)) hml
          have e := pk s n (remF ((l[n]?).getD 0) (movesF (p, false) s).length) (by rw [if_pos (by omega)])
          simp only [Int.toNat_natCast] at e ⊢
          rw [e]
          exact ⟨⟨i1, hl⟩, by omega, hr, ok_pDo o1 o2 hpm, hnext, ml _ _ _ _⟩
        · have e := pk s n 0 (by rw [if_neg (by omega)])
          rw [e]
          exact ⟨⟨Int.le_refl 0, by omega⟩, ok_pDo o1 o2 hpm, hnext, ml _ _ _ _⟩
  · rw [runF, if_pos c0]; exact ⟨rfl, rfl, rfl⟩
end Go.Proofs.Tryz
set_option autoImplicit false
set_option linter.all false
namespace Go.Proofs.Tryz
open Go Go.VM
def sortE (l : List EnD) : List EnD := List.mergeSort (α := EnD) l fun x y => !(Go.Proofs.ltOf cmpEF) y x
noncomputable def endsM (m : McD) : List EnD × Int × Int := endsG sortE compL m
theorem ok_reach {p : WkD} {b : Bool} (hp : OkP p) {d : Nat} {s : StD} (h : Reach (p, b) d s) : OkS p s := by
  induction h with
  | zero => exact first_ok hp
  | step _ hv ih => exact do_ok hp ih hv
end Go.Proofs.Tryz
set_option autoImplicit false
set_option linter.all false
namespace Go.Proofs.Tryz
open Go Go.VM
section
variable {m : McD} {a : Nat} {l : List MtD}
end
theorem pick_mem {m : McD} {s : StD} {l : List Int} {n : Nat} (hn : movesF m s ≠ []) (hl : ∀ x ∈ l, 0 ≤ x) : pickF m s l n ∈ movesF m s := by
  unfold pickF
  have hp : 0 < (movesF m s).length := List.length_pos_iff.2 hn
  have hb : (if n < l.length then remF ((l[n]?).getD 0) (movesF m s).length else 0).toNat < (movesF m s).length := by
    split
    · rename_i h
      rw [List.getElem?_eq_getElem h, Option.getD_some]
      have h0 := hl _ (List.getElem_mem h)
      have e : remF l[n] (movesF m s).length = l[n].tmod (movesF m s).length := rfl
      rw [e]
      have a1 := Int.tmod_nonneg ((movesF m s).length : Int) h0
      have a2 := Int.tmod_lt_of_pos l[n] (Int.natCast_pos.2 hp)
      omega
    · exact hp
  rw [List.getElem?_eq_getElem hb]
  exact List.getElem_mem hb
theorem run_reach {m : McD} {l : List Int} (hl : ∀ x ∈ l, 0 ≤ x) : ∀ (f : Nat) (s z : StD) (k : Int), f ≤ 3000 → Reach m (3000 - f) s → runN m l f s = (z, k, 0) → ∃ d : Nat, k = (d : Int) ∧ d ≤ 3000 ∧ Reach m d z ∧ movesF m z = []
  | 0, s, z, k, _, hr, h => by
    rw [runN] at h
    split at h
    · rename_i he
      injection h with h1 h2
      injection h2 with h2 _
      subst h1; subst h2
      exact ⟨3000, rfl, Nat.le_refl _, hr, he⟩
    · injection h with _ h; injection h with _ h; cases h
  | f + 1, s, z, k, hf, hr, h => by
    rw [runN] at h
    split at h
    · rename_i he
      injection h with h1 h2
      injection h2 with h2 _
      subst h1; subst h2
      exact ⟨_, rfl, by omega, hr, he⟩
    · rename_i he
      refine run_reach hl f _ z k (by omega) ?_ h
      have := Reach.step hr (pick_mem (n := 3000 - (f + 1)) he hl)
      rwa [show 3000 - (f + 1) + 1 = 3000 - f by omega] at this
theorem runF_reach {p : WkD} {l : List Int} {z : StD} {k : Int} (h : runF p l = (z, k, 0)) : checkF p = 0 ∧ ∃ d : Nat, k = (d : Int) ∧ d ≤ 3000 ∧ Reach (p, false) d z ∧ movesF (p, false) z = [] := by
  unfold runF at h
  split at h
  · rename_i hc; injection h with _ h; injection h with _ h; exact absurd h hc
  · rename_i hc
    split at h
    · injection h with _ h; injection h with _ h; cases h
    · rename_i hn
      refine ⟨by simpa using hc, run_reach (fun x hx => ?_) 3000 _ z k (Nat.le_refl _) .zero h⟩
      rcases Int.lt_or_le x 0 with h1 | h1
      · exact absurd (List.any_eq_true.2 ⟨x, hx, decide_eq_true h1⟩) hn
      · exact h1
theorem runN_err {m : McD} {l : List Int} : ∀ (f : Nat) (s : StD), (runN m l f s).2.2 = 0 ∨ (runN m l f s).2.2 = 5
  | 0, s => by rw [runN]; split <;> simp
  | f + 1, s => by
    rw [runN]; split
    · exact .inl rfl
    · exact runN_err f _
theorem runF_err {p : WkD} {l : List Int} (hc : checkF p = 0) (hl : ∀ x ∈ l, 0 ≤ x) : (runF p l).2.2 = 0 ∨ (runF p l).2.2 = 5 := by
  have hn : l.any negF = false := by
    rw [List.any_eq_false]; intro x hx
    have := hl x hx
    simp only [negF, decide_eq_true_eq]; omega
  rw [runF, if_neg (by simpa using hc), if_neg (by rw [hn]; simp)]
  exact runN_err _ _
end Go.Proofs.Tryz
set_option autoImplicit false
set_option linter.all false
namespace Go.Proofs.Tryz
open Go Go.VM
set_option maxRecDepth 100000
def a98 (L : Lv) (I : Ds [.sl It, .sl Th, It] → Prop) (mu : Ds [.sl It, .sl Th, It] → Nat) : Nat → LAnn
  | 0 => anH L [1, 2, 6, 7] [] [.b 1 0 (.sl It), .b 1 1 (.sl Th), .s 7 It] I mu
  | _ => .no
def a128 (L : Lv) (I : Ds [It] → Prop) (mu : Ds [It] → Nat) : Nat → LAnn
  | 0 => anH L [0, 3, 7, 8] [] [.s 8 It] I mu
  | _ => .no
noncomputable def o100 (L : Lv) (I : Ds [It] → Prop) (mu : Ds [It] → Nat) : List (Nat × FT) := [(128, .inl (D128 (a128 L I mu)))]
def n100 (L : Lv) (F : BxF) (I : Ds [It] → Prop) (mu : Ds [It] → Nat) (l : List MvD) (v : MvD)  : VC :=
 let z1 := Lv.cast L (Lv.llen L Mv l);
 let z2 := Prod.fst v;
 let z3 := Prod.snd v;
 let z4 := (BxF.isMv F l v, ()); VC.obl (St.mk 19 [(0, V.c (C.sl Mv l)), (3, V.c (C.ptr 2 0)), (7, V.c (C.int IntKind.i64 z1)), (8, V.c (C.int IntKind.i64 0))] [(0, Ob.amb), (1,
   Ob.box 84 [C.int IntKind.i64 z2, C.sym z3]), (2, Ob.box 84 [C.int IntKind.i64 z2, C.sym z3])] 3 = St.mk 19 [(0, V.c (C.sl Mv l)), (3, V.c (C.ptr 2 0)), (7, V.c (C.int IntKind.i64
   z1)), (8, V.c (C.int IntKind.i64 0))] [(0, Ob.amb), (1, Ob.box 84 [C.int IntKind.i64 z2, C.sym z3]), (2, Ob.box 84 [C.int IntKind.i64 z2, C.sym z3])] 3) (VC.obl (I (0, ()))
   (VC.all (Int × Unit) fun (v1 : Int × Unit) =>
 let z5 := Prod.fst v1;
 let z6 := Lv.get L Mv l (Lv.toN L z5);
 let z7 := Lv.ar L BinOp.add IntKind.i64 z5 1;
 let z8 := (Lv.ar L BinOp.add IntKind.i64 z5 1, ()); VC.imp (I v1) (VC.br (Lv.cmp L BinOp.lss z5 z1) (VC.obl (Lv.inR L z5 (Lv.llen L Mv l)) (VC.br (Lv.band L (Lv.cmp L BinOp.eql z2
   (Prod.fst z6)) (Lv.band L (Lv.beq L z3 (Prod.snd z6)) true)) (VC.br (Lv.cmp L BinOp.geq z5 0) (VC.ok ((true, ()) = z4)) (VC.ok ((false, ()) = z4))) (VC.ok (St.mk 19 [(0, V.c
   (C.sl Mv l)), (3, V.c (C.ptr 2 0)), (7, V.c (C.int IntKind.i64 z1)), (8, V.c (C.int IntKind.i64 z7))] [(0, Ob.amb), (1, Ob.box 84 [C.int IntKind.i64 z2, C.sym z3]), (2, Ob.box 84
   [C.int IntKind.i64 z2, C.sym z3])] 3 = St.mk 19 [(0, V.c (C.sl Mv l)), (3, V.c (C.ptr 2 0)), (7, V.c (C.int IntKind.i64 z1)), (8, V.c (C.int IntKind.i64 z7))] [(0, Ob.amb), (1,
   Ob.box 84 [C.int IntKind.i64 z2, C.sym z3]), (2, Ob.box 84 [C.int IntKind.i64 z2, C.sym z3])] 3 ∧ I z8 ∧ mu z8 < mu v1)))) (VC.br (Lv.cmp L BinOp.geq (Int.negSucc 0) 0) (VC.ok
   ((true, ()) = z4)) (VC.ok ((false, ()) = z4))))))
theorem n100_eq (L : Lv) (F : BxF) (I : Ds [It] → Prop) (mu : Ds [It] → Nat) (l : List MvD) (v : MvD) : vcO L F (o100 L I mu) [128] 3 (D100 a0) (S56 F) (l, v, ()) = n100 L F I mu l v := by kernel_rfl
theorem n100_go (L : Lv) (F : BxF) (I : Ds [It] → Prop) (mu : Ds [It] → Nat) (l : List MvD) (v : MvD) (h : VC.holds (n100 L F I mu l v)) : Holds (vcO L F (o100 L I mu) [128] 3 (D100 a0) (S56 F) (l, v, ())) := Holds.of_eq (n100_eq L F I mu l v) h
def n126 (L : Lv) (F : BxF) (s : StD) (k : Int)  : VC :=
 let z1 := Prod.fst s;
 let z2 := Prod.snd s;
 let z3 := Lv.llen L Th z2;
 let z4 := Lv.toN L k;
 let z5 := Lv.ltN L z4 z3;
 let z6 := Lv.get L Th z2 z4;
 let z7 := Prod.snd z6;
 let z8 := Prod.fst z7;
 let z9 := Prod.snd z7;
 let z10 := Prod.fst z9;
 let z11 := Prod.snd z9;
 let z12 := Prod.fst z11;
 let z13 := (Lv.toN L k = Lv.toN L k); VC.obl (BxF.pLi F z1) (VC.obl (BxF.pLt F z2) (VC.obl (Lv.inR L k z3) (VC.obl z5 (VC.obl (BxF.pLi F z8) (VC.obl z5 (VC.obl (BxF.pLk F z10)
   (VC.obl z5 (VC.obl (BxF.pLi F z12) (VC.obl z5 (VC.obl z13 (VC.obl z13 (VC.ok (((Lv.take L It z1 (Lv.llen L It z1), Lv.take L Th (Lv.setl L Th z2 z4 (Prod.fst z6, Lv.take L It z8
   (Lv.llen L It z8), Lv.take L Kp z10 (Lv.llen L Kp z10), Lv.take L It z12 (Lv.llen L It z12), Prod.snd z11)) z3), ()) = (s, ()))))))))))))))
theorem n126_eq (L : Lv) (F : BxF) (s : StD) (k : Int) : vcC L F [76, 141, 142] (D126 a0) (S126 F) (s, k, ()) = n126 L F s k := by kernel_rfl
theorem n126_go (L : Lv) (F : BxF) (s : StD) (k : Int) (h : VC.holds (n126 L F s k)) : Holds (vcC L F [76, 141, 142] (D126 a0) (S126 F) (s, k, ())) := Holds.of_eq (n126_eq L F s k) h
def n98 (L : Lv) (F : BxF) (I : Ds [.sl It, .sl Th, It] → Prop) (mu : Ds [.sl It, .sl Th, It] → Nat) (s : StD)  : VC :=
 let z1 := Prod.snd s;
 let z2 := Lv.cast L (Lv.llen L Th z1);
 let z3 := Int × List Int × List (Int × Int) × List Int × Bool; VC.obl (St.mk 15 [(1, V.c (C.ptr 1 0)), (2, V.c (C.ptr 2 0)), (6, V.c (C.int IntKind.i64 z2)), (7, V.c (C.int
   IntKind.i64 0))] [(0, Ob.amb), (1, Ob.box 59 [C.sl It (Prod.fst s), C.sl Th z1]), (2, Ob.box 59 [C.nils, C.nils])] 3 = St.mk 15 [(1, V.c (C.ptr 1 0)), (2, V.c (C.ptr 2 0)), (6,
   V.c (C.int IntKind.i64 z2)), (7, V.c (C.int IntKind.i64 0))] [(0, Ob.amb), (1, Ob.box 59 [C.sl It (Prod.fst s), C.sl Th z1]), (2, Ob.box 59 [C.nils, C.nils])] 3) (VC.obl (I
   (Prod.fst s, Prod.snd s, 0, ())) (VC.all (List Int × List z3 × Int × Unit) fun (v1 : List Int × List (Int × List Int × List (Int × Int) × List Int × Bool) × Int × Unit) =>
 let z4 := Prod.snd v1;
 let z5 := Prod.fst (Prod.snd z4);
 let z6 := (Prod.fst v1, Prod.fst z4);
 let z7 := Lv.ar L BinOp.add IntKind.i64 z5 1;
 let z8 := Prod.fst z4;
 let z9 := (Prod.fst v1, Prod.fst z4, Lv.ar L BinOp.add IntKind.i64 z5 1, ()); VC.imp (I v1) (VC.br (Lv.cmp L BinOp.lss z5 z2) (VC.obl (BxF.pCl F z6 z5) (VC.ok (St.mk 15 [(1, V.c
   (C.ptr 1 0)), (2, V.c (C.ptr 2 0)), (6, V.c (C.int IntKind.i64 z2)), (7, V.c (C.int IntKind.i64 z7))] [(0, Ob.amb), (1, Ob.box 59 [C.sl It (Prod.fst v1), C.sl Th z8]), (2, Ob.box
   59 [C.nils, C.nils])] 3 = St.mk 15 [(1, V.c (C.ptr 1 0)), (2, V.c (C.ptr 2 0)), (6, V.c (C.int IntKind.i64 z2)), (7, V.c (C.int IntKind.i64 z7))] [(0, Ob.amb), (1, Ob.box 59
   [C.sl It (Prod.fst v1), C.sl Th z8]), (2, Ob.box 59 [C.nils, C.nils])] 3 ∧ I z9 ∧ mu z9 < mu v1))) (VC.ok ((z6, ()) = (s, ()))))))
theorem n98_eq (L : Lv) (F : BxF) (I : Ds [.sl It, .sl Th, It] → Prop) (mu : Ds [.sl It, .sl Th, It] → Nat) (s : StD) : vcC L F [126] (D98 (a98 L I mu)) (S43 F) (s, ()) = n98 L F I mu s := by kernel_rfl
theorem n98_go (L : Lv) (F : BxF) (I : Ds [.sl It, .sl Th, It] → Prop) (mu : Ds [.sl It, .sl Th, It] → Nat) (s : StD) (h : VC.holds (n98 L F I mu s)) : Holds (vcC L F [126] (D98 (a98 L I mu)) (S43 F) (s, ())) := Holds.of_eq (n98_eq L F I mu s) h
def n36 (L : Lv) (F : BxF) (p : WkD)  : VC :=
 let z1 := (Prod.fst p, Prod.fst (Prod.snd p), Prod.snd (Prod.snd p));
 let z2 := (Prod.fst (BxF.begE F p), Prod.snd (BxF.begE F p), ());
 let z3 := BxF.first F z1; VC.obl (BxF.bw F z1) (VC.br (Lv.cmp L BinOp.neq (BxF.check F z1) 0) (VC.ok ((([], []), BxF.check F z1, ()) = z2)) (VC.obl (BxF.pFirst F z1) (VC.ok
   (((Prod.fst z3, Prod.snd z3), 0, ()) = z2))))
theorem n36_eq (L : Lv) (F : BxF) (p : WkD) : vcC L F [38, 79] (D36 a0) (S36 F) (p, ()) = n36 L F p := by kernel_rfl
theorem n36_go (L : Lv) (F : BxF) (p : WkD) (h : VC.holds (n36 L F p)) : Holds (vcC L F [38, 79] (D36 a0) (S36 F) (p, ())) := Holds.of_eq (n36_eq L F p) h
def n42 (L : Lv) (F : BxF) (p : WkD) (s : StD)  : VC :=
 let z1 := (Prod.fst p, Prod.fst (Prod.snd p), Prod.snd (Prod.snd p));
 let z2 := (Prod.fst s, Prod.snd s);
 let z3 := (Prod.fst (BxF.mvE F p s), Prod.snd (BxF.mvE F p s), ()); VC.obl (BxF.pSt F z1 z2) (VC.br (Lv.cmp L BinOp.neq (BxF.ckSt F z1 z2) 0) (VC.ok (([], BxF.ckSt F z1 z2, ()) =
   z3)) (VC.obl (BxF.pE F z2 (z1, false)) (VC.ok ((BxF.moves F (z1, false) z2, 0, ()) = z3))))
theorem n42_eq (L : Lv) (F : BxF) (p : WkD) (s : StD) : vcC L F [45, 90] (D42 a0) (S42 F) (p, s, ()) = n42 L F p s := by kernel_rfl
theorem n42_go (L : Lv) (F : BxF) (p : WkD) (s : StD) (h : VC.holds (n42 L F p s)) : Holds (vcC L F [45, 90] (D42 a0) (S42 F) (p, s, ())) := Holds.of_eq (n42_eq L F p s) h
theorem ok100 (F : BxF) (h : F.isMv = fun l v => decide (v ∈ l)) (hp : F.bm = fun l => l.length ≤ 1000000) : SpecOk prog 100 (S56 F) := by
  refine contract_by hm hE D100 fnok100 _ fun (z : List MvD × MvD × Unit) hpre => ?_
  obtain ⟨l, v, ⟨⟩⟩ := z
  have hpre' : F.bm l := hpre
  rw [hp] at hpre'
  have g : l.length ≤ 1000000 := hpre'
  let I : Int × Unit → Prop := Iv l.length fun k => ∀ x ∈ l.take k, x ≠ v
  refine pack _ 3 a0 (only_tab (T := tabO (o100 Lv.std I (Mu l.length)) (cT F)) (l := [128]) (tb_cons (tb_d (fnok128 (a128 Lv.std I (Mu l.length))) (by kernel_rfl)) tb_nil)) ?_
  refine n100_go Lv.std F I (Mu l.length) l v ?_
  simp only [n100, VC.holds, std_cmp, std_scmp, std_ar_add, std_ar_sub, std_ar_mul, std_ar, std_dv, std_shf, std_conv, std_mn, std_mx, std_beq, std_bnot, std_band, std_scat, std_byte, std_ext, std_slen, std_strOf, std_bytes, std_llen, std_get, std_setl, std_app, std_take, std_drop, std_rep, std_mhas, std_mval, std_mput, std_cast, std_toN, std_sub, std_add, std_inR, std_le3, std_leN, std_ltN, std_ne0, std_nonneg, std_catOk, std_room, std_mkOk, std_nth, std_cnt, cmp_lss_t, cmp_lss_f, cmp_leq_t, cmp_leq_f, cmp_gtr_t, cmp_gtr_f, cmp_geq_t, cmp_geq_f, cmp_eql_t, cmp_eql_f, cmp_neq_t, cmp_neq_f, scmp_eql_t, scmp_eql_f, scmp_neq_t, scmp_neq_f, dflt_int, dflt_bool, dflt_str, dflt_sl, dflt_pair, h, Prod.mk.injEq, and_true, true_and]
  have eqv : ∀ u : MvD, (VM.compare BinOp.eql v.1 u.1 && (v.2 == u.2 && true)) = decide (u = v) := fun u => by
    obtain ⟨a, b⟩ := u
    obtain ⟨c, d⟩ := v
    show ((c == a) && (d == b && true)) = _
    rw [Bool.and_true]
    by_cases h1 : c = a
    · subst h1
      by_cases h2 : d = b
      · subst h2; simp
      · rw [decide_eq_false (fun e => h2 (congrArg Prod.snd e).symm)]; simp [h2]
    · rw [decide_eq_false (fun e => h1 (congrArg Prod.fst e).symm)]; simp [h1]
  refine ⟨Iv.zero (by simp), fun x hx => ?_⟩
  obtain ⟨k, rfl, hk, i3⟩ := Iv.elim hx
  simp only [Int.toNat_natCast, eqv]
  have neg1 : (Int.negSucc 0 : Int) = -1 := rfl
  rw [neg1]
  refine ⟨fun hlt => ⟨⟨by omega, hlt⟩, fun he => ⟨fun _ => ?_, fun hc => by omega⟩, fun he => ?_⟩, fun hge => ⟨fun hc => by omega, fun _ => ?_⟩⟩
  · have he' := of_decide_eq_true he
    have hk' : k < l.length := by omega
    rw [List.getElem?_eq_getElem hk'] at he'
    exact (decide_eq_true (by rw [← he']; exact List.getElem_mem hk')).symm
  · have he' := of_decide_eq_false he
    have hk' : k < l.length := by omega
    rw [List.getElem?_eq_getElem hk'] at he'
    rw [wr hlt g]
    refine ⟨Iv.mk (by omega) (fun x hx => ?_), Mu.lt (by omega)⟩
    rw [List.take_succ, List.getElem?_eq_getElem hk'] at hx
    rcases List.mem_append.1 hx with h1 | h1
    · exact i3 x h1
    · have : x = l[k] := by simpa using h1
      rw [this]; exact he'
  · rw [show k = l.length by omega, List.take_length] at i3
    exact (decide_eq_false (fun hm => i3 v hm rfl)).symm
theorem ok126 (F : BxF) (hp : F.pCl = fun s (k : Int) => (0 ≤ k ∧ k < s.2.length) ∧ bS s) (q1 : F.pLi = fun l => l.length ≤ 1000000) (q2 : F.pLt = fun l => l.length ≤ 1000000) (q3 : F.pLk = fun l => l.length ≤ 1000000) (k1 : XOk prog 76 (R76 F).x) (k2 : XOk prog 141 (R141 F).x) (k3 : XOk prog 142 (R142 F).x) : SpecOk prog 126 (S126 F) := by
  refine contract_by hm hE D126 fnok126 _ fun (z : StD × Int × Unit) hpre => ?_
  obtain ⟨s, k, ⟨⟩⟩ := z
  have hpre' : F.pCl s k := hpre
  rw [hp] at hpre'
  obtain ⟨g1, g2, g3, g4⟩ := hpre'
  refine pack _ 3 a0 (only_tab (T := cT F) (l := [76, 141, 142]) (tb_cons (tb_x k1 (by kernel_rfl)) (tb_cons (tb_x k2 (by kernel_rfl)) (tb_cons (tb_x k3 (by kernel_rfl)) tb_nil)))) ?_
  refine n126_go Lv.std F s k ?_
  simp only [n126, VC.holds, std_cmp, std_scmp, std_ar_add, std_ar_sub, std_ar_mul, std_ar, std_dv, std_shf, std_conv, std_mn, std_mx, std_beq, std_bnot, std_band, std_scat, std_byte, std_ext, std_slen, std_strOf, std_bytes, std_llen, std_get, std_setl, std_app, std_take, std_drop, std_rep, std_mhas, std_mval, std_mput, std_cast, std_toN, std_sub, std_add, std_inR, std_le3, std_leN, std_ltN, std_ne0, std_nonneg, std_catOk, std_room, std_mkOk, std_nth, std_cnt, cmp_lss_t, cmp_lss_f, cmp_leq_t, cmp_leq_f, cmp_gtr_t, cmp_gtr_f, cmp_geq_t, cmp_geq_f, cmp_eql_t, cmp_eql_f, cmp_neq_t, cmp_neq_f, scmp_eql_t, scmp_eql_f, scmp_neq_t, scmp_neq_f, dflt_int, dflt_bool, dflt_str, dflt_sl, dflt_pair, q1, q2, q3, List.take_length, List.set_set, pe5, Prod.mk.injEq, and_true, true_and]
  obtain ⟨k, rfl⟩ := nat_of g1.1
  have hk : k < s.2.length := by omega
  simp only [Int.toNat_natCast, List.getElem?_eq_getElem hk, Option.getD_some]
  obtain ⟨b1, b2, b3⟩ := g4 _ (List.getElem_mem hk)
  refine ⟨g2, g3, g1, hk, b1, hk, b2, hk, b3, hk, ?_⟩
  rw [List.set_getElem_self, List.take_length]
theorem ok98 (F : BxF) (hp : F.bs = bS) (q : F.pCl = fun s (k : Int) => (0 ≤ k ∧ k < s.2.length) ∧ bS s) (k1 : SpecOk prog 126 (S126 F)) : SpecOk prog 98 (S43 F) := by
  refine contract_by hm hE D98 fnok98 _ fun (z : StD × Unit) hpre => ?_
  obtain ⟨s, ⟨⟩⟩ := z
  have hpre' : F.bs s := hpre
  rw [hp] at hpre'
  have g2 := hpre'.2.1
  let I : List Int × List ThD × Int × Unit → Prop := fun x => (0 ≤ x.2.2.1 ∧ x.2.2.1 ≤ s.2.length) ∧ (x.1, x.2.1) = s
  let mu : List Int × List ThD × Int × Unit → Nat := fun x => (s.2.length - x.2.2.1).toNat
  refine pack _ 3 (a98 Lv.std I mu) (only_tab (T := cT F) (l := [126]) (tb_cons (tb_sp k1 (by kernel_rfl)) tb_nil)) ?_
  refine n98_go Lv.std F I mu s ?_
  simp only [n98, VC.holds, std_cmp, std_scmp, std_ar_add, std_ar_sub, std_ar_mul, std_ar, std_dv, std_shf, std_conv, std_mn, std_mx, std_beq, std_bnot, std_band, std_scat, std_byte, std_ext, std_slen, std_strOf, std_bytes, std_llen, std_get, std_setl, std_app, std_take, std_drop, std_rep, std_mhas, std_mval, std_mput, std_cast, std_toN, std_sub, std_add, std_inR, std_le3, std_leN, std_ltN, std_ne0, std_nonneg, std_catOk, std_room, std_mkOk, std_nth, std_cnt, cmp_lss_t, cmp_lss_f, cmp_leq_t, cmp_leq_f, cmp_gtr_t, cmp_gtr_f, cmp_geq_t, cmp_geq_f, cmp_eql_t, cmp_eql_f, cmp_neq_t, cmp_neq_f, scmp_eql_t, scmp_eql_f, scmp_neq_t, scmp_neq_f, dflt_int, dflt_bool, dflt_str, dflt_sl, dflt_pair, q, pe5, Prod.mk.injEq, and_true, true_and]
  refine ⟨⟨⟨Int.le_refl 0, by show (0 : Int) ≤ s.2.length; omega⟩, rfl⟩, ?_⟩
  rintro ⟨a, b, x, ⟨⟩⟩ ⟨⟨i1, i2⟩, i3⟩
  simp only at i1 i2 i3 ⊢
  obtain ⟨k, rfl⟩ := nat_of i1
  rw [i3]
  refine ⟨fun hlt => ⟨⟨⟨i1, by rw [← i3] at hlt; exact by have : b = s.2 := congrArg Prod.snd i3; rw [this]; rw [← i3]; exact hlt⟩, hpre'⟩, ?_⟩, fun _ => rfl⟩
  rw [wr hlt g2]
  exact ⟨⟨⟨by show (0 : Int) ≤ ((k + 1 : Nat) : Int); omega, by show ((k + 1 : Nat) : Int) ≤ (s.2.length : Int); omega⟩, i3⟩, by show ((s.2.length : Int) - ((k + 1 : Nat) : Int)).toNat < ((s.2.length : Int) - (k : Int)).toNat; omega⟩
def begF (p : WkD) : StD × Int := if checkF p ≠ 0 then (([], []), checkF p) else (firstF p, 0)
theorem ok36 (F : BxF) (h : F.begE = begF) (h1 : F.check = checkF) (h2 : F.first = firstF) (hp : F.bw = bW) (q : F.pFirst = fun p => p.1.length ≤ 1000000 ∧ p.2.1.length ≤ 1000000) (k1 : SpecOk prog 38 (S22 F)) (k2 : SpecOk prog 79 (S79 F)) : SpecOk prog 36 (S36 F) := by
  refine contract_by hm hE D36 fnok36 _ fun (z : WkD × Unit) hpre => ?_
  obtain ⟨p, ⟨⟩⟩ := z
  have hpre' : F.bw p := hpre
  rw [hp] at hpre'
  refine pack _ 3 a0 (only_tab (T := cT F) (l := [38, 79]) (tb_cons (tb_sp k1 (by kernel_rfl)) (tb_cons (tb_sp k2 (by kernel_rfl)) tb_nil))) ?_
  refine n36_go Lv.std F p ?_
  simp only [n36, VC.holds, std_cmp, std_scmp, std_ar_add, std_ar_sub, std_ar_mul, std_ar, std_dv, std_shf, std_conv, std_mn, std_mx, std_beq, std_bnot, std_band, std_scat, std_byte, std_ext, std_slen, std_strOf, std_bytes, std_llen, std_get, std_setl, std_app, std_take, std_drop, std_rep, std_mhas, std_mval, std_mput, std_cast, std_toN, std_sub, std_add, std_inR, std_le3, std_leN, std_ltN, std_ne0, std_nonneg, std_catOk, std_room, std_mkOk, std_nth, std_cnt, cmp_lss_t, cmp_lss_f, cmp_leq_t, cmp_leq_f, cmp_gtr_t, cmp_gtr_f, cmp_geq_t, cmp_geq_f, cmp_eql_t, cmp_eql_f, cmp_neq_t, cmp_neq_f, scmp_eql_t, scmp_eql_f, scmp_neq_t, scmp_neq_f, dflt_int, dflt_bool, dflt_str, dflt_sl, dflt_pair, h, h1, h2, hp, q, begF, pe5, Prod.mk.injEq, and_true, true_and]
  exact ⟨hpre', fun c => by rw [if_pos c]; exact ⟨rfl, rfl⟩, fun c => ⟨⟨hpre'.1, hpre'.2.1⟩, by rw [if_neg (by simpa using c)]; exact ⟨rfl, rfl⟩⟩⟩
def mvsF (p : WkD) (s : StD) : List MvD × Int := if ckStF p s ≠ 0 then ([], ckStF p s) else (movesF (p, false) s, 0)
theorem ok42 (F : BxF) (h : F.mvE = mvsF) (h1 : F.ckSt = ckStF) (h2 : F.moves = movesF) (hp : F.pSt = fun p s => bW p ∧ bS s) (q : F.pE = pEF) (k1 : SpecOk prog 45 (S45 F)) (k2 : SpecOk prog 90 (S90 F)) : SpecOk prog 42 (S42 F) := by
  refine contract_by hm hE D42 fnok42 _ fun (z : WkD × StD × Unit) hpre => ?_
  obtain ⟨p, s, ⟨⟩⟩ := z
  have hpre' : F.pSt p s := hpre
  rw [hp] at hpre'
  refine pack _ 3 a0 (only_tab (T := cT F) (l := [45, 90]) (tb_cons (tb_sp k1 (by kernel_rfl)) (tb_cons (tb_sp k2 (by kernel_rfl)) tb_nil))) ?_
  refine n42_go Lv.std F p s ?_
  simp only [n42, VC.holds, std_cmp, std_scmp, std_ar_add, std_ar_sub, std_ar_mul, std_ar, std_dv, std_shf, std_conv, std_mn, std_mx, std_beq, std_bnot, std_band, std_scat, std_byte, std_ext, std_slen, std_strOf, std_bytes, std_llen, std_get, std_setl, std_app, std_take, std_drop, std_rep, std_mhas, std_mval, std_mput, std_cast, std_toN, std_sub, std_add, std_inR, std_le3, std_leN, std_ltN, std_ne0, std_nonneg, std_catOk, std_room, std_mkOk, std_nth, std_cnt, cmp_lss_t, cmp_lss_f, cmp_leq_t, cmp_leq_f, cmp_gtr_t, cmp_gtr_f, cmp_geq_t, cmp_geq_f, cmp_eql_t, cmp_eql_f, cmp_neq_t, cmp_neq_f, scmp_eql_t, scmp_eql_f, scmp_neq_t, scmp_neq_f, dflt_int, dflt_bool, dflt_str, dflt_sl, dflt_pair, h, h1, h2, hp, q, mvsF, pe5, Prod.mk.injEq, and_true, true_and]
  exact ⟨hpre', fun c => by rw [if_pos c]; exact ⟨rfl, rfl⟩, fun c => ⟨by obtain ⟨o1, o2⟩ := (ckSt_iff p s).1 c; exact ok_pE o1 o2, by rw [if_neg (by simpa using c)]; exact ⟨rfl, rfl⟩⟩⟩
end Go.Proofs.Tryz
set_option autoImplicit false
set_option linter.all false
namespace Go.Proofs.Tryz
open Go Go.VM
set_option maxRecDepth 100000
def n52 (L : Lv) (F : BxF) (p : WkD) (s : StD) (v : MvD)  : VC :=
 let z1 := (Prod.fst p, Prod.fst (Prod.snd p), Prod.snd (Prod.snd p));
 let z2 := (Prod.fst s, Prod.snd s);
 let z3 := (Prod.fst (BxF.doE F p s v), Prod.snd (BxF.doE F p s v), ());
 let z4 := (BxF.moves F (z1, false) z2);
 let z5 := (Prod.fst v, Prod.snd v);
 let z6 := (BxF.doo F (z1, false) z2 z5);
 let z7 := (Prod.fst z6, Prod.snd z6); VC.obl (BxF.pSt F z1 z2) (VC.br (Lv.cmp L BinOp.neq (BxF.ckSt F z1 z2) 0) (VC.ok ((([], []), BxF.ckSt F z1 z2, ()) = z3)) (VC.obl (BxF.pE F z2
   (z1, false)) (VC.obl (BxF.bm F z4) (VC.br (BxF.isMv F z4 z5) (VC.obl (BxF.pDo F (z1, false) z2 z5) (VC.obl (BxF.bs F z7) (VC.ok ((z7, 0, ()) = z3)))) (VC.ok ((([], []), 7, ()) =
   z3))))))
theorem n52_eq (L : Lv) (F : BxF) (p : WkD) (s : StD) (v : MvD) : vcC L F [45, 90, 98, 99, 100] (D52 a0) (S52 F) (p, s, v, ()) = n52 L F p s v := by kernel_rfl
theorem n52_go (L : Lv) (F : BxF) (p : WkD) (s : StD) (v : MvD) (h : VC.holds (n52 L F p s v)) : Holds (vcC L F [45, 90, 98, 99, 100] (D52 a0) (S52 F) (p, s, v, ())) := Holds.of_eq (n52_eq L F p s v) h
def doEF (p : WkD) (s : StD) (v : MvD) : StD × Int := if ckStF p s ≠ 0 then (([], []), ckStF p s) else if v ∈ movesF (p, false) s then (doF (p, false) s v, 0) else (([], []), 7)
theorem ok52 (F : BxF) (h : F.doE = doEF) (h1 : F.ckSt = ckStF) (h2 : F.moves = movesF) (h3 : F.doo = doF) (h4 : F.isMv = fun l v => decide (v ∈ l)) (hp : F.pSt = fun p s => bW p ∧ bS s) (q : F.pE = pEF) (q1 : F.pDo = pDoF) (q2 : F.bm = fun l => l.length ≤ 1000000) (q3 : F.bs = bS) (k1 : SpecOk prog 45 (S45 F)) (k2 : SpecOk prog 90 (S90 F)) (k3 : SpecOk prog 98 (S43 F)) (k4 : SpecOk prog 99 (S99 F)) (k5 : SpecOk prog 100 (S56 F)) : SpecOk prog 52 (S52 F) := by
  refine contract_by hm hE D52 fnok52 _ fun (z : WkD × StD × MvD × Unit) hpre => ?_
  obtain ⟨p, s, v, ⟨⟩⟩ := z
  have hpre' : F.pSt p s := hpre
  rw [hp] at hpre'
  refine pack _ 3 a0 (only_tab (T := cT F) (l := [45, 90, 98, 99, 100]) (tb_cons (tb_sp k1 (by kernel_rfl)) (tb_cons (tb_sp k2 (by kernel_rfl)) (tb_cons (tb_sp k3 (by kernel_rfl)) (tb_cons (tb_sp k4 (by kernel_rfl)) (tb_cons (tb_sp k5 (by kernel_rfl)) tb_nil)))))) ?_
  refine n52_go Lv.std F p s v ?_
  simp only [n52, VC.holds, std_cmp, std_scmp, std_ar_add, std_ar_sub, std_ar_mul, std_ar, std_dv, std_shf, std_conv, std_mn, std_mx, std_beq, std_bnot, std_band, std_scat, std_byte, std_ext, std_slen, std_strOf, std_bytes, std_llen, std_get, std_setl, std_app, std_take, std_drop, std_rep, std_mhas, std_mval, std_mput, std_cast, std_toN, std_sub, std_add, std_inR, std_le3, std_leN, std_ltN, std_ne0, std_nonneg, std_catOk, std_room, std_mkOk, std_nth, std_cnt, cmp_lss_t, cmp_lss_f, cmp_leq_t, cmp_leq_f, cmp_gtr_t, cmp_gtr_f, cmp_geq_t, cmp_geq_f, cmp_eql_t, cmp_eql_f, cmp_neq_t, cmp_neq_f, scmp_eql_t, scmp_eql_f, scmp_neq_t, scmp_neq_f, dflt_int, dflt_bool, dflt_str, dflt_sl, dflt_pair, h, h1, h2, h3, h4, hp, q, q1, q2, q3, doEF, pe5, Prod.mk.injEq, and_true, true_and]
  refine ⟨hpre', fun c => by rw [if_pos c]; exact ⟨rfl, rfl⟩, fun c => ?_⟩
  obtain ⟨o1, o2⟩ := (ckSt_iff p s).1 c
  rw [if_neg (by simpa using c)]
  refine ⟨ok_pE o1 o2, ?_, fun e => ?_, fun e => ?_⟩
  · have := mvN_len s (p, false) s.2.length
    have h2 := hpre'.2.2.1
    have h4 := o2.tl
    have h5 := o1.t4
    show (mvN s (p, false) s.2.length).length ≤ _
    omega
  · have hv := of_decide_eq_true e
    rw [if_pos hv]
    exact ⟨ok_pDo o1 o2 hv, ok_bS o1 (do_ok o1 o2 hv), rfl, rfl⟩
  · rw [if_neg (of_decide_eq_false e)]; exact ⟨rfl, rfl⟩
end Go.Proofs.Tryz
set_option autoImplicit false
set_option linter.all false
namespace Go.Proofs.Tryz
open Go Go.VM
theorem no_kept {m : McD} {s : StD} (h : movesF m s = []) {k : Nat} (hk : k < s.2.length) : (thAt s k).2.2.1 = [] ∧ canF m s k = false := by
  constructor
  · apply List.eq_nil_of_length_eq_zero
    rcases Nat.eq_zero_or_pos (thAt s k).2.2.1.length with h0 | h0
    · exact h0
    · have : ((k : Int), true) ∈ movesF m s := mem_moves.2 ⟨k, hk, rfl, .inr ⟨rfl, h0⟩⟩
      rw [h] at this; cases this
  · cases hc : canF m s k with
    | false => rfl
    | true =>
      have : ((k : Int), false) ∈ movesF m s := mem_moves.2 ⟨k, hk, rfl, .inl ⟨rfl, hc⟩⟩
      rw [h] at this; cases this
theorem step_9 (b : Bool) (s : StD) (t : ThD) (i : InD) (h : i.1 = 9) : stepF b s t i = if (placeF s t i).2 = false then none else if b then some (s.1.set (placeF s t i).1.toNat (regF t.2.1 i.2.1), IntKind.i64.wrap (t.1 + 1), t.2) else some (s.1, IntKind.i64.wrap (t.1 + 1), t.2.1, t.2.2.1 ++ [((placeF s t i).1, regF t.2.1 i.2.1)], t.2.2.2) := by
  unfold stepF
  simp only [h, show ¬ ((9 : Int) = 13) by decide, show ¬ ((9 : Int) = 14) by decide, show ¬ ((9 : Int) = 15) by decide, show ¬ ((9 : Int) = 8) by decide, if_false, if_true, or_true, true_or]
theorem do_false {m : McD} {s : StD} {k : Nat} : doF m s ((k : Int), false) = match stepF m.2 s (thAt s k) (insIn (listAt m k) (thAt s k).1) with
    | some x => (x.1, s.2.set k x.2)
    | none => (s.1, s.2.set k ((thAt s k).1, (thAt s k).2.1, (thAt s k).2.2.1, (thAt s k).2.2.2.1, true)) := by
  unfold doF
  simp only [Int.toNat_natCast, Bool.false_eq_true, if_false]
  rfl
theorem do_true {m : McD} {s : StD} {k : Nat} : doF m s ((k : Int), true) = (s.1.set (kpAt (thAt s k).2.2.1 0).1.toNat (kpAt (thAt s k).2.2.1 0).2, s.2.set k ((thAt s k).1, (thAt s k).2.1, (thAt s k).2.2.1.drop 1, (thAt s k).2.2.2)) := by
  unfold doF
  simp only [Int.toNat_natCast, if_true]
end Go.Proofs.Tryz
set_option autoImplicit false
set_option linter.all false
namespace Go.Proofs.Tryz
open Go Go.VM
theorem step_8 (b : Bool) (s : StD) (t : ThD) (i : InD) (h : i.1 = 8) : stepF b s t i = if (placeF s t i).2 = false then none else some (s.1, IntKind.i64.wrap (t.1 + 1), t.2.1.set i.2.1.toNat (seesF s t (placeF s t i).1), t.2.2) := by
  unfold stepF
  simp only [h, show ¬ ((8 : Int) = 13) by decide, show ¬ ((8 : Int) = 14) by decide, show ¬ ((8 : Int) = 15) by decide, if_false, if_true, or_true, true_or]
theorem step_12 (b : Bool) (s : StD) (t : ThD) (i : InD) (h : i.1 = 12) : stepF b s t i = if (placeF s t i).2 = false then none else some (s.1, IntKind.i64.wrap (t.1 + 1), t.2) := by
  unfold stepF
  simp only [h, show ¬ ((12 : Int) = 13) by decide, show ¬ ((12 : Int) = 14) by decide, show ¬ ((12 : Int) = 15) by decide, show ¬ ((12 : Int) = 8) by decide, show ¬ ((12 : Int) = 9) by decide, show ¬ ((12 : Int) = 10) by decide, if_false, if_true, or_true, true_or]
theorem step_10 (b : Bool) (s : StD) (t : ThD) (i : InD) (h : i.1 = 10) : stepF b s t i = if (placeF s t i).2 = false then none else if regF s.1 (placeF s t i).1 = regF t.2.1 i.2.2.2.1 then some (s.1.set (placeF s t i).1.toNat (regF t.2.1 i.2.2.2.2.1), IntKind.i64.wrap (t.1 + 1), t.2.1.set i.2.1.toNat 1, t.2.2) else some (s.1, IntKind.i64.wrap (t.1 + 1), t.2.1.set i.2.1.toNat 0, t.2.2) := by
  unfold stepF
  simp only [h, show ¬ ((10 : Int) = 13) by decide, show ¬ ((10 : Int) = 14) by decide, show ¬ ((10 : Int) = 15) by decide, show ¬ ((10 : Int) = 8) by decide, show ¬ ((10 : Int) = 9) by decide, if_false, if_true, or_true, true_or]
theorem step_own (b : Bool) (s : StD) (t : ThD) (i : InD) (h : ¬ memOp i) : stepF b s t i = (own t i).map fun x => (s.1, x) := by
  unfold memOp at h
  unfold stepF own
  simp only [if_neg h]
  by_cases h13 : i.1 = 13
  · simp only [if_pos h13]; rfl
  · simp only [if_neg h13]
    by_cases h14 : i.1 = 14
    · simp only [if_pos h14]; rfl
    · simp only [if_neg h14]
      by_cases h15 : i.1 = 15
      · simp only [if_pos h15]
        by_cases hl : t.2.2.2.1.length + 1 ≤ 20
        · simp only [if_pos hl]; rfl
        · simp only [if_neg hl]; rfl
      · simp only [if_neg h15]
        by_cases hw : i.1 = 1 ∨ i.1 = 2 ∨ i.1 = 3 ∨ i.1 = 4 ∨ i.1 = 5 ∨ i.1 = 6 ∨ i.1 = 7
        · simp only [if_pos hw]
          by_cases hq : (workedF t.2.1 i).2 = false
          · simp only [if_pos hq]; rfl
          · simp only [if_neg hq]; rfl
        · simp only [if_neg hw]; rfl
end Go.Proofs.Tryz
set_option autoImplicit false
set_option linter.all false
namespace Go.Proofs.Tryz
open Go Go.VM
def putD (s : StD) (k : Nat) (t : ThD) : Option (List Int × ThD) → StD
  | some x => (x.1, s.2.set k x.2)
  | none => (s.1, s.2.set k (t.1, t.2.1, t.2.2.1, t.2.2.2.1, true))
theorem do_put (p : WkD) (b : Bool) (s : StD) (k : Nat) : doF (p, b) s ((k : Int), false) = putD s k (thAt s k) (stepF b s (thAt s k) (insIn (listAt (p, b) k) (thAt s k).1)) := by
  rw [do_false]
  show (match stepF b s (thAt s k) (insIn (listAt (p, b) k) (thAt s k).1) with | some x => (x.1, s.2.set k x.2) | none => (s.1, s.2.set k ((thAt s k).1, (thAt s k).2.1, (thAt s k).2.2.1, (thAt s k).2.2.2.1, true))) = _
  cases stepF b s (thAt s k) (insIn (listAt (p, b) k) (thAt s k).1) <;> rfl
end Go.Proofs.Tryz
set_option autoImplicit false
set_option linter.all false
namespace Go.Proofs.Tryz
open Go Go.VM
set_option maxRecDepth 100000
def S32 (H : LwF) : VM.Spec := ⟨[Wk], [.bool], fun x => H.pR x.1, fun x => (H.right x.1, ())⟩
def S33 (H : LwF) : VM.Spec := ⟨[Wk], [.sl En, .bool], fun x => H.pL x.1, fun x => ((H.list x.1).1, (H.list x.1).2, ())⟩
def n32 (L : Lv) (F : BxF) (G : AwF) (H : LwF) (p : WkD)  : VC :=
 let z1 := (Prod.fst p, Prod.fst (Prod.snd p), Prod.snd (Prod.snd p));
 let z2 := (LwF.right H p, ()); VC.obl (BxF.bwT F z1) (VC.br (BxF.thin F z1) (VC.obl (BxF.bw F z1) (VC.br (Lv.cmp L BinOp.eql (BxF.check F z1) 0) (VC.ok ((true, ()) = z2)) (VC.ok
   ((false, ()) = z2)))) (VC.ok ((false, ()) = z2)))
theorem n32_eq (L : Lv) (F : BxF) (G : AwF) (H : LwF) (p : WkD) : vcO L F [] [17, 22] 3 (D32 a0) (S32 H) (p, ()) = n32 L F G H p := by kernel_rfl
theorem n32_go (L : Lv) (F : BxF) (G : AwF) (H : LwF) (p : WkD) (h : VC.holds (n32 L F G H p)) : Holds (vcO L F [] [17, 22] 3 (D32 a0) (S32 H) (p, ())) := Holds.of_eq (n32_eq L F G H p) h
def rightF (p : WkD) : Bool := thinF p && decide (checkF p = 0)
theorem thin_bW {p : WkD} (h : thinF p = true) : bW p := by
  unfold thinF at h
  simp only [Bool.and_eq_true, Bool.not_eq_true', Bool.or_eq_false_iff, decide_eq_false_iff_not] at h
  obtain ⟨⟨⟨h1, _⟩, h2⟩, h3⟩ := h
  refine ⟨by omega, by omega, fun l hl => ?_⟩
  have := List.all_eq_true.1 h3 l hl
  unfold thinL at this
  simp only [Bool.not_eq_true', Bool.or_eq_false_iff, decide_eq_false_iff_not] at this
  omega
theorem ok32 (F : BxF) (G : AwF) (H : LwF) (h : H.right = rightF) (hp : H.pR = bwTF) (h1 : F.thin = thinF) (h2 : F.check = checkF) (q1 : F.bwT = bwTF) (q2 : F.bw = bW) (k1 : SpecOk prog 17 (S17 F)) (k2 : SpecOk prog 22 (S22 F)) : SpecOk prog 32 (S32 H) := by
  refine contract_by hm hE D32 fnok32 _ fun (z : WkD × Unit) hpre => ?_
  obtain ⟨p, ⟨⟩⟩ := z
  have hpre' : H.pR p := hpre
  rw [hp] at hpre'
  refine pack _ 3 a0 (only_tab (T := tabO [] (cT F)) (l := [17, 22]) (tb_cons (tb_sp k1 (by kernel_rfl)) (tb_cons (tb_sp k2 (by kernel_rfl)) tb_nil))) ?_
  refine n32_go Lv.std F G H p ?_
  simp only [n32, VC.holds, std_cmp, std_scmp, std_ar_add, std_ar_sub, std_ar_mul, std_ar, std_dv, std_shf, std_conv, std_mn, std_mx, std_beq, std_bnot, std_band, std_scat, std_byte, std_ext, std_slen, std_strOf, std_bytes, std_llen, std_get, std_setl, std_app, std_take, std_drop, std_rep, std_mhas, std_mval, std_mput, std_cast, std_toN, std_sub, std_add, std_inR, std_le3, std_leN, std_ltN, std_ne0, std_nonneg, std_catOk, std_room, std_mkOk, std_nth, std_cnt, cmp_lss_t, cmp_lss_f, cmp_leq_t, cmp_leq_f, cmp_gtr_t, cmp_gtr_f, cmp_geq_t, cmp_geq_f, cmp_eql_t, cmp_eql_f, cmp_neq_t, cmp_neq_f, scmp_eql_t, scmp_eql_f, scmp_neq_t, scmp_neq_f, dflt_int, dflt_bool, dflt_str, dflt_sl, dflt_pair, h, h1, h2, q1, q2, pe5, Prod.mk.injEq, and_true, true_and]
  refine ⟨hpre', fun ht => ⟨thin_bW ht, fun c => ?_, fun c => ?_⟩, fun ht => ?_⟩
  · rw [rightF, ht, decide_eq_true c]; rfl
  · rw [rightF, decide_eq_false c, Bool.and_false]
  · rw [rightF, ht]; rfl
end Go.Proofs.Tryz
set_option autoImplicit false
set_option linter.all false
namespace Go.Proofs.Tryz
open Go Go.VM
set_option maxRecDepth 100000
theorem right_ok {p : WkD} (h : rightF p = true) : bW p ∧ OkP p := by
  unfold rightF at h
  rw [Bool.and_eq_true, decide_eq_true_eq] at h
  exact ⟨thin_bW h.1, (okP_iff p).1 h.2⟩
end Go.Proofs.Tryz
set_option autoImplicit false
set_option linter.all false
namespace Go.Proofs.Tryz
open Go Go.VM
set_option maxRecDepth 100000
def S58 (H : LwF) : VM.Spec := ⟨[Tu], [.sl It], fun x => H.pPicks x.1, fun x => (H.picks x.1, ())⟩
def tuRF (l : List Int) : Prop := l.length ≤ 9223372036854775807 ∧ ∀ z ∈ l, 0 ≤ z ∧ z < 256
def LWT : VM.Spec := ⟨[Wk, Tu], [.bool], fun x => bwTF x.1 ∧ tuRF x.2.1, fun _ => (true, ())⟩
def a58 (L : Lv) (I : Ds [.sl It, It] → Prop) (mu : Ds [.sl It, It] → Nat) : Nat → LAnn
  | 0 => anH L [1, 3, 4] [] [.r 3 It, .s 4 It] I mu
  | _ => .no
def n58 (L : Lv) (F : BxF) (G : AwF) (H : LwF) (I : Ds [.sl It, It] → Prop) (mu : Ds [.sl It, It] → Nat) (l : List Int)  : VC :=
 let z1 := Ty.int IntKind.u8;
 let z2 := Lv.llen L z1 l;
 let z3 := (LwF.picks H l, ()); VC.obl (St.mk 27 [(1, V.c (C.ptr 1 0)), (3, V.c (C.own 3 0)), (4, V.c (C.int IntKind.i64 0))] [(0, Ob.amb), (1, Ob.box 93 [C.sl z1 l]), (3, Ob.row 3
   It [])] 4 = St.mk 27 [(1, V.c (C.ptr 1 0)), (3, V.c (C.own 3 (Lv.llen L It []))), (4, V.c (C.int IntKind.i64 0))] [(0, Ob.amb), (1, Ob.box 93 [C.sl z1 l]), (3, Ob.row 3 It [])]
   4) (VC.obl (I ([], 0, ())) (VC.all (List Int × Int × Unit) fun (v1 : List Int × Int × Unit) =>
 let z4 := Prod.fst (Prod.snd v1);
 let z5 := Prod.fst v1;
 let z6 := Lv.llen L It z5;
 let z7 := Lv.take L It z5 z6;
 let z8 := Lv.take L It [Lv.conv L IntKind.i64 (Lv.get L z1 l (Lv.toN L z4))] 1;
 let z9 := Lv.add L (Lv.llen L It z7) (Lv.llen L It z8);
 let z10 := Lv.ar L BinOp.add IntKind.i64 z4 1;
 let z11 := Lv.app L It z7 z8;
 let z12 := (Lv.app L It z7 z8, Lv.ar L BinOp.add IntKind.i64 z4 1, ());
 let z13 := (Lv.take L It z5 z6, ()); VC.imp (I v1) (VC.br (Lv.cmp L BinOp.lss z4 (Lv.cast L z2)) (VC.br (Lv.cmp L BinOp.lss z4 80) (VC.obl (Lv.inR L z4 z2) (VC.obl (Lv.room L z9 8)
   (VC.ok (St.mk 27 [(1, V.c (C.ptr 1 0)), (3, V.c (C.own 3 z9)), (4, V.c (C.int IntKind.i64 z10))] [(0, Ob.amb), (1, Ob.box 93 [C.sl z1 l]), (3, Ob.row 3 It z11)] 4 = St.mk 27 [(1,
   V.c (C.ptr 1 0)), (3, V.c (C.own 3 (Lv.llen L It z11))), (4, V.c (C.int IntKind.i64 z10))] [(0, Ob.amb), (1, Ob.box 93 [C.sl z1 l]), (3, Ob.row 3 It z11)] 4 ∧ I z12 ∧ mu z12 < mu
   v1)))) (VC.ok (z13 = z3))) (VC.ok (z13 = z3)))))
theorem n58_eq (L : Lv) (F : BxF) (G : AwF) (H : LwF) (I : Ds [.sl It, It] → Prop) (mu : Ds [.sl It, It] → Nat) (l : List Int) : vcO L F [] [] 3 (D58 (a58 L I mu)) (S58 H) (l, ()) = n58 L F G H I mu l := by kernel_rfl
theorem n58_go (L : Lv) (F : BxF) (G : AwF) (H : LwF) (I : Ds [.sl It, It] → Prop) (mu : Ds [.sl It, It] → Nat) (l : List Int) (h : VC.holds (n58 L F G H I mu l)) : Holds (vcO L F [] [] 3 (D58 (a58 L I mu)) (S58 H) (l, ())) := Holds.of_eq (n58_eq L F G H I mu l) h
def picksF (l : List Int) : List Int := (l.take 80).map fun z => IntKind.i64.wrap z
theorem ok58 (F : BxF) (G : AwF) (H : LwF) (h : H.picks = picksF) (hp : H.pPicks = fun l => l.length ≤ 9223372036854775807) : SpecOk prog 58 (S58 H) := by
  refine contract_by hm hE D58 fnok58 _ fun (z : List Int × Unit) hpre => ?_
  obtain ⟨l, ⟨⟩⟩ := z
  have hpre' : H.pPicks l := hpre
  rw [hp] at hpre'
  let I : List Int × Int × Unit → Prop := fun x => (0 ≤ x.2.1 ∧ x.2.1 ≤ 80 ∧ x.2.1 ≤ l.length) ∧ x.1 = (l.take x.2.1.toNat).map fun z => IntKind.i64.wrap z
  let mu : List Int × Int × Unit → Nat := fun x => (80 - x.2.1).toNat
  refine pack _ 3 (a58 Lv.std I mu) (only_tab (T := tabO [] (cT F)) (l := []) tb_nil) ?_
  refine n58_go Lv.std F G H I mu l ?_
  have e1 : ∀ (l : List Int) (k : Int), Lv.std.get U8 l k.toNat = (l[k.toNat]?).getD 0 := fun _ _ => rfl
  simp only [n58, VC.holds, std_cmp, std_cast, std_llen, std_toN, e1, std_inR, std_ar_add, std_app, std_take, std_add, std_room, std_conv, cmp_lss_t, cmp_lss_f, h, pe5, Prod.mk.injEq, and_true, true_and]
  simp only [List.take_length, List.take_succ_cons, List.take_zero, List.length_append, List.length_cons, List.length_nil, Nat.zero_add]
  refine ⟨trivial, ⟨⟨Int.le_refl 0, by decide, by show (0 : Int) ≤ l.length; omega⟩, rfl⟩, ?_⟩
  rintro ⟨o, x, ⟨⟩⟩ ⟨⟨i1, i2, i3⟩, i4⟩
  simp only at i1 i2 i3 i4 ⊢
  obtain ⟨k, rfl⟩ := nat_of i1
  rw [Int.toNat_natCast] at i4 ⊢
  have hol : o.length = k := by rw [i4, List.length_map, List.length_take]; omega
  refine ⟨fun hlt => ⟨fun h80 => ⟨⟨i1, hlt⟩, ⟨by omega, by omega⟩, trivial, ?_⟩, fun h80 => ?_⟩, fun hge => ?_⟩
  · have hk : k < l.length := by omega
    rw [wrap_i64 (show -9223372036854775808 ≤ (k : Int) + 1 by omega) (by omega)]
    refine ⟨⟨⟨by show (0 : Int) ≤ (k : Int) + 1; omega, by show (k : Int) + 1 ≤ 80; omega, by show (k : Int) + 1 ≤ l.length; omega⟩, ?_⟩, by show (80 - ((k : Int) + 1)).toNat < (80 - (k : Int)).toNat; omega⟩
    show o ++ [IntKind.i64.wrap ((l[k]?).getD 0)] = (l.take ((k : Int) + 1).toNat).map fun z => IntKind.i64.wrap z
    rw [show ((k : Int) + 1).toNat = k + 1 by omega, List.take_succ, List.getElem?_eq_getElem hk, i4, List.map_append]; rfl
  · rw [i4, picksF, show k = 80 by omega]
  · have hl80 : l.length ≤ 80 := by omega
    rw [i4, picksF, show k = l.length by omega, List.take_length, List.take_of_length_le hl80]
theorem picks_nat {l : List Int} (h : tuRF l) : ∀ x ∈ picksF l, 0 ≤ x := fun x hx => by
  unfold picksF at hx
  obtain ⟨z, hz, rfl⟩ := List.mem_map.1 hx
  have := h.2 z (List.mem_of_mem_take hz)
  rw [wrap_i64 (by omega) (by omega)]; exact this.1
end Go.Proofs.Tryz
set_option autoImplicit false
set_option linter.all false
namespace Go.Proofs.Tryz
open Go Go.VM
set_option maxRecDepth 100000
structure CmF where
  pCame : WkD → StD → StD → MvD → List Int → List Int → Prop
def S59 (C : CmF) : VM.Spec := ⟨[Wk, Sta, Sta, Mv, .sl It, .sl It], [.bool], fun x => C.pCame x.1 x.2.1 x.2.2.1 x.2.2.2.1 x.2.2.2.2.1 x.2.2.2.2.2.1, fun _ => (true, ())⟩
noncomputable def oC (G : AwF) (H : LwF) (C : CmF) : List (Nat × FT) := [(18, .spec (S18 G)), (32, .spec (S32 H)), (33, .spec (S33 H)), (58, .spec (S58 H)), (59, .spec (S59 C))]
def a16 (L : Lv) (I : Ds [.sl It, .sl Th, It] → Prop) (mu : Ds [.sl It, .sl Th, It] → Nat) (I2 : Ds [It] → Prop) (m2 : Ds [It] → Nat) (I4 : Ds [It] → Prop) (m4 : Ds [It] → Nat) : Nat → LAnn
  | 0 => anH L [2, 5, 6, 7, 8] [] [.b 5 0 (.sl It), .b 5 1 (.sl Th), .s 8 It] I mu
  | 2 => anH L [2, 5, 6, 7, 8, 11, 13] [] [.s 13 It] I2 m2
  | 4 => anH L [2, 16, 19] [] [.s 19 It] I4 m4
  | _ => .no
def n16 (L : Lv) (F : BxF) (G : AwF) (H : LwF) (C : CmF) (I : Ds [.sl It, .sl Th, It] → Prop) (mu : Ds [.sl It, .sl Th, It] → Nat) (I2 : Ds [It] → Prop) (m2 : Ds [It] → Nat) (I4 : Ds [It] → Prop) (m4 : Ds [It] → Nat) (p : WkD) (l : List Int)  : VC :=
 let z1 := Prod.snd p;
 let z2 := (Prod.fst p, Prod.fst z1, Prod.snd z1);
 let z3 := BxF.bw F z2;
 let z4 := VM.C.ptr 1 0;
 let z5 := VM.C.ptr 3 0;
 let z6 := BxF.begE F z2;
 let z7 := Prod.snd z6;
 let z8 := VM.C.int IntKind.i64 z7;
 let z9 := LwF.picks H l;
 let z10 := VM.C.sl It z9;
 let z11 := VM.C.int IntKind.i64 0;
 let z12 := Prod.fst p;
 let z13 := Prod.fst z1;
 let z14 := Prod.snd z1;
 let z15 := Ty.int IntKind.u8;
 let z16 := Prod.fst z6;
 let z17 := Prod.fst z16;
 let z18 := Prod.snd z16;
 let z19 := Int × List Int × List (Int × Int) × List Int × Bool;
 let z20 := Lv.llen L It z9;
 let z21 := Lv.cmp L BinOp.eql z7 0;
 let z22 := BxF.pRunR F z2 z9;
 let z23 := BxF.runE F z2 z9;
 let z24 := Prod.snd z23;
 let z25 := Prod.snd z24;
 let z26 := Lv.cmp L BinOp.eql z25 5;
 let z27 := Lv.cmp L BinOp.neq z7 0;
 let z28 := Lv.cmp L BinOp.neq z25 0;
 let z29 := Lv.cmp L BinOp.lss (Prod.fst z24) 0;
 let z30 := Prod.fst z23;
 let z31 := (Prod.fst z30, Prod.snd z30);
 let z32 := BxF.pSt F z2 z31;
 let z33 := BxF.isSt F z2 z31;
 let z34 := VM.C.ptr 4 0;
 let z35 := Prod.fst z30;
 let z36 := Prod.snd z30;
 let z37 := Int × Unit;
 let z38 := Lv.llen L Th z36;
 let z39 := Lv.cast L z38;
 let z40 := Lv.llen L (Ty.sl In) z13;
 let z41 := Lv.toN L (Lv.cast L 0); VC.obl (LwF.pR H z2) (VC.br (LwF.right H z2) (VC.obl z3 (VC.obl z3 (VC.obl (LwF.pPicks H l) (VC.obl (St.mk 203 [(2, V.c z4), (5, V.c z5), (6, V.c
   z8), (7, V.c z10), (8, V.c z11)] [(0, Ob.amb), (1, Ob.box 25 [VM.C.sl It z12, VM.C.sl (Ty.sl In) z13, VM.C.int IntKind.i64 z14]), (2, Ob.box 93 [VM.C.sl z15 l]), (3, Ob.box 59
   [VM.C.sl It z17, VM.C.sl Th z18])] 4 = St.mk 203 [(2, V.c z4), (5, V.c z5), (6, V.c z8), (7, V.c z10), (8, V.c z11)] [(0, Ob.amb), (1, Ob.box 25 [VM.C.sl It z12, VM.C.sl (Ty.sl
   In) z13, VM.C.int IntKind.i64 z14]), (2, Ob.box 93 [VM.C.sl z15 l]), (3, Ob.box 59 [VM.C.sl It z17, VM.C.sl Th z18])] 4) (VC.obl (I (Prod.fst z16, Prod.snd z16, 0, ())) (VC.all
   (List Int × List z19 × Int × Unit) fun (v1 : List Int × List (Int × List Int × List (Int × Int) × List Int × Bool) × Int × Unit) =>
 let z42 := Prod.snd v1;
 let z43 := Prod.fst (Prod.snd z42);
 let z44 := (Prod.fst v1, Prod.fst z42);
 let z45 := BxF.bs F z44;
 let z46 := BxF.pSt F z2 z44;
 let z47 := BxF.mvE F z2 z44;
 let z48 := Prod.fst v1;
 let z49 := Prod.fst z42;
 let z50 := Prod.fst z47;
 let z51 := Lv.llen L Mv z50;
 let z52 := Lv.cast L z51;
 let z53 := Lv.dv L BinOp.rem IntKind.i64 (Lv.get L It z9 (Lv.toN L z43)) z52;
 let z54 := Lv.get L Mv z50 (Lv.toN L z53);
 let z55 := (BxF.doE F z2 z44 (Prod.fst z54, Prod.snd z54));
 let z56 := Prod.fst z55;
 let z57 := (Prod.fst z56, Prod.snd z56);
 let z58 := BxF.pSt F z2 z57;
 let z59 := VM.C.int IntKind.i64 z43;
 let z60 := Prod.fst z56;
 let z61 := Prod.snd z56;
 let z62 := Lv.llen L Th z49;
 let z63 := VM.C.int IntKind.i64 (Lv.ar L BinOp.add IntKind.i64 z43 1);
 let z64 := (Prod.fst z56, Prod.snd z56, Lv.ar L BinOp.add IntKind.i64 z43 1, ()); VC.imp (I v1) (VC.br (Lv.cmp L BinOp.lss z43 (Lv.cast L z20)) (VC.br z21 (VC.obl z3 (VC.obl z45
   (VC.obl z46 (VC.br (Lv.cmp L BinOp.neq (Prod.snd z47) 0) (VC.obl z3 (VC.obl z22 (VC.br z26 (VC.br z21 (VC.obl True (VC.br (AwF.aw G) (VC.ok ((true, ()) = (true, ()))) (VC.ok
   ((false, ()) = (true, ()))))) (VC.ok ((false, ()) = (true, ())))) (VC.br z27 (VC.ok ((false, ()) = (true, ()))) (VC.br z28 (VC.ok ((false, ()) = (true, ()))) (VC.br z29 (VC.ok
   ((false, ()) = (true, ()))) (VC.obl z32 (VC.br z33 (VC.obl (St.mk 203 [(2, V.c z4), (16, V.c z34), (19, V.c z11)] [(0, Ob.amb), (1, Ob.box 25 [VM.C.sl It z12, VM.C.sl (Ty.sl In)
   z13, VM.C.int IntKind.i64 z14]), (2, Ob.box 93 [VM.C.sl z15 l]), (3, Ob.box 59 [VM.C.sl It z48, VM.C.sl Th z49]), (4, Ob.box 59 [VM.C.sl It z35, VM.C.sl Th z36])] 5 = St.mk 203
   [(2, V.c z4), (16, V.c z34), (19, V.c z11)] [(0, Ob.amb), (1, Ob.box 25 [VM.C.sl It z12, VM.C.sl (Ty.sl In) z13, VM.C.int IntKind.i64 z14]), (2, Ob.box 93 [VM.C.sl z15 l]), (3,
   Ob.box 59 [VM.C.sl It z48, VM.C.sl Th z49]), (4, Ob.box 59 [VM.C.sl It z35, VM.C.sl Th z36])] 5) (VC.obl (I4 (0, ())) (VC.all z37 fun (v2 : Int × Unit) =>
 let z65 := Prod.fst v2;
 let z66 := Lv.toN L z65;
 let z67 := Lv.get L Th z36 z66;
 let z68 := Prod.snd (Prod.snd z67);
 let z69 := VM.C.int IntKind.i64 (Lv.ar L BinOp.add IntKind.i64 z65 1);
 let z70 := (Lv.ar L BinOp.add IntKind.i64 z65 1, ());
 let z71 := Lv.inR L z65 z40;
 let z72 := Prod.fst z67;
 let z73 := Lv.get L (Ty.sl In) z13 z66;
 let z74 := Lv.llen L In z73; VC.imp (I4 v2) (VC.br (Lv.cmp L BinOp.lss z65 z39) (VC.obl (Lv.inR L z65 z38) (VC.br (Lv.cmp L BinOp.gtr (Lv.cast L (Lv.llen L Kp (Prod.fst z68))) 0)
   (VC.ok ((false, ()) = (true, ()))) (VC.br (Prod.snd (Prod.snd z68)) (VC.ok (St.mk 203 [(2, V.c z4), (16, V.c z34), (19, V.c z69)] [(0, Ob.amb), (1, Ob.box 25 [VM.C.sl It z12,
   VM.C.sl (Ty.sl In) z13, VM.C.int IntKind.i64 z14]), (2, Ob.box 93 [VM.C.sl z15 l]), (3, Ob.box 59 [VM.C.sl It z48, VM.C.sl Th z49]), (4, Ob.box 59 [VM.C.sl It z35, VM.C.sl Th
   z36])] 5 = St.mk 203 [(2, V.c z4), (16, V.c z34), (19, V.c z69)] [(0, Ob.amb), (1, Ob.box 25 [VM.C.sl It z12, VM.C.sl (Ty.sl In) z13, VM.C.int IntKind.i64 z14]), (2, Ob.box 93
   [VM.C.sl z15 l]), (3, Ob.box 59 [VM.C.sl It z48, VM.C.sl Th z49]), (4, Ob.box 59 [VM.C.sl It z35, VM.C.sl Th z36])] 5 ∧ I4 z70 ∧ m4 z70 < m4 v2)) (VC.obl z71 (VC.br (Lv.cmp L
   BinOp.lss z72 (Lv.cast L z74)) (VC.obl z71 (VC.obl (Lv.inR L z72 z74) (VC.br (Lv.cmp L BinOp.neq (Prod.fst (Lv.get L In z73 (Lv.toN L z72))) 12) (VC.ok ((false, ()) = (true,
   ()))) (VC.ok (St.mk 203 [(2, V.c z4), (16, V.c z34), (19, V.c z69)] [(0, Ob.amb), (1, Ob.box 25 [VM.C.sl It z12, VM.C.sl (Ty.sl In) z13, VM.C.int IntKind.i64 z14]), (2, Ob.box 93
   [VM.C.sl z15 l]), (3, Ob.box 59 [VM.C.sl It z48, VM.C.sl Th z49]), (4, Ob.box 59 [VM.C.sl It z35, VM.C.sl Th z36])] 5 = St.mk 203 [(2, V.c z4), (16, V.c z34), (19, V.c z69)] [(0,
   Ob.amb), (1, Ob.box 25 [VM.C.sl It z12, VM.C.sl (Ty.sl In) z13, VM.C.int IntKind.i64 z14]), (2, Ob.box 93 [VM.C.sl z15 l]), (3, Ob.box 59 [VM.C.sl It z48, VM.C.sl Th z49]), (4,
   Ob.box 59 [VM.C.sl It z35, VM.C.sl Th z36])] 5 ∧ I4 z70 ∧ m4 z70 < m4 v2))))) (VC.ok (St.mk 203 [(2, V.c z4), (16, V.c z34), (19, V.c z69)] [(0, Ob.amb), (1, Ob.box 25 [VM.C.sl
   It z12, VM.C.sl (Ty.sl In) z13, VM.C.int IntKind.i64 z14]), (2, Ob.box 93 [VM.C.sl z15 l]), (3, Ob.box 59 [VM.C.sl It z48, VM.C.sl Th z49]), (4, Ob.box 59 [VM.C.sl It z35,
   VM.C.sl Th z36])] 5 = St.mk 203 [(2, V.c z4), (16, V.c z34), (19, V.c z69)] [(0, Ob.amb), (1, Ob.box 25 [VM.C.sl It z12, VM.C.sl (Ty.sl In) z13, VM.C.int IntKind.i64 z14]), (2,
   Ob.box 93 [VM.C.sl z15 l]), (3, Ob.box 59 [VM.C.sl It z48, VM.C.sl Th z49]), (4, Ob.box 59 [VM.C.sl It z35, VM.C.sl Th z36])] 5 ∧ I4 z70 ∧ m4 z70 < m4 v2))))))) (VC.obl True
   (VC.br (AwF.aw G) (VC.ok ((true, ()) = (true, ()))) (VC.ok ((false, ()) = (true, ()))))))))) (VC.ok ((false, ()) = (true, ()))))))))))) (VC.br (Lv.cmp L BinOp.eql z52 0) (VC.obl
   z3 (VC.obl z22 (VC.br z26 (VC.br z21 (VC.obl True (VC.br (AwF.aw G) (VC.ok ((true, ()) = (true, ()))) (VC.ok ((false, ()) = (true, ()))))) (VC.ok ((false, ()) = (true, ()))))
   (VC.br z27 (VC.ok ((false, ()) = (true, ()))) (VC.br z28 (VC.ok ((false, ()) = (true, ()))) (VC.br z29 (VC.ok ((false, ()) = (true, ()))) (VC.obl z32 (VC.br z33 (VC.obl (St.mk
   203 [(2, V.c z4), (16, V.c z34), (19, V.c z11)] [(0, Ob.amb), (1, Ob.box 25 [VM.C.sl It z12, VM.C.sl (Ty.sl In) z13, VM.C.int IntKind.i64 z14]), (2, Ob.box 93 [VM.C.sl z15 l]),
   (3, Ob.box 59 [VM.C.sl It z48, VM.C.sl Th z49]), (4, Ob.box 59 [VM.C.sl It z35, VM.C.sl Th z36])] 5 = St.mk 203 [(2, V.c z4), (16, V.c z34), (19, V.c z11)] [(0, Ob.amb), (1,
   Ob.box 25 [VM.C.sl It z12, VM.C.sl (Ty.sl In) z13, VM.C.int IntKind.i64 z14]), (2, Ob.box 93 [VM.C.sl z15 l]), (3, Ob.box 59 [VM.C.sl It z48, VM.C.sl Th z49]), (4, Ob.box 59
   [VM.C.sl It z35, VM.C.sl Th z36])] 5) (VC.obl (I4 (0, ())) (VC.all z37 fun (v3 : Int × Unit) =>
 let z75 := Prod.fst v3;
 let z76 := Lv.toN L z75;
 let z77 := Lv.get L Th z36 z76;
 let z78 := Prod.snd (Prod.snd z77);
 let z79 := VM.C.int IntKind.i64 (Lv.ar L BinOp.add IntKind.i64 z75 1);
 let z80 := (Lv.ar L BinOp.add IntKind.i64 z75 1, ());
 let z81 := Lv.inR L z75 z40;
 let z82 := Prod.fst z77;
 let z83 := Lv.get L (Ty.sl In) z13 z76;
 let z84 := Lv.llen L In z83; VC.imp (I4 v3) (VC.br (Lv.cmp L BinOp.lss z75 z39) (VC.obl (Lv.inR L z75 z38) (VC.br (Lv.cmp L BinOp.gtr (Lv.cast L (Lv.llen L Kp (Prod.fst z78))) 0)
   (VC.ok ((false, ()) = (true, ()))) (VC.br (Prod.snd (Prod.snd z78)) (VC.ok (St.mk 203 [(2, V.c z4), (16, V.c z34), (19, V.c z79)] [(0, Ob.amb), (1, Ob.box 25 [VM.C.sl It z12,
   VM.C.sl (Ty.sl In) z13, VM.C.int IntKind.i64 z14]), (2, Ob.box 93 [VM.C.sl z15 l]), (3, Ob.box 59 [VM.C.sl It z48, VM.C.sl Th z49]), (4, Ob.box 59 [VM.C.sl It z35, VM.C.sl Th
   z36])] 5 = St.mk 203 [(2, V.c z4), (16, V.c z34), (19, V.c z79)] [(0, Ob.amb), (1, Ob.box 25 [VM.C.sl It z12, VM.C.sl (Ty.sl In) z13, VM.C.int IntKind.i64 z14]), (2, Ob.box 93
   [VM.C.sl z15 l]), (3, Ob.box 59 [VM.C.sl It z48, VM.C.sl Th z49]), (4, Ob.box 59 [VM.C.sl It z35, VM.C.sl Th z36])] 5 ∧ I4 z80 ∧ m4 z80 < m4 v3)) (VC.obl z81 (VC.br (Lv.cmp L
   BinOp.lss z82 (Lv.cast L z84)) (VC.obl z81 (VC.obl (Lv.inR L z82 z84) (VC.br (Lv.cmp L BinOp.neq (Prod.fst (Lv.get L In z83 (Lv.toN L z82))) 12) (VC.ok ((false, ()) = (true,
   ()))) (VC.ok (St.mk 203 [(2, V.c z4), (16, V.c z34), (19, V.c z79)] [(0, Ob.amb), (1, Ob.box 25 [VM.C.sl It z12, VM.C.sl (Ty.sl In) z13, VM.C.int IntKind.i64 z14]), (2, Ob.box 93
   [VM.C.sl z15 l]), (3, Ob.box 59 [VM.C.sl It z48, VM.C.sl Th z49]), (4, Ob.box 59 [VM.C.sl It z35, VM.C.sl Th z36])] 5 = St.mk 203 [(2, V.c z4), (16, V.c z34), (19, V.c z79)] [(0,
   Ob.amb), (1, Ob.box 25 [VM.C.sl It z12, VM.C.sl (Ty.sl In) z13, VM.C.int IntKind.i64 z14]), (2, Ob.box 93 [VM.C.sl z15 l]), (3, Ob.box 59 [VM.C.sl It z48, VM.C.sl Th z49]), (4,
   Ob.box 59 [VM.C.sl It z35, VM.C.sl Th z36])] 5 ∧ I4 z80 ∧ m4 z80 < m4 v3))))) (VC.ok (St.mk 203 [(2, V.c z4), (16, V.c z34), (19, V.c z79)] [(0, Ob.amb), (1, Ob.box 25 [VM.C.sl
   It z12, VM.C.sl (Ty.sl In) z13, VM.C.int IntKind.i64 z14]), (2, Ob.box 93 [VM.C.sl z15 l]), (3, Ob.box 59 [VM.C.sl It z48, VM.C.sl Th z49]), (4, Ob.box 59 [VM.C.sl It z35,
   VM.C.sl Th z36])] 5 = St.mk 203 [(2, V.c z4), (16, V.c z34), (19, V.c z79)] [(0, Ob.amb), (1, Ob.box 25 [VM.C.sl It z12, VM.C.sl (Ty.sl In) z13, VM.C.int IntKind.i64 z14]), (2,
   Ob.box 93 [VM.C.sl z15 l]), (3, Ob.box 59 [VM.C.sl It z48, VM.C.sl Th z49]), (4, Ob.box 59 [VM.C.sl It z35, VM.C.sl Th z36])] 5 ∧ I4 z80 ∧ m4 z80 < m4 v3))))))) (VC.obl True
   (VC.br (AwF.aw G) (VC.ok ((true, ()) = (true, ()))) (VC.ok ((false, ()) = (true, ()))))))))) (VC.ok ((false, ()) = (true, ()))))))))))) (VC.obl z3 (VC.obl z45 (VC.obl (Lv.inR L
   z43 z20) (VC.obl (Lv.ne0 L z52) (VC.obl (Lv.inR L z53 z51) (VC.obl z46 (VC.br (Lv.cmp L BinOp.neq (Prod.snd z55) 0) (VC.ok ((false, ()) = (true, ()))) (VC.obl z3 (VC.obl (BxF.bs
   F z57) (VC.obl z58 (VC.br (Lv.cmp L BinOp.neq (BxF.ckSt F z2 z57) 0) (VC.ok ((false, ()) = (true, ()))) (VC.obl z58 (VC.br (BxF.isSt F z2 z57) (VC.obl (St.mk 203 [(2, V.c z4),
   (5, V.c z5), (6, V.c z8), (7, V.c z10), (8, V.c z59), (11, V.c z34), (13, V.c z11)] [(0, Ob.amb), (1, Ob.box 25 [VM.C.sl It z12, VM.C.sl (Ty.sl In) z13, VM.C.int IntKind.i64
   z14]), (2, Ob.box 93 [VM.C.sl z15 l]), (3, Ob.box 59 [VM.C.sl It z48, VM.C.sl Th z49]), (4, Ob.box 59 [VM.C.sl It z60, VM.C.sl Th z61])] 5 = St.mk 203 [(2, V.c z4), (5, V.c z5),
   (6, V.c z8), (7, V.c z10), (8, V.c z59), (11, V.c z34), (13, V.c z11)] [(0, Ob.amb), (1, Ob.box 25 [VM.C.sl It z12, VM.C.sl (Ty.sl In) z13, VM.C.int IntKind.i64 z14]), (2, Ob.box
   93 [VM.C.sl z15 l]), (3, Ob.box 59 [VM.C.sl It z48, VM.C.sl Th z49]), (4, Ob.box 59 [VM.C.sl It z60, VM.C.sl Th z61])] 5) (VC.obl (I2 (0, ())) (VC.all z37 fun (v4 : Int × Unit)
   =>
 let z85 := Prod.fst v4;
 let z86 := Lv.toN L z85;
 let z87 := Prod.fst (Prod.snd (Prod.snd (Prod.snd (Lv.get L Th z49 z86))));
 let z88 := Lv.cast L (Lv.llen L It z87);
 let z89 := Prod.fst (Prod.snd (Prod.snd (Prod.snd (Lv.get L Th z61 z86))));
 let z90 := Lv.llen L It z89;
 let z91 := Lv.drop L It (Lv.take L It z89 (Lv.toN L z88)) z41;
 let z92 := VM.C.int IntKind.i64 (Lv.ar L BinOp.add IntKind.i64 z85 1);
 let z93 := (Lv.ar L BinOp.add IntKind.i64 z85 1, ()); VC.imp (I2 v4) (VC.br (Lv.cmp L BinOp.lss z85 (Lv.cast L z62)) (VC.obl (Lv.inR L z85 z62) (VC.obl (Lv.inR L z85 (Lv.llen L Th
   z61)) (VC.br (Lv.cmp L BinOp.gtr z88 (Lv.cast L z90)) (VC.ok ((false, ()) = (true, ()))) (VC.obl (Lv.le3 L (Lv.cast L 0) z88 z90) (VC.obl (BxF.bl F z87 ∧ BxF.bl F z91) (VC.br
   (BxF.sameL F z87 z91) (VC.ok (St.mk 203 [(2, V.c z4), (5, V.c z5), (6, V.c z8), (7, V.c z10), (8, V.c z59), (11, V.c z34), (13, V.c z92)] [(0, Ob.amb), (1, Ob.box 25 [VM.C.sl It
   z12, VM.C.sl (Ty.sl In) z13, VM.C.int IntKind.i64 z14]), (2, Ob.box 93 [VM.C.sl z15 l]), (3, Ob.box 59 [VM.C.sl It z48, VM.C.sl Th z49]), (4, Ob.box 59 [VM.C.sl It z60, VM.C.sl
   Th z61])] 5 = St.mk 203 [(2, V.c z4), (5, V.c z5), (6, V.c z8), (7, V.c z10), (8, V.c z59), (11, V.c z34), (13, V.c z92)] [(0, Ob.amb), (1, Ob.box 25 [VM.C.sl It z12, VM.C.sl
   (Ty.sl In) z13, VM.C.int IntKind.i64 z14]), (2, Ob.box 93 [VM.C.sl z15 l]), (3, Ob.box 59 [VM.C.sl It z48, VM.C.sl Th z49]), (4, Ob.box 59 [VM.C.sl It z60, VM.C.sl Th z61])] 5 ∧
   I2 z93 ∧ m2 z93 < m2 v4)) (VC.ok ((false, ()) = (true, ()))))))))) (VC.ok (St.mk 203 [(2, V.c z4), (5, V.c z5), (6, V.c z8), (7, V.c z10), (8, V.c z63)] [(0, Ob.amb), (1, Ob.box
   25 [VM.C.sl It z12, VM.C.sl (Ty.sl In) z13, VM.C.int IntKind.i64 z14]), (2, Ob.box 93 [VM.C.sl z15 l]), (3, Ob.box 59 [VM.C.sl It z60, VM.C.sl Th z61])] 4 = St.mk 203 [(2, V.c
   z4), (5, V.c z5), (6, V.c z8), (7, V.c z10), (8, V.c z63)] [(0, Ob.amb), (1, Ob.box 25 [VM.C.sl It z12, VM.C.sl (Ty.sl In) z13, VM.C.int IntKind.i64 z14]), (2, Ob.box 93 [VM.C.sl
   z15 l]), (3, Ob.box 59 [VM.C.sl It z60, VM.C.sl Th z61])] 4 ∧ I z64 ∧ mu z64 < mu v1)))))) (VC.ok ((false, ()) = (true, ()))))))))))))))))))))) (VC.obl z3 (VC.obl z22 (VC.br z26
   (VC.br z21 (VC.obl True (VC.br (AwF.aw G) (VC.ok ((true, ()) = (true, ()))) (VC.ok ((false, ()) = (true, ()))))) (VC.ok ((false, ()) = (true, ())))) (VC.br z27 (VC.ok ((false,
   ()) = (true, ()))) (VC.br z28 (VC.ok ((false, ()) = (true, ()))) (VC.br z29 (VC.ok ((false, ()) = (true, ()))) (VC.obl z32 (VC.br z33 (VC.obl (St.mk 203 [(2, V.c z4), (16, V.c
   z34), (19, V.c z11)] [(0, Ob.amb), (1, Ob.box 25 [VM.C.sl It z12, VM.C.sl (Ty.sl In) z13, VM.C.int IntKind.i64 z14]), (2, Ob.box 93 [VM.C.sl z15 l]), (3, Ob.box 59 [VM.C.sl It
   z48, VM.C.sl Th z49]), (4, Ob.box 59 [VM.C.sl It z35, VM.C.sl Th z36])] 5 = St.mk 203 [(2, V.c z4), (16, V.c z34), (19, V.c z11)] [(0, Ob.amb), (1, Ob.box 25 [VM.C.sl It z12,
   VM.C.sl (Ty.sl In) z13, VM.C.int IntKind.i64 z14]), (2, Ob.box 93 [VM.C.sl z15 l]), (3, Ob.box 59 [VM.C.sl It z48, VM.C.sl Th z49]), (4, Ob.box 59 [VM.C.sl It z35, VM.C.sl Th
   z36])] 5) (VC.obl (I4 (0, ())) (VC.all z37 fun (v5 : Int × Unit) =>
 let z94 := Prod.fst v5;
 let z95 := Lv.toN L z94;
 let z96 := Lv.get L Th z36 z95;
 let z97 := Prod.snd (Prod.snd z96);
 let z98 := VM.C.int IntKind.i64 (Lv.ar L BinOp.add IntKind.i64 z94 1);
 let z99 := (Lv.ar L BinOp.add IntKind.i64 z94 1, ());
 let z100 := Lv.inR L z94 z40;
 let z101 := Prod.fst z96;
 let z102 := Lv.get L (Ty.sl In) z13 z95;
 let z103 := Lv.llen L In z102; VC.imp (I4 v5) (VC.br (Lv.cmp L BinOp.lss z94 z39) (VC.obl (Lv.inR L z94 z38) (VC.br (Lv.cmp L BinOp.gtr (Lv.cast L (Lv.llen L Kp (Prod.fst z97))) 0)
   (VC.ok ((false, ()) = (true, ()))) (VC.br (Prod.snd (Prod.snd z97)) (VC.ok (St.mk 203 [(2, V.c z4), (16, V.c z34), (19, V.c z98)] [(0, Ob.amb), (1, Ob.box 25 [VM.C.sl It z12,
   VM.C.sl (Ty.sl In) z13, VM.C.int IntKind.i64 z14]), (2, Ob.box 93 [VM.C.sl z15 l]), (3, Ob.box 59 [VM.C.sl It z48, VM.C.sl Th z49]), (4, Ob.box 59 [VM.C.sl It z35, VM.C.sl Th
   z36])] 5 = St.mk 203 [(2, V.c z4), (16, V.c z34), (19, V.c z98)] [(0, Ob.amb), (1, Ob.box 25 [VM.C.sl It z12, VM.C.sl (Ty.sl In) z13, VM.C.int IntKind.i64 z14]), (2, Ob.box 93
   [VM.C.sl z15 l]), (3, Ob.box 59 [VM.C.sl It z48, VM.C.sl Th z49]), (4, Ob.box 59 [VM.C.sl It z35, VM.C.sl Th z36])] 5 ∧ I4 z99 ∧ m4 z99 < m4 v5)) (VC.obl z100 (VC.br (Lv.cmp L
   BinOp.lss z101 (Lv.cast L z103)) (VC.obl z100 (VC.obl (Lv.inR L z101 z103) (VC.br (Lv.cmp L BinOp.neq (Prod.fst (Lv.get L In z102 (Lv.toN L z101))) 12) (VC.ok ((false, ()) =
   (true, ()))) (VC.ok (St.mk 203 [(2, V.c z4), (16, V.c z34), (19, V.c z98)] [(0, Ob.amb), (1, Ob.box 25 [VM.C.sl It z12, VM.C.sl (Ty.sl In) z13, VM.C.int IntKind.i64 z14]), (2,
   Ob.box 93 [VM.C.sl z15 l]), (3, Ob.box 59 [VM.C.sl It z48, VM.C.sl Th z49]), (4, Ob.box 59 [VM.C.sl It z35, VM.C.sl Th z36])] 5 = St.mk 203 [(2, V.c z4), (16, V.c z34), (19, V.c
   z98)] [(0, Ob.amb), (1, Ob.box 25 [VM.C.sl It z12, VM.C.sl (Ty.sl In) z13, VM.C.int IntKind.i64 z14]), (2, Ob.box 93 [VM.C.sl z15 l]), (3, Ob.box 59 [VM.C.sl It z48, VM.C.sl Th
   z49]), (4, Ob.box 59 [VM.C.sl It z35, VM.C.sl Th z36])] 5 ∧ I4 z99 ∧ m4 z99 < m4 v5))))) (VC.ok (St.mk 203 [(2, V.c z4), (16, V.c z34), (19, V.c z98)] [(0, Ob.amb), (1, Ob.box 25
   [VM.C.sl It z12, VM.C.sl (Ty.sl In) z13, VM.C.int IntKind.i64 z14]), (2, Ob.box 93 [VM.C.sl z15 l]), (3, Ob.box 59 [VM.C.sl It z48, VM.C.sl Th z49]), (4, Ob.box 59 [VM.C.sl It
   z35, VM.C.sl Th z36])] 5 = St.mk 203 [(2, V.c z4), (16, V.c z34), (19, V.c z98)] [(0, Ob.amb), (1, Ob.box 25 [VM.C.sl It z12, VM.C.sl (Ty.sl In) z13, VM.C.int IntKind.i64 z14]),
   (2, Ob.box 93 [VM.C.sl z15 l]), (3, Ob.box 59 [VM.C.sl It z48, VM.C.sl Th z49]), (4, Ob.box 59 [VM.C.sl It z35, VM.C.sl Th z36])] 5 ∧ I4 z99 ∧ m4 z99 < m4 v5))))))) (VC.obl True
   (VC.br (AwF.aw G) (VC.ok ((true, ()) = (true, ()))) (VC.ok ((false, ()) = (true, ()))))))))) (VC.ok ((false, ()) = (true, ())))))))))))) (VC.obl z3 (VC.obl z22 (VC.br z26 (VC.br
   z21 (VC.obl True (VC.br (AwF.aw G) (VC.ok ((true, ()) = (true, ()))) (VC.ok ((false, ()) = (true, ()))))) (VC.ok ((false, ()) = (true, ())))) (VC.br z27 (VC.ok ((false, ()) =
   (true, ()))) (VC.br z28 (VC.ok ((false, ()) = (true, ()))) (VC.br z29 (VC.ok ((false, ()) = (true, ()))) (VC.obl z32 (VC.br z33 (VC.obl (St.mk 203 [(2, V.c z4), (16, V.c z34),
   (19, V.c z11)] [(0, Ob.amb), (1, Ob.box 25 [VM.C.sl It z12, VM.C.sl (Ty.sl In) z13, VM.C.int IntKind.i64 z14]), (2, Ob.box 93 [VM.C.sl z15 l]), (3, Ob.box 59 [VM.C.sl It z48,
   VM.C.sl Th z49]), (4, Ob.box 59 [VM.C.sl It z35, VM.C.sl Th z36])] 5 = St.mk 203 [(2, V.c z4), (16, V.c z34), (19, V.c z11)] [(0, Ob.amb), (1, Ob.box 25 [VM.C.sl It z12, VM.C.sl
   (Ty.sl In) z13, VM.C.int IntKind.i64 z14]), (2, Ob.box 93 [VM.C.sl z15 l]), (3, Ob.box 59 [VM.C.sl It z48, VM.C.sl Th z49]), (4, Ob.box 59 [VM.C.sl It z35, VM.C.sl Th z36])] 5)
   (VC.obl (I4 (0, ())) (VC.all z37 fun (v6 : Int × Unit) =>
 let z104 := Prod.fst v6;
 let z105 := Lv.toN L z104;
 let z106 := Lv.get L Th z36 z105;
 let z107 := Prod.snd (Prod.snd z106);
 let z108 := VM.C.int IntKind.i64 (Lv.ar L BinOp.add IntKind.i64 z104 1);
 let z109 := (Lv.ar L BinOp.add IntKind.i64 z104 1, ());
 let z110 := Lv.inR L z104 z40;
 let z111 := Prod.fst z106;
 let z112 := Lv.get L (Ty.sl In) z13 z105;
 let z113 := Lv.llen L In z112; VC.imp (I4 v6) (VC.br (Lv.cmp L BinOp.lss z104 z39) (VC.obl (Lv.inR L z104 z38) (VC.br (Lv.cmp L BinOp.gtr (Lv.cast L (Lv.llen L Kp (Prod.fst z107)))
   0) (VC.ok ((false, ()) = (true, ()))) (VC.br (Prod.snd (Prod.snd z107)) (VC.ok (St.mk 203 [(2, V.c z4), (16, V.c z34), (19, V.c z108)] [(0, Ob.amb), (1, Ob.box 25 [VM.C.sl It
   z12, VM.C.sl (Ty.sl In) z13, VM.C.int IntKind.i64 z14]), (2, Ob.box 93 [VM.C.sl z15 l]), (3, Ob.box 59 [VM.C.sl It z48, VM.C.sl Th z49]), (4, Ob.box 59 [VM.C.sl It z35, VM.C.sl
   Th z36])] 5 = St.mk 203 [(2, V.c z4), (16, V.c z34), (19, V.c z108)] [(0, Ob.amb), (1, Ob.box 25 [VM.C.sl It z12, VM.C.sl (Ty.sl In) z13, VM.C.int IntKind.i64 z14]), (2, Ob.box
   93 [VM.C.sl z15 l]), (3, Ob.box 59 [VM.C.sl It z48, VM.C.sl Th z49]), (4, Ob.box 59 [VM.C.sl It z35, VM.C.sl Th z36])] 5 ∧ I4 z109 ∧ m4 z109 < m4 v6)) (VC.obl z110 (VC.br (Lv.cmp
   L BinOp.lss z111 (Lv.cast L z113)) (VC.obl z110 (VC.obl (Lv.inR L z111 z113) (VC.br (Lv.cmp L BinOp.neq (Prod.fst (Lv.get L In z112 (Lv.toN L z111))) 12) (VC.ok ((false, ()) =
   (true, ()))) (VC.ok (St.mk 203 [(2, V.c z4), (16, V.c z34), (19, V.c z108)] [(0, Ob.amb), (1, Ob.box 25 [VM.C.sl It z12, VM.C.sl (Ty.sl In) z13, VM.C.int IntKind.i64 z14]), (2,
   Ob.box 93 [VM.C.sl z15 l]), (3, Ob.box 59 [VM.C.sl It z48, VM.C.sl Th z49]), (4, Ob.box 59 [VM.C.sl It z35, VM.C.sl Th z36])] 5 = St.mk 203 [(2, V.c z4), (16, V.c z34), (19, V.c
   z108)] [(0, Ob.amb), (1, Ob.box 25 [VM.C.sl It z12, VM.C.sl (Ty.sl In) z13, VM.C.int IntKind.i64 z14]), (2, Ob.box 93 [VM.C.sl z15 l]), (3, Ob.box 59 [VM.C.sl It z48, VM.C.sl Th
   z49]), (4, Ob.box 59 [VM.C.sl It z35, VM.C.sl Th z36])] 5 ∧ I4 z109 ∧ m4 z109 < m4 v6))))) (VC.ok (St.mk 203 [(2, V.c z4), (16, V.c z34), (19, V.c z108)] [(0, Ob.amb), (1, Ob.box
   25 [VM.C.sl It z12, VM.C.sl (Ty.sl In) z13, VM.C.int IntKind.i64 z14]), (2, Ob.box 93 [VM.C.sl z15 l]), (3, Ob.box 59 [VM.C.sl It z48, VM.C.sl Th z49]), (4, Ob.box 59 [VM.C.sl It
   z35, VM.C.sl Th z36])] 5 = St.mk 203 [(2, V.c z4), (16, V.c z34), (19, V.c z108)] [(0, Ob.amb), (1, Ob.box 25 [VM.C.sl It z12, VM.C.sl (Ty.sl In) z13, VM.C.int IntKind.i64 z14]),
   (2, Ob.box 93 [VM.C.sl z15 l]), (3, Ob.box 59 [VM.C.sl It z48, VM.C.sl Th z49]), (4, Ob.box 59 [VM.C.sl It z35, VM.C.sl Th z36])] 5 ∧ I4 z109 ∧ m4 z109 < m4 v6))))))) (VC.obl
   True (VC.br (AwF.aw G) (VC.ok ((true, ()) = (true, ()))) (VC.ok ((false, ()) = (true, ()))))))))) (VC.ok ((false, ()) = (true, ())))))))))))))))))) (VC.obl True (VC.br (AwF.aw G)
   (VC.ok ((true, ()) = (true, ()))) (VC.ok ((false, ()) = (true, ()))))))
theorem n16_eq (L : Lv) (F : BxF) (G : AwF) (H : LwF) (C : CmF) (I : Ds [.sl It, .sl Th, It] → Prop) (mu : Ds [.sl It, .sl Th, It] → Nat) (I2 : Ds [It] → Prop) (m2 : Ds [It] → Nat) (I4 : Ds [It] → Prop) (m4 : Ds [It] → Nat) (p : WkD) (l : List Int) : vcO L F (oC G H C) [18, 20, 27, 32, 36, 41, 42, 43, 45, 51, 52, 58] 3 (D16 (a16 L I mu I2 m2 I4 m4)) LWT (p, l, ()) = n16 L F G H C I mu I2 m2 I4 m4 p l := by kernel_rfl
theorem n16_go (L : Lv) (F : BxF) (G : AwF) (H : LwF) (C : CmF) (I : Ds [.sl It, .sl Th, It] → Prop) (mu : Ds [.sl It, .sl Th, It] → Nat) (I2 : Ds [It] → Prop) (m2 : Ds [It] → Nat) (I4 : Ds [It] → Prop) (m4 : Ds [It] → Nat) (p : WkD) (l : List Int) (h : VC.holds (n16 L F G H C I mu I2 m2 I4 m4 p l)) : Holds (vcO L F (oC G H C) [18, 20, 27, 32, 36, 41, 42, 43, 45, 51, 52, 58] 3 (D16 (a16 L I mu I2 m2 I4 m4)) LWT (p, l, ())) := Holds.of_eq (n16_eq L F G H C I mu I2 m2 I4 m4 p l) h
end Go.Proofs.Tryz
set_option autoImplicit false
set_option linter.all false
namespace Go.Proofs.Tryz
open Go Go.VM
set_option maxRecDepth 100000
theorem step_told {b : Bool} {s : StD} {t : ThD} {i : InD} {x : List Int × ThD} (hx : stepF b s t i = some x) : x.2.2.2.2.1 = t.2.2.2.1 ∨ ∃ y, x.2.2.2.2.1 = t.2.2.2.1 ++ [y] := by
  by_cases hm : memOp i
  · rcases hm with h8 | h9 | h10 | h12
    · rw [step_8 _ _ _ _ h8] at hx
      split at hx
      · cases hx
      · injection hx with hx; rw [← hx]; exact .inl rfl
    · rw [step_9 _ _ _ _ h9] at hx
      split at hx
      · cases hx
      · split at hx <;> (injection hx with hx; rw [← hx]; exact .inl rfl)
    · rw [step_10 _ _ _ _ h10] at hx
      split at hx
      · cases hx
      · split at hx <;> (injection hx with hx; rw [← hx]; exact .inl rfl)
    · rw [step_12 _ _ _ _ h12] at hx
      split at hx
      · cases hx
      · injection hx with hx; rw [← hx]; exact .inl rfl
  · rw [step_own _ _ _ _ hm] at hx
    cases ho : own t i with
    | none => rw [ho] at hx; cases hx
    | some y =>
      rw [ho] at hx
      injection hx with hx
      rw [← hx]
      unfold own at ho
      simp only at ho
      repeat' split at ho
      all_goals first
        | (cases ho; done)
        | (injection ho with ho; rw [← ho]; exact .inl rfl)
        | (injection ho with ho; rw [← ho]; exact .inr ⟨_, rfl⟩)
theorem do_one {p : WkD} {s : StD} {k : Nat} {f : Bool} : ∃ w t, doF (p, false) s ((k : Int), f) = (w, s.2.set k t) ∧ (w.length = s.1.length) ∧ (f = true → t = ((thAt s k).1, (thAt s k).2.1, (thAt s k).2.2.1.drop 1, (thAt s k).2.2.2) ∧ w = s.1.set (kpAt (thAt s k).2.2.1 0).1.toNat (kpAt (thAt s k).2.2.1 0).2) ∧
    (f = false → (stepF false s (thAt s k) (insIn (listAt (p, false) k) (thAt s k).1) = some (w, t)) ∨ (stepF false s (thAt s k) (insIn (listAt (p, false) k) (thAt s k).1) = none ∧ w = s.1 ∧ t = ((thAt s k).1, (thAt s k).2.1, (thAt s k).2.2.1, (thAt s k).2.2.2.1, true))) := by
  cases f with
  | true => rw [do_true]; exact ⟨_, _, rfl, List.length_set .., fun _ => ⟨rfl, rfl⟩, fun h => by cases h⟩
  | false =>
    rw [do_put]
    cases hst : stepF false s (thAt s k) (insIn (listAt (p, false) k) (thAt s k).1) with
    | none => exact ⟨_, _, rfl, rfl, (fun h => by cases h), fun _ => .inr ⟨rfl, rfl, rfl⟩⟩
    | some x =>
      refine ⟨x.1, x.2, rfl, ?_, (fun h => by cases h), fun _ => .inl rfl⟩
      by_cases hm : memOp (insIn (listAt (p, false) k) (thAt s k).1)
      · rcases hm with h8 | h9 | h10 | h12
        · rw [step_8 _ _ _ _ h8] at hst
          split at hst
          · cases hst
          · injection hst with hst; rw [← hst]
        · rw [step_9 _ _ _ _ h9] at hst
          split at hst
          · cases hst
          · simp only [Bool.false_eq_true, if_false] at hst
            injection hst with hst; rw [← hst]
        · rw [step_10 _ _ _ _ h10] at hst
          split at hst
          · cases hst
          · split at hst
            · injection hst with hst; rw [← hst]; exact List.length_set ..
            · injection hst with hst; rw [← hst]
        · rw [step_12 _ _ _ _ h12] at hst
          split at hst
          · cases hst
          · injection hst with hst; rw [← hst]
      · rw [step_own _ _ _ _ hm] at hst
        cases ho : own (thAt s k) (insIn (listAt (p, false) k) (thAt s k).1) with
        | none => rw [ho] at hst; cases hst
        | some y => rw [ho] at hst; injection hst with hst; rw [← hst]
theorem told_pre {p : WkD} {s : StD} {v : MvD} (hv : v ∈ movesF (p, false) s) {j : Nat} (hj : j < s.2.length) : (thAt s j).2.2.2.1.length ≤ (thAt (doF (p, false) s v) j).2.2.2.1.length ∧ (thAt (doF (p, false) s v) j).2.2.2.1.take (thAt s j).2.2.2.1.length = (thAt s j).2.2.2.1 := by
  obtain ⟨k, hk, hm1, hm2⟩ := mem_moves.1 hv
  obtain ⟨m1, f⟩ := v
  have hm1 : m1 = (k : Int) := hm1
  subst hm1
  obtain ⟨w, t, eN, hwl, cT, cF⟩ := do_one (p := p) (s := s) (k := k) (f := f)
  rw [eN, thAt_set hk]
  by_cases e : j = k
  · subst e
    rw [if_pos rfl]
    cases f with
    | true => rw [(cT rfl).1]; exact ⟨Nat.le_refl _, List.take_length⟩
    | false =>
      rcases cF rfl with c | ⟨_, _, c3⟩
      · rcases step_told c with h | ⟨y, h⟩
        · have h : t.2.2.2.1 = (thAt s j).2.2.2.1 := h
          rw [h]; exact ⟨Nat.le_refl _, List.take_length⟩
        · have h : t.2.2.2.1 = (thAt s j).2.2.2.1 ++ [y] := h
          rw [h]; exact ⟨by rw [List.length_append]; omega, List.take_left⟩
      · rw [c3]; exact ⟨Nat.le_refl _, List.take_length⟩
  · rw [if_neg (by omega)]
    exact ⟨Nat.le_refl _, List.take_length⟩
theorem wait_await {p : WkD} (hp : OkP p) {s : StD} {t : ThD} {i : InD} (hk : t.2.2.1 = []) (h : i.1 ≠ 12) : waitsF (p, false) s t i = false := by
  unfold waitsF
  rw [hk]
  by_cases h9 : i.1 = 9
  · rw [if_pos h9]
    show (!false && decide (((([] : List KpD).length : Nat) : Int) = p.2.2)) = false
    rw [decide_eq_false (by have := hp.room.1; simp only [List.length_nil]; omega)]; rfl
  · rw [if_neg h9]
    by_cases h10 : i.1 = 10 ∨ i.1 = 11
    · rw [if_pos h10]; rfl
    · rw [if_neg h10, if_neg h]
theorem ok16 (F : BxF) (G : AwF) (H : LwF) (C : CmF) (g : G.aw = true) (h : H.right = rightF) (hq : H.picks = picksF) (hp : H.pR = bwTF) (hq' : H.pPicks = fun l => l.length ≤ 9223372036854775807)
    (h0 : F.sameL = fun a b => decide (a = b)) (h1 : F.begE = begF) (h2 : F.isSt = isStF) (h3 : F.mvE = mvsF) (h4 : F.doE = doEF) (h5 : F.ckSt = ckStF) (h6 : F.runE = runF) (q0 : F.bl = bL) (q1 : F.bw = bW) (q4 : F.pSt = fun p s => bW p ∧ bS s) (q5 : F.bs = bS) (q7 : F.pRunR = fun p l => bW p ∧ l.length ≤ 1000000)
    (k1 : SpecOk prog 18 (S18 G)) (k2 : SpecOk prog 20 (S20 F)) (k3 : SpecOk prog 27 (S27 F)) (k4 : SpecOk prog 32 (S32 H)) (k5 : SpecOk prog 36 (S36 F)) (k6 : SpecOk prog 41 (S41 F)) (k7 : SpecOk prog 42 (S42 F)) (k8 : SpecOk prog 43 (S43 F)) (k9 : SpecOk prog 45 (S45 F)) (k10 : SpecOk prog 51 (S51 F)) (k11 : SpecOk prog 52 (S52 F)) (k12 : SpecOk prog 58 (S58 H)) : SpecOk prog 16 LWT := by
  refine contract_by hm hE D16 fnok16 _ fun (z : WkD × List Int × Unit) hpre => ?_
  obtain ⟨p, l, ⟨⟩⟩ := z
  have hpre : bwTF p ∧ tuRF l := hpre
  let I : List Int × List ThD × Int × Unit → Prop := fun x => (0 ≤ x.2.2.1 ∧ x.2.2.1 ≤ (picksF l).length) ∧ ∃ d, Reach (p, false) d (x.1, x.2.1)
  let mu : List Int × List ThD × Int × Unit → Nat := fun x => ((picksF l).length - x.2.2.1).toNat
  let I2 : Int × Unit → Prop := Iv p.2.1.length fun _ => True
  refine pack _ 3 (a16 Lv.std I mu I2 (Mu p.2.1.length) I2 (Mu p.2.1.length)) (only_tab (T := tabO (oC G H C) (cT F)) (l := [18, 20, 27, 32, 36, 41, 42, 43, 45, 51, 52, 58]) (tb_cons (tb_sp k1 (by kernel_rfl)) (tb_cons (tb_sp k2 (by kernel_rfl)) (tb_cons (tb_sp k3 (by kernel_rfl)) (tb_cons (tb_sp k4 (by kernel_rfl)) (tb_cons (tb_sp k5 (by kernel_rfl)) (tb_cons (tb_sp k6 (by kernel_rfl)) (tb_cons (tb_sp k7 (by kernel_rfl)) (tb_cons (tb_sp k8 (by kernel_rfl)) (tb_cons (tb_sp k9 (by kernel_rfl)) (tb_cons (tb_sp k10 (by kernel_rfl)) (tb_cons (tb_sp k11 (by kernel_rfl)) (tb_cons (tb_sp k12 (by kernel_rfl)) tb_nil))))))))))))) ?_
  refine n16_go Lv.std F G H C I mu I2 (Mu p.2.1.length) I2 (Mu p.2.1.length) p l ?_
  have e1 : ∀ (l : List Int) (k : Int), Lv.std.get It l k.toNat = (l[k.toNat]?).getD 0 := fun _ _ => rfl
  have e2 : ∀ (l : List MvD) (k : Int), Lv.std.get Mv l k.toNat = (l[k.toNat]?).getD (0, false) := fun _ _ => rfl
  have e3 : ∀ (l : List ThD) (k : Int), Lv.std.get Th l k.toNat = thAt ([], l) k := fun _ _ => rfl
  have e4 : ∀ k : Int, Lv.std.get (.sl In) p.2.1 k.toNat = listAt (p, false) k := fun _ => rfl
  have e5 : ∀ (l : List InD) (k : Int), Lv.std.get In l k.toNat = insIn l k := fun _ _ => rfl
  have er : ∀ (b c : Int), Lv.std.dv .rem .i64 b c = remF b c := fun _ _ => rfl
  simp only [n16, VC.holds, std_cmp, std_cast, std_llen, std_toN, std_bnot, e1, e2, e3, e4, e5, er, std_inR, std_ne0, std_ar_add, std_take, std_drop, std_le3, cmp_lss_t, cmp_lss_f, cmp_neq_t, cmp_neq_f, cmp_eql_t, cmp_eql_f, cmp_gtr_t, cmp_gtr_f, Int.toNat_natCast, List.take_length, List.drop_zero, Int.natCast_zero, Int.toNat_zero, g, h, hq, hp, hq', h0, h1, h2, h3, h4, h5, h6, q0, q1, q4, q5, q7, pe5, Prod.mk.injEq, and_true, true_and]
  refine ⟨hpre.1, fun hr => ?_, fun _ => tt⟩
  obtain ⟨hb, op⟩ := right_ok hr
  have hcc := (okP_iff p).2 op
  have hbeg : begF p = (firstF p, 0) := by rw [begF, if_neg (by simpa using hcc)]
  have hpk : ∀ x ∈ picksF l, 0 ≤ x := picks_nat hpre.2
  have hpl : (picksF l).length ≤ 80 := by unfold picksF; rw [List.length_map, List.length_take]; omega
  have h4 := op.t4
  simp only [hbeg]
  have e5 : (runF p (picksF l)).2.2 ≠ 0 → (runF p (picksF l)).2.2 = 5 := fun h => (runF_err hcc hpk).resolve_left h
  have stp : ∀ j : Nat, j < p.2.1.length → I2 (IntKind.i64.wrap ((j : Int) + 1), ()) ∧ Mu p.2.1.length (IntKind.i64.wrap ((j : Int) + 1), ()) < Mu p.2.1.length ((j : Int), ()) := fun j hj => by
    rw [wr (n := p.2.1.length) (by omega) (by omega)]; exact ⟨Iv.mk (by omega) trivial, Mu.lt hj⟩
  generalize hRn : runF p (picksF l) = R at *
  have FIN : bW p ∧ (bW p ∧ (picksF l).length ≤ 1000000) ∧ (R.2.2 = 5 → (True → (True → True) ∧ (true = false → false = true)) ∧ ((0 : Int) ≠ 0 → false = true)) ∧ (R.2.2 ≠ 5 → ((0 : Int) ≠ 0 → false = true) ∧ (True → (R.2.2 ≠ 0 → false = true) ∧ (R.2.2 = 0 → (R.2.1 < 0 → false = true) ∧ (0 ≤ R.2.1 → (bW p ∧ bS R.1) ∧ (isStF p R.1 = true → I2 (0, ()) ∧ ∀ (b : Int × Unit), I2 b → (b.1 < (R.1.2.length : Int) → (0 ≤ b.1 ∧ b.1 < (R.1.2.length : Int)) ∧ (0 < ((thAt ([], R.1.2) b.1).2.2.1.length : Int) → false = true) ∧ (((thAt ([], R.1.2) b.1).2.2.1.length : Int) ≤ 0 → ((thAt ([], R.1.2) b.1).2.2.2.2 = true → I2 (IntKind.i64.wrap (b.1 + 1), ()) ∧ Mu p.2.1.length (IntKind.i64.wrap (b.1 + 1), ()) < Mu p.2.1.length b) ∧ ((thAt ([], R.1.2) b.1).2.2.2.2 = false → (0 ≤ b.1 ∧ b.1 < (p.2.1.length : Int)) ∧ ((thAt ([], R.1.2) b.1).1 < ((listAt (p, false) b.1).length : Int) → (0 ≤ b.1 ∧ b.1 < (p.2.1.length : Int)) ∧ (0 ≤ (thAt ([], R.1.2) b.1).1 ∧ (thAt ([], R.1.2) b.1).1 < ((listAt (p, false) b.1).length : Int)) ∧ ((insIn (listAt (p, false) b.1) (thAt ([], R.1.2) b.1).1).1 ≠ 12 → false = true) ∧ ((insIn (listAt (p, false) b.1) (thAt ([], R.1.2) b.1).1).1 = 12 → I2 (IntKind.i64.wrap (b.1 + 1), ()) ∧ Mu p.2.1.length (IntKind.i64.wrap (b.1 + 1), ()) < Mu p.2.1.length b)) ∧ (((listAt (p, false) b.1).length : Int) ≤ (thAt ([], R.1.2) b.1).1 → I2 (IntKind.i64.wrap (b.1 + 1), ()) ∧ Mu p.2.1.length (IntKind.i64.wrap (b.1 + 1), ()) < Mu p.2.1.length b)))) ∧ ((R.1.2.length : Int) ≤ b.1 → (True → True) ∧ (true = false → false = true))) ∧ (isStF p R.1 = false → false = true))))) := by
    refine ⟨hb, ⟨hb, by omega⟩, fun _ => ⟨fun _ => tt, fun h => absurd rfl h⟩, fun h5 => ⟨fun h => absurd rfl h, fun _ => ⟨fun h => absurd (e5 h) h5, fun h0 => ?_⟩⟩⟩
    obtain ⟨z, many, er⟩ := R
    have h0 : er = 0 := h0
    subst h0
    obtain ⟨_, d, rfl, hd, hreach, hend⟩ := runF_reach hRn
    have oz := ok_reach op hreach
    have bz := ok_bS op oz
    have i1 := (okS_iff p z).2 oz
    refine ⟨fun h => ?_, fun _ => ⟨⟨hb, bz⟩, fun _ => ⟨Iv.zero trivial, fun x hx => ?_⟩, fun h => ?_⟩⟩
    · have h : ((d : Nat) : Int) < 0 := h
      omega
    · obtain ⟨j, rfl, hj, _⟩ := Iv.elim hx
      refine ⟨fun hlt => ?_, fun _ => tt⟩
      have hlt : (j : Int) < (z.2.length : Int) := hlt
      have hjz : j < z.2.length := by omega
      have hjp : j < p.2.1.length := by rw [← oz.tl]; exact hjz
      obtain ⟨g1, g2⟩ := no_kept hend hjz
      have hT := oz.th j hjz
      show (0 ≤ (j : Int) ∧ (j : Int) < (z.2.length : Int)) ∧ (0 < ((thAt z (j : Int)).2.2.1.length : Int) → false = true) ∧ (((thAt z (j : Int)).2.2.1.length : Int) ≤ 0 → ((thAt z (j : Int)).2.2.2.2 = true → _) ∧ ((thAt z (j : Int)).2.2.2.2 = false → (0 ≤ (j : Int) ∧ (j : Int) < (p.2.1.length : Int)) ∧ ((thAt z (j : Int)).1 < ((listAt (p, false) (j : Int)).length : Int) → (0 ≤ (j : Int) ∧ (j : Int) < (p.2.1.length : Int)) ∧ (0 ≤ (thAt z (j : Int)).1 ∧ (thAt z (j : Int)).1 < ((listAt (p, false) (j : Int)).length : Int)) ∧ ((insIn (listAt (p, false) (j : Int)) (thAt z (j : Int)).1).1 ≠ 12 → false = true) ∧ _) ∧ _))
      refine ⟨⟨by omega, hlt⟩, fun hpos => ?_, fun _ => ⟨fun _ => stp j hjp, fun hf => ⟨⟨by omega, by omega⟩, fun hat => ⟨⟨by omega, by omega⟩, ⟨hT.at0, hat⟩, fun h12 => ?_, fun _ => stp j hjp⟩, fun _ => stp j hjp⟩⟩⟩
      · rw [g1] at hpos; exact absurd hpos (by simp)
      · rw [← g2]; exact can_t.2 ⟨hf, hat, wait_await op g1 h12⟩
    · rw [show isStF p (z, (d : Int), (0 : Int)).1 = isStF p z from rfl, i1] at h; cases h
  refine ⟨hb, hb, hpre.2.1, ⟨⟨Int.le_refl 0, by show (0 : Int) ≤ (picksF l).length; omega⟩, 0, .zero⟩, ?_⟩
  rintro ⟨ws, ts, x, ⟨⟩⟩ ⟨⟨i1, i2⟩, d, hR⟩
  simp only at i1 i2 hR ⊢
  obtain ⟨k, rfl⟩ := nat_of i1
  generalize hs : (ws, ts) = s at *
  have hts : ts = s.2 := by rw [← hs]
  have os := ok_reach op hR
  have bs := ok_bS op os
  have t0 : ckStF p s = 0 := (ckSt_iff p s).2 ⟨op, os⟩
  have hmv : mvsF p s = (movesF (p, false) s, 0) := by rw [mvsF, if_neg (by simpa using t0)]
  simp only [hmv, hts, Int.toNat_natCast]
  refine ⟨fun hlt => ⟨fun _ => ⟨hb, bs, ⟨hb, bs⟩, fun h => absurd rfl h, fun _ => ⟨fun _ => FIN, fun hne => ?_⟩⟩, fun h => absurd rfl h⟩, fun _ => FIN⟩
  have hk : k < (picksF l).length := by omega
  have hne' : movesF (p, false) s ≠ [] := fun e => hne (by rw [e]; rfl)
  have hmem := pick_mem (n := k) hne' hpk
  have hpick : ((movesF (p, false) s)[(remF (((picksF l)[k]?).getD 0) (movesF (p, false) s).length).toNat]?).getD (0, false) = pickF (p, false) s (picksF l) k := by unfold pickF; rw [if_pos hk]
  have hrem : 0 ≤ remF (((picksF l)[k]?).getD 0) (movesF (p, false) s).length ∧ remF (((picksF l)[k]?).getD 0) (movesF (p, false) s).length < (movesF (p, false) s).length := by
    have h0 : 0 ≤ ((picksF l)[k]?).getD 0 := by rw [List.getElem?_eq_getElem hk]; exact hpk _ (List.getElem_mem hk)
    have e : ∀ b c : Int, remF b c = b.tmod c := fun _ _ => rfl
    rw [e]
    exact ⟨Int.tmod_nonneg _ h0, Int.tmod_lt_of_pos _ (Int.natCast_pos.2 (List.length_pos_iff.2 hne'))⟩
  simp only [hpick]
  generalize pickF (p, false) s (picksF l) k = v at *
  have hdo : doEF p s v = (doF (p, false) s v, 0) := by rw [doEF, if_neg (by simpa using t0), if_pos hmem]
  have on := do_ok op os hmem
  have bn := ok_bS op on
  have t1 : ckStF p (doF (p, false) s v) = 0 := (ckSt_iff p _).2 ⟨op, on⟩
  have i1' := (okS_iff p _).2 on
  have hsl : s.2.length = p.2.1.length := os.tl
  have hnl : (doF (p, false) s v).2.length = s.2.length := by rw [on.tl, os.tl]
  simp only [hdo, t1]
  refine ⟨hb, bs, ⟨i1, hlt⟩, hne, hrem, ⟨hb, bs⟩, fun h => absurd rfl h, fun _ => ⟨hb, bn, ⟨hb, bn⟩, fun h => absurd rfl h, fun _ => ⟨⟨hb, bn⟩, fun _ => ⟨Iv.zero trivial, fun y hy => ?_⟩, fun h => ?_⟩⟩⟩
  · obtain ⟨j, rfl, hj, _⟩ := Iv.elim hy
    refine ⟨fun hjl => ?_, fun _ => ?_⟩
    · have hjl : (j : Int) < (s.2.length : Int) := hjl
      have hj' : j < s.2.length := by omega
      obtain ⟨a1, a2⟩ := told_pre hmem hj'
      have hT := os.th j hj'
      have h20 := hT.t20
      show (0 ≤ (j : Int) ∧ (j : Int) < (s.2.length : Int)) ∧ (0 ≤ (j : Int) ∧ (j : Int) < ((doF (p, false) s v).2.length : Int)) ∧ (((thAt (doF (p, false) s v) (j : Int)).2.2.2.1.length : Int) < ((thAt s (j : Int)).2.2.2.1.length : Int) → false = true) ∧ (((thAt s (j : Int)).2.2.2.1.length : Int) ≤ ((thAt (doF (p, false) s v) (j : Int)).2.2.2.1.length : Int) → (0 ≤ (0 : Int) ∧ 0 ≤ ((thAt s (j : Int)).2.2.2.1.length : Int) ∧ ((thAt s (j : Int)).2.2.2.1.length : Int) ≤ ((thAt (doF (p, false) s v) (j : Int)).2.2.2.1.length : Int)) ∧ (bL (thAt s (j : Int)).2.2.2.1 ∧ bL (List.take (thAt s (j : Int)).2.2.2.1.length (thAt (doF (p, false) s v) (j : Int)).2.2.2.1)) ∧ (decide ((thAt s (j : Int)).2.2.2.1 = List.take (thAt s (j : Int)).2.2.2.1.length (thAt (doF (p, false) s v) (j : Int)).2.2.2.1) = true → _) ∧ (decide ((thAt s (j : Int)).2.2.2.1 = List.take (thAt s (j : Int)).2.2.2.1.length (thAt (doF (p, false) s v) (j : Int)).2.2.2.1) = false → false = true))
      refine ⟨⟨by omega, hjl⟩, ⟨by omega, by omega⟩, fun h => by omega, fun h => ⟨⟨Int.le_refl _, by omega, h⟩, ⟨by unfold bL; omega, by unfold bL; rw [a2]; omega⟩, fun _ => stp j (by omega), fun h => absurd a2.symm (of_decide_eq_false h)⟩⟩
    · rw [wr hlt (by omega)]
      refine ⟨⟨⟨by show (0 : Int) ≤ ((k + 1 : Nat) : Int); omega, by show ((k + 1 : Nat) : Int) ≤ ((picksF l).length : Int); omega⟩, d + 1, .step hR hmem⟩, by show (((picksF l).length : Int) - ((k + 1 : Nat) : Int)).toNat < (((picksF l).length : Int) - (k : Int)).toNat; omega⟩
  · rw [i1'] at h; cases h
end Go.Proofs.Tryz
set_option autoImplicit false
set_option linter.all false
namespace Go.Proofs.Tryz
open Go Go.VM
set_option maxRecDepth 100000
noncomputable def FF : BxF where
  within := withinF
  isNum := isNumF
  truth := truthF
  has := hasF
  fields := fieldsF
  shape := shapeF
  isIns := insOkF
  worked := workedF
  place := placeF
  value := default
  sees := seesF
  pRegs := fun l i => inReg l i.2.2.1 ∧ inReg l i.2.2.2.1
  pPlace := fun _ t i => inReg t.2.1 i.2.2.1
  pSees := fun s t p => inReg s.1 p ∧ t.2.2.1.length ≤ 1000000
  back := backF
  pBack := fun l => l.length ≤ 1000000
  see := default
  pSee := default
  waits := waitsF
  pW := fun _ s t i => pWF s t i
  can := canF
  pC := pCF
  each := eachF
  pE := pEF
  moves := movesF
  ended := endedF
  endOf := endOfF
  pEnd := fun m s => bS s ∧ s.2.length ≤ m.1.2.1.length
  first := firstF
  pFirst := fun p => p.1.length ≤ 1000000 ∧ p.2.1.length ≤ 1000000
  pHas := fun s => s.size ≤ 1000000
  pLi := fun l => l.length ≤ 1000000
  pLt := fun l => l.length ≤ 1000000
  pLk := fun l => l.length ≤ 1000000
  doo := doF
  pDo := pDoF
  step := default
  bl := bL
  bw := bW
  bs := bS
  be := sEn
  ble := fun l => l.length ≤ 1000000 ∧ ∀ e ∈ l, sEn e
  nums := numsF
  check := checkF
  isTh := fun p k t => thOk p k.toNat t
  pTh := fun p k t => p.1.length ≤ 1000000 ∧ (0 ≤ k ∧ k < p.2.1.length) ∧ bTh t
  isSt := isStF
  pSt := fun p s => bW p ∧ bS s
  ckSt := ckStF
  begE := begF
  mvE := mvsF
  ok := default
  okD := default
  okT := default
  doE := doEF
  endE := default
  endR := default
  seesE := default
  runE := runF
  runR := default
  pRunR := fun p l => bW p ∧ l.length ≤ 1000000
  fenE := fenF
  fenR := default
  okW := default
  sameL := fun a b => decide (a = b)
  sameE := fun a b => decide (a = b)
  sameEs := fun a b => decide (a = b)
  sameS := default
  sameW := default
  sameM := default
  sameK := default
  bm := fun l => l.length ≤ 1000000
  bk := default
  isMv := fun l v => decide (v ∈ l)
  isIn := default
  cmpL := cmpLF
  cmpLL := cmpLLF
  cmpE := cmpEF
  cmpR := lexR
  cmpRE := cmpREF
  hows := fun e => e.2.2
  thin := thinF
  long := default
  thinS := default
  bwT := bwTF
  pCl := fun s (k : Int) => (0 ≤ k ∧ k < s.2.length) ∧ bS s
  or1 := orF3
  bll := fun l => l.length ≤ 1000000 ∧ ∀ x ∈ l, x.length ≤ 1000000
  put := putF
  pPut := fun b l => b.length ≤ 100000000 ∧ l.length ≤ 1000000
  comp := compL
  sort := fun l => List.mergeSort (α := EnD) l fun x y => !(Go.Proofs.ltOf cmpEF) y x
  rev := List.reverse
  key := keyF
  pKey := fun s => s.1.length ≤ 64 ∧ s.2.length ≤ 4 ∧ ∀ t ∈ s.2, t.2.1.length ≤ 100 ∧ t.2.2.1.length ≤ 100 ∧ t.2.2.2.1.length ≤ 100
  all := allF
  okM := fun m => OkP m.1
  ends := endsM
  bM := fun m => bW m.1
  way := wayG
  pWay := fun p _ => bW p
  over := default
  waR := default
  okW2 := default
  bsT := default
noncomputable def GG : AwF where
  ins := insF
  cr := ([0, 0], [[insF 1 1 [1], insF 9 0 [1], insF 8 1 [2], insF 15 0 [2]], [insF 1 1 [1], insF 9 1 [1], insF 8 0 [2], insF 15 0 [2]]], 1)
  ce := fun a b => ([1, 1], [[a], [b]], [1, 1])
  aw := true
noncomputable def HH : LwF where
  right := rightF
  pR := bwTF
  pL := default
  list := default
  picks := picksF
  pPicks := fun l => l.length ≤ 9223372036854775807
noncomputable def CC : CmF where
  pCame := default
theorem h86 : SpecOk prog 86 (S86 FF) := ok86 FF rfl
theorem h92 : SpecOk prog 92 (S92 FF) := ok92 FF rfl rfl h86
theorem h120 : SpecOk prog 120 (S120 FF) := ok120 FF rfl
theorem h84 : SpecOk prog 84 (S84 FF) := ok84 FF rfl rfl rfl rfl h86 h92 h120
theorem h87 : SpecOk prog 87 (S87 FF) := ok87 FF rfl rfl rfl h92
theorem h38 : SpecOk prog 38 (S22 FF) := ok38 FF rfl rfl rfl rfl rfl rfl h84 h86 h87
theorem h76 : XOk prog 76 (R76 FF).x := ok76 FF rfl
theorem h79 : SpecOk prog 79 (S79 FF) := ok79 FF rfl rfl rfl h76
theorem h146 : ItOk prog 146 (I146 FF) := ok146 FF rfl rfl
theorem h101 : SpecOk prog 101 (S101 FF) := ok101 FF rfl rfl rfl rfl h146
theorem h143 : SpecOk prog 143 (S143 FF) := ok143 FF rfl rfl rfl h86
theorem h157 : SpecOk prog 157 (S157 FF) := ok157 FF rfl rfl rfl rfl rfl rfl h101 h143
theorem h136 : SpecOk prog 136 (S136 FF) := ok136 FF rfl rfl rfl rfl h157
theorem h135 : ItOk prog 135 (I135 FF) := ok135 FF rfl rfl rfl rfl h136
theorem h90 : SpecOk prog 90 (S90 FF) := ok90 FF rfl rfl rfl h135
theorem h134 : SpecOk prog 134 (S134 FF) := ok134 FF rfl
theorem h141 : XOk prog 141 (R141 FF).x := ok141 FF rfl
theorem h142 : XOk prog 142 (R142 FF).x := ok142 FF rfl
theorem h144 : XOk prog 144 (mapcX acT) := ok144 FF
theorem h145 : SpecOk prog 145 (S145 FF) := ok145 FF rfl rfl rfl rfl h92 h134
theorem h99 : SpecOk prog 99 (S99 FF) := ok99 FF rfl rfl rfl rfl rfl rfl rfl rfl rfl rfl rfl rfl rfl rfl h76 h86 h92 h101 h134 h141 h142 h143 h144 h145
theorem h133 : XOk prog 133 (R133 FF).x := ok133 FF rfl rfl
theorem h109 : SpecOk prog 109 (S109 FF) := ok109 FF rfl rfl rfl rfl rfl h133 h134
theorem h66 : SpecOk prog 66 (S66 FF) := ok66 FF rfl rfl rfl rfl rfl rfl rfl rfl rfl rfl h79 h90 h99 h109
theorem h69 : SpecOk prog 69 (S69 FF) := ok69 FF rfl rfl rfl h135
theorem h71 : SpecOk prog 71 (S71 FF) := ok71 FF rfl rfl rfl h76
theorem h111 : SpecOk prog 111 (S111 FF) := ok111 FF rfl rfl
theorem h112 : SpecOk prog 112 (S112 FF) := ok112 FF rfl rfl
theorem h113 : XOk prog 113 (R113 FF).x := ok113 FF rfl rfl rfl rfl h112
theorem h114 : SpecOk prog 114 (S114 FF) := ok114 FF rfl rfl
theorem h70 : SpecOk prog 70 (S70 FF) := ok70 FF rfl rfl rfl rfl rfl rfl rfl h111 h112 h113 h114
theorem h106 : XOk prog 106 (R106 FF).u := ok106 FF rfl rfl rfl rfl h70
theorem h108 : SpecOk prog 108 (S108 FF) := ok108 FF rfl rfl h70
theorem h107 : XOk prog 107 (R107 FF).x := ok107 FF rfl rfl rfl rfl h108
theorem h62 : SpecOk prog 62 (S62 FF) := ok62 FF rfl rfl rfl rfl rfl (fun l => List.mergeSort_perm l _) rfl rfl rfl rfl rfl rfl h38 h66 h69 h71 h106 h107
theorem h19 : SpecOk prog 19 (S19 FF) := ok19 FF rfl rfl h62
theorem h21 : SpecOk prog 21 (S21 FF) := ok21 FF rfl rfl h62
theorem h72 : XOk prog 72 (R72 FF).u := ok72 FF rfl rfl
theorem h24 : SpecOk prog 24 (S24 FF) := ok24 FF rfl rfl rfl rfl rfl rfl rfl rfl rfl rfl rfl rfl rfl rfl h38 h66 h69 h71 h70 h72
theorem h75 : SpecOk prog 75 (S75 FF) := ok75 FF rfl rfl
theorem h27 : SpecOk prog 27 (S27 FF) := ok27 FF rfl rfl h75
theorem h29 : SpecOk prog 29 (S29 FF) := ok29 FF rfl rfl rfl rfl h38 h76
theorem h118 : SpecOk prog 118 (S118 FF) := ok118 FF rfl rfl
theorem h74 : SpecOk prog 74 (S74 FF) := ok74 FF rfl rfl rfl rfl rfl h75 h118
theorem h46 : SpecOk prog 46 (S46 FF) := ok46 FF rfl rfl h74
theorem h35 : SpecOk prog 35 (S35 FF) := ok35 FF rfl rfl rfl rfl h46
theorem h105 : SpecOk prog 105 (S105 GG) := ok105 FF GG rfl
theorem h60 : SpecOk prog 60 (S60 GG) := ok60 FF GG rfl rfl h105
theorem h61 : SpecOk prog 61 (S61 GG) := ok61 FF GG rfl
theorem h18 : SpecOk prog 18 (S18 GG) := ok18 FF GG rfl rfl rfl rfl rfl rfl rfl rfl rfl rfl rfl rfl h19 h21 h24 h27 h29 h35 h60 h61
theorem h20 : SpecOk prog 20 (S20 FF) := ok20 FF rfl
theorem h17 : SpecOk prog 17 (S17 FF) := ok17 FF rfl rfl
theorem h54 : SpecOk prog 54 (S86 FF) := ok54 FF rfl
theorem h63 : SpecOk prog 63 (S92 FF) := ok63 FF rfl rfl h54
theorem h77 : SpecOk prog 77 (S77 FF) := ok77 FF rfl rfl
theorem h78 : SpecOk prog 78 (S78 FF) := ok78 FF rfl
theorem h64 : SpecOk prog 64 (S84 FF) := ok64 FF rfl rfl rfl rfl rfl rfl h54 h63 h77 h78
theorem h22 : SpecOk prog 22 (S22 FF) := ok22 FF rfl rfl rfl rfl rfl h54 h63 h64
theorem h32 : SpecOk prog 32 (S32 HH) := ok32 FF GG HH rfl rfl rfl rfl rfl rfl h17 h22
theorem h36 : SpecOk prog 36 (S36 FF) := ok36 FF rfl rfl rfl rfl rfl h38 h79
theorem h88 : SpecOk prog 88 (S87 FF) := ok88 FF rfl rfl rfl h63
theorem h89 : SpecOk prog 89 (S89 FF) := ok89 FF rfl rfl rfl rfl rfl rfl h54 h63 h88
theorem h41 : SpecOk prog 41 (S41 FF) := ok41 FF rfl rfl rfl rfl rfl rfl h88 h89
theorem h45 : SpecOk prog 45 (S45 FF) := ok45 FF rfl rfl rfl rfl rfl rfl rfl rfl h38 h86 h87 h92
theorem h42 : SpecOk prog 42 (S42 FF) := ok42 FF rfl rfl rfl rfl rfl h45 h90
theorem h43 : SpecOk prog 43 (S43 FF) := ok43 FF rfl
theorem h126 : SpecOk prog 126 (S126 FF) := ok126 FF rfl rfl rfl rfl h76 h141 h142
theorem h98 : SpecOk prog 98 (S43 FF) := ok98 FF rfl rfl h126
theorem h51 : SpecOk prog 51 (S51 FF) := ok51 FF rfl rfl rfl rfl rfl rfl rfl rfl rfl rfl rfl h38 h79 h90 h98 h99
theorem h100 : SpecOk prog 100 (S56 FF) := ok100 FF rfl rfl
theorem h52 : SpecOk prog 52 (S52 FF) := ok52 FF rfl rfl rfl rfl rfl rfl rfl rfl rfl rfl h45 h90 h98 h99 h100
theorem h58 : SpecOk prog 58 (S58 HH) := ok58 FF GG HH rfl rfl
theorem h16 : SpecOk prog 16 LWT := ok16 FF GG HH CC rfl rfl rfl rfl rfl rfl rfl rfl rfl rfl rfl rfl rfl rfl rfl rfl rfl h18 h20 h27 h32 h36 h41 h42 h43 h45 h51 h52 h58
end Go.Proofs.Tryz
