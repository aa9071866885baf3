/- What functions of the weak memory compute, proved through the condition generator, and plain facts of it. Conditions: none of ours. -/
import Derived.Calls
import Derived.Orders
import Derived.Below
import Derived.Lib.ItoaNum
import Derived.Laws.Sem
import Derived.Laws.Cells
import Derived.Laws.Entries
import Derived.Laws.StructEq
import Derived.Lib.IfaceEq
import Derived.Lib.IfaceNeq
import Derived.Laws.MakeOwn
import Derived.Laws.AppendOwn
import Derived.Lib.AppendStr
import Derived.Laws.CopyRow
import Derived.Laws.BytesString
import Derived.MapKept
import Derived.OrdersIn
import Derived.RangeFuncCalls
import Derived.RangeFuncLeaves
import Derived.Test.YthfjgaifdadgnaaGreatProg
import Derived.Shelf.SlSortCmp.Insertion
import GoSem.Step
import Derived.Shelf.SlSortCmp.InsertionK
import Derived.Shelf.SlSortCmp.NoneTotal
import Derived.Ground.SlsfProg
import Derived.Sort.LotA
import Derived.Test.YthfjgaifdadgnaaGreatK0
import Derived.Test.YthfjgaifdadgnaaGreatK1
import Derived.Test.YthfjgaifdadgnaaGreatK2
import Derived.Test.YthfjgaifdadgnaaGreatK3
import Derived.Test.YthfjgaifdadgnaaGreatK4
import Derived.Test.YthfjgaifdadgnaaGreatK5
import Derived.Test.YthfjgaifdadgnaaGreatK6
import Derived.Test.YthfjgaifdadgnaaGreatK7
import Derived.Test.YthfjgaifdadgnaaGreatK8
import Derived.Test.YthfjgaifdadgnaaGreatK9
import Derived.Test.YthfjgaifdadgnaaGreatK10
import Derived.Test.YthfjgaifdadgnaaGreatK11
import Derived.Test.YthfjgaifdadgnaaGreatK12
import Derived.Test.YthfjgaifdadgnaaGreatK13
import Derived.Test.YthfjgaifdadgnaaGreatK14
import Derived.Test.YthfjgaifdadgnaaGreatK15
import Derived.Test.YthfjgaifdadgnaaGreatK16
import Derived.Test.YthfjgaifdadgnaaGreatK17
import Derived.Test.YthfjgaifdadgnaaGreatK18
import Derived.Test.YthfjgaifdadgnaaGreatK19
import Derived.Test.YthfjgaifdadgnaaGreatK20
import Derived.Test.YthfjgaifdadgnaaGreatK21
import Derived.Test.YthfjgaifdadgnaaGreatK22
import Derived.Test.YthfjgaifdadgnaaGreatK23
import Derived.Test.YthfjgaifdadgnaaGreatK24
import Derived.Test.YthfjgaifdadgnaaGreatK25
import Derived.Test.YthfjgaifdadgnaaGreatK26
set_option autoImplicit false
set_option linter.all false
namespace Go.Proofs.Tryz
open Go Go.VM
set_option maxRecDepth 100000
theorem at17 : prog.funcs[17]? = some f17 := by kernel_rfl
def pl17 : Nat → Plan
  | _ => []
noncomputable def D17 (ann : Nat → LAnn) : FnD := ⟨f17.body.getD .skip, f17.ntmps, f17.results.toList, pl17, ann⟩
theorem fnok17 (ann : Nat → LAnn) : FnOk prog 17 (D17 ann) := ⟨f17, at17, by kernel_rfl, by kernel_rfl, rfl, rfl, by kernel_rfl⟩
theorem at32 : prog.funcs[32]? = some f32 := by kernel_rfl
def pl32 : Nat → Plan
  | _ => []
noncomputable def D32 (ann : Nat → LAnn) : FnD := ⟨f32.body.getD .skip, f32.ntmps, f32.results.toList, pl32, ann⟩
theorem fnok32 (ann : Nat → LAnn) : FnOk prog 32 (D32 ann) := ⟨f32, at32, by kernel_rfl, by kernel_rfl, rfl, rfl, by kernel_rfl⟩
theorem at36 : prog.funcs[36]? = some f36 := by kernel_rfl
def pl36 : Nat → Plan
  | _ => []
noncomputable def D36 (ann : Nat → LAnn) : FnD := ⟨f36.body.getD .skip, f36.ntmps, f36.results.toList, pl36, ann⟩
theorem fnok36 (ann : Nat → LAnn) : FnOk prog 36 (D36 ann) := ⟨f36, at36, by kernel_rfl, by kernel_rfl, rfl, rfl, by kernel_rfl⟩
theorem at41 : prog.funcs[41]? = some f41 := by kernel_rfl
def pl41 : Nat → Plan
  | 6 => [(0, []), (1, [0]), (2, [0, 1]), (3, [0, 1]), (4, [0, 1, 2, 3]), (5, [0, 1]), (6, [0, 1]), (7, []), (8, [])]
  | _ => []
noncomputable def D41 (ann : Nat → LAnn) : FnD := ⟨f41.body.getD .skip, f41.ntmps, f41.results.toList, pl41, ann⟩
theorem fnok41 (ann : Nat → LAnn) : FnOk prog 41 (D41 ann) := ⟨f41, at41, by kernel_rfl, by kernel_rfl, rfl, rfl, by kernel_rfl⟩
theorem at42 : prog.funcs[42]? = some f42 := by kernel_rfl
def pl42 : Nat → Plan
  | _ => []
noncomputable def D42 (ann : Nat → LAnn) : FnD := ⟨f42.body.getD .skip, f42.ntmps, f42.results.toList, pl42, ann⟩
theorem fnok42 (ann : Nat → LAnn) : FnOk prog 42 (D42 ann) := ⟨f42, at42, by kernel_rfl, by kernel_rfl, rfl, rfl, by kernel_rfl⟩
theorem at43 : prog.funcs[43]? = some f43 := by kernel_rfl
def pl43 : Nat → Plan
  | 6 => [(0, []), (1, [0]), (2, [0]), (3, []), (4, [0, 1, 2, 3]), (5, [0, 1, 2, 3, 4]), (6, [0, 1, 2, 3, 4]), (7, []), (8, [0, 1, 2, 3, 4, 5, 6, 7]), (9, [0, 1, 2, 3, 4, 5, 6, 7, 8]), (10, [0, 1, 2, 3, 4, 5, 6, 7, 8]), (11, []), (12, [4, 7, 8, 11]), (13, []), (14, []), (15, []), (16, []), (17, [])]
  | _ => []
noncomputable def D43 (ann : Nat → LAnn) : FnD := ⟨f43.body.getD .skip, f43.ntmps, f43.results.toList, pl43, ann⟩
theorem fnok43 (ann : Nat → LAnn) : FnOk prog 43 (D43 ann) := ⟨f43, at43, by kernel_rfl, by kernel_rfl, rfl, rfl, by kernel_rfl⟩
theorem at45 : prog.funcs[45]? = some f45 := by kernel_rfl
def pl45 : Nat → Plan
  | 10 => [(46, [46, 47]), (0, []), (1, []), (2, []), (3, []), (4, []), (5, []), (6, []), (7, []), (8, []), (9, []), (10, []), (11, []), (12, []), (13, []), (14, []), (15, []), (16, []), (17, []), (18, []), (19, [17, 18]), (20, [17, 18]), (21, [17, 18, 19, 20]), (22, [17, 18]), (23, [17, 18]), (24, [17, 18]), (25, []), (26, []), (27, []), (28, []), (29, []), (30, []), (31, []), (32, [29, 30, 31]), (33, [29, 30, 31]), (34, []), (35, []), (36, []), (37, []), (38, []), (39, []), (40, []), (41, []), (42, []), (43, []), (44, []), (45, [43, 44])]
  | _ => []
noncomputable def D45 (ann : Nat → LAnn) : FnD := ⟨f45.body.getD .skip, f45.ntmps, f45.results.toList, pl45, ann⟩
theorem fnok45 (ann : Nat → LAnn) : FnOk prog 45 (D45 ann) := ⟨f45, at45, by kernel_rfl, by kernel_rfl, rfl, rfl, by kernel_rfl⟩
theorem at52 : prog.funcs[52]? = some f52 := by kernel_rfl
def pl52 : Nat → Plan
  | 5 => [(0, []), (1, [0]), (2, []), (3, [0, 1, 2]), (4, []), (5, [])]
  | _ => []
noncomputable def D52 (ann : Nat → LAnn) : FnD := ⟨f52.body.getD .skip, f52.ntmps, f52.results.toList, pl52, ann⟩
theorem fnok52 (ann : Nat → LAnn) : FnOk prog 52 (D52 ann) := ⟨f52, at52, by kernel_rfl, by kernel_rfl, rfl, rfl, by kernel_rfl⟩
theorem at53 : prog.funcs[53]? = some f53 := by kernel_rfl
def pl53 : Nat → Plan
  | 10 => [(0, []), (1, [0]), (2, [0, 1]), (3, [0, 1, 2]), (4, [0, 1, 2]), (5, [0, 1, 2, 3, 4]), (6, [0, 1, 2]), (7, [0, 1, 2]), (8, [0, 1, 2, 3, 4, 5, 6, 7]), (9, [0, 1]), (10, []), (11, [])]
  | _ => []
noncomputable def D53 (ann : Nat → LAnn) : FnD := ⟨f53.body.getD .skip, f53.ntmps, f53.results.toList, pl53, ann⟩
theorem fnok53 (ann : Nat → LAnn) : FnOk prog 53 (D53 ann) := ⟨f53, at53, by kernel_rfl, by kernel_rfl, rfl, rfl, by kernel_rfl⟩
theorem at58 : prog.funcs[58]? = some f58 := by kernel_rfl
def pl58 : Nat → Plan
  | _ => []
noncomputable def D58 (ann : Nat → LAnn) : FnD := ⟨f58.body.getD .skip, f58.ntmps, f58.results.toList, pl58, ann⟩
theorem fnok58 (ann : Nat → LAnn) : FnOk prog 58 (D58 ann) := ⟨f58, at58, by kernel_rfl, by kernel_rfl, rfl, rfl, by kernel_rfl⟩
theorem at59 : prog.funcs[59]? = some f59 := by kernel_rfl
def pl59 : Nat → Plan
  | 4 => [(0, []), (1, [0]), (2, [0]), (3, []), (4, []), (5, []), (6, []), (7, [5, 6]), (8, []), (9, []), (10, []), (11, [5, 6, 7, 8, 9, 10]), (12, [5, 6, 7, 8, 9, 10]), (13, [5, 6, 7, 8, 9, 10, 11, 12]), (14, [5, 6, 7, 8, 9, 10]), (15, [5, 6, 7, 8, 9, 10]), (16, [5, 6, 7, 8, 9, 10]), (17, []), (18, []), (19, [])]
  | 6 => [(12, []), (13, [12]), (0, [12, 13]), (1, [12, 13]), (2, [12, 13, 0, 1]), (3, [12, 13, 0, 1]), (4, [12, 13]), (5, [12, 13]), (6, [12, 13, 0, 1, 2, 3, 4, 5]), (7, [12, 13, 0, 1, 2, 3, 4, 5]), (8, [12, 13, 0, 1, 2, 3, 4, 5, 6, 7]), (9, [12, 13, 0, 1, 2, 3, 4, 5, 6, 7]), (10, [12, 13, 0, 1, 2, 3, 4, 5]), (11, [12, 13, 0, 1, 2, 3, 4, 5]), (14, [6, 7, 8, 9, 10, 11]), (15, [])]
  | 8 => [(0, []), (1, [0]), (2, []), (3, []), (4, []), (5, []), (6, []), (7, [4, 5, 6]), (8, [4, 5, 6]), (9, [4, 5, 6]), (10, [4, 5, 6]), (11, []), (12, []), (13, []), (14, []), (15, []), (16, []), (17, [14, 15, 16]), (18, [14, 15, 16]), (19, []), (20, []), (21, []), (22, []), (23, []), (24, [22, 23]), (25, [22, 23]), (26, []), (27, []), (28, [])]
  | 9 => [(10, []), (0, [10]), (1, [10]), (2, [10, 0, 1]), (3, [10, 0, 1]), (4, [10]), (5, [10]), (6, [10, 0, 1, 2, 3, 4, 5]), (7, [10, 0, 1, 2, 3, 4, 5]), (8, [10]), (9, [10]), (11, [])]
  | 12 => [(0, []), (1, []), (2, [0, 1]), (3, [0, 1]), (4, []), (5, []), (6, [0, 1, 2, 3, 4, 5]), (7, [0, 1, 2, 3, 4, 5]), (8, []), (9, [])]
  | 13 => [(0, []), (1, [0]), (2, [0]), (3, [0]), (4, []), (5, []), (6, []), (7, []), (8, [7]), (9, []), (10, []), (11, [7, 8, 9, 10]), (12, [7, 8, 9, 10]), (13, [7, 8, 9, 10, 11, 12]), (14, [7, 8, 9, 10, 11, 12]), (15, [7, 8, 9, 10]), (16, [7, 8, 9, 10]), (17, []), (18, []), (19, []), (20, []), (21, []), (22, [20, 21]), (23, [20, 21]), (24, []), (25, []), (26, [])]
  | 15 => [(0, []), (1, []), (2, []), (3, [0, 1, 2]), (4, [0, 1, 2]), (5, [0, 1, 2]), (6, [0, 1, 2]), (7, []), (8, []), (9, []), (10, []), (11, [9, 10]), (12, [9, 10]), (13, [9, 10, 11, 12]), (14, [9, 10, 11, 12]), (15, [9, 10, 11, 12]), (16, [9, 10]), (17, []), (18, []), (19, [])]
  | _ => []
noncomputable def D59 (ann : Nat → LAnn) : FnD := ⟨f59.body.getD .skip, f59.ntmps, f59.results.toList, pl59, ann⟩
theorem fnok59 (ann : Nat → LAnn) : FnOk prog 59 (D59 ann) := ⟨f59, at59, by kernel_rfl, by kernel_rfl, rfl, rfl, by kernel_rfl⟩
theorem at88 : prog.funcs[88]? = some f88 := by kernel_rfl
def pl88 : Nat → Plan
  | _ => []
noncomputable def D88 (ann : Nat → LAnn) : FnD := ⟨f88.body.getD .skip, f88.ntmps, f88.results.toList, pl88, ann⟩
theorem fnok88 (ann : Nat → LAnn) : FnOk prog 88 (D88 ann) := ⟨f88, at88, by kernel_rfl, by kernel_rfl, rfl, rfl, by kernel_rfl⟩
theorem at89 : prog.funcs[89]? = some f89 := by kernel_rfl
def pl89 : Nat → Plan
  | 4 => [(0, []), (1, []), (2, [0, 1]), (3, []), (4, []), (5, []), (6, [0, 1, 2, 3, 4, 5]), (7, [0, 1, 2, 3, 4, 5]), (8, [0, 1, 2, 3, 4, 5]), (9, [0, 1, 2, 3, 4, 5]), (10, []), (11, []), (12, []), (13, []), (14, []), (15, [13, 14]), (16, []), (17, []), (18, []), (19, []), (20, []), (21, [])]
  | 6 => [(0, []), (1, []), (2, [0, 1]), (3, [0, 1]), (4, [0, 1, 2, 3]), (5, [0, 1]), (6, [0, 1]), (7, [0, 1]), (8, []), (9, []), (10, []), (11, []), (12, []), (13, []), (14, []), (15, []), (16, []), (17, []), (18, []), (19, []), (20, []), (21, []), (22, []), (23, []), (24, [21, 22, 23]), (25, [21, 22, 23]), (26, []), (27, []), (28, []), (29, []), (30, []), (31, []), (32, []), (33, []), (34, []), (35, []), (36, []), (37, []), (38, []), (39, [])]
  | _ => []
noncomputable def D89 (ann : Nat → LAnn) : FnD := ⟨f89.body.getD .skip, f89.ntmps, f89.results.toList, pl89, ann⟩
theorem fnok89 (ann : Nat → LAnn) : FnOk prog 89 (D89 ann) := ⟨f89, at89, by kernel_rfl, by kernel_rfl, rfl, rfl, by kernel_rfl⟩
theorem at91 : prog.funcs[91]? = some f91 := by kernel_rfl
def pl91 : Nat → Plan
  | _ => []
noncomputable def D91 (ann : Nat → LAnn) : FnD := ⟨f91.body.getD .skip, f91.ntmps, f91.results.toList, pl91, ann⟩
theorem fnok91 (ann : Nat → LAnn) : FnOk prog 91 (D91 ann) := ⟨f91, at91, by kernel_rfl, by kernel_rfl, rfl, rfl, by kernel_rfl⟩
theorem at93 : prog.funcs[93]? = some f93 := by kernel_rfl
def pl93 : Nat → Plan
  | _ => []
noncomputable def D93 (ann : Nat → LAnn) : FnD := ⟨f93.body.getD .skip, f93.ntmps, f93.results.toList, pl93, ann⟩
theorem fnok93 (ann : Nat → LAnn) : FnOk prog 93 (D93 ann) := ⟨f93, at93, by kernel_rfl, by kernel_rfl, rfl, rfl, by kernel_rfl⟩
theorem at98 : prog.funcs[98]? = some f98 := by kernel_rfl
def pl98 : Nat → Plan
  | _ => []
noncomputable def D98 (ann : Nat → LAnn) : FnD := ⟨f98.body.getD .skip, f98.ntmps, f98.results.toList, pl98, ann⟩
theorem fnok98 (ann : Nat → LAnn) : FnOk prog 98 (D98 ann) := ⟨f98, at98, by kernel_rfl, by kernel_rfl, rfl, rfl, by kernel_rfl⟩
theorem at100 : prog.funcs[100]? = some f100 := by kernel_rfl
def pl100 : Nat → Plan
  | _ => []
noncomputable def D100 (ann : Nat → LAnn) : FnD := ⟨f100.body.getD .skip, f100.ntmps, f100.results.toList, pl100, ann⟩
theorem fnok100 (ann : Nat → LAnn) : FnOk prog 100 (D100 ann) := ⟨f100, at100, by kernel_rfl, by kernel_rfl, rfl, rfl, by kernel_rfl⟩
end Go.Proofs.Tryz
set_option autoImplicit false
set_option linter.all false
namespace Go.Proofs.Tryz
open Go Go.VM
set_option maxRecDepth 100000
theorem at15 : prog.funcs[15]? = some f15 := by kernel_rfl
def pl15 : Nat → Plan
  | 8 => [(0, []), (1, []), (2, [0, 1]), (3, []), (4, []), (5, []), (6, []), (7, [6]), (8, [7]), (9, [])]
  | 12 => [(0, []), (1, []), (2, [0, 1]), (3, []), (4, [0, 1, 2, 3]), (5, [0, 1, 2, 3]), (6, []), (7, []), (8, []), (9, [8]), (10, [9]), (11, [])]
  | 13 => [(9, []), (0, [9]), (1, [9]), (2, [9, 0, 1]), (3, [9]), (4, [9, 0, 1, 2, 3]), (5, [9]), (6, [9]), (7, [9]), (8, [9, 7]), (10, [8]), (11, [])]
  | 16 => [(0, []), (1, []), (2, [0, 1]), (3, []), (4, [0, 1, 2, 3]), (5, [0, 1, 2, 3]), (6, []), (7, []), (8, []), (9, [8]), (10, [9]), (11, [])]
  | _ => []
noncomputable def D15 (ann : Nat → LAnn) : FnD := ⟨f15.body.getD .skip, f15.ntmps, f15.results.toList, pl15, ann⟩
theorem fnok15 (ann : Nat → LAnn) : FnOk prog 15 (D15 ann) := ⟨f15, at15, by kernel_rfl, by kernel_rfl, rfl, rfl, by kernel_rfl⟩
theorem at104 : prog.funcs[104]? = some f104 := by kernel_rfl
def pl104 : Nat → Plan
  | 6 => [(0, []), (1, [0]), (2, []), (3, []), (4, [0, 1, 2, 3]), (5, [0, 1, 2, 3, 4]), (6, [0, 1, 2, 3]), (7, [0, 1, 2, 3]), (8, [])]
  | _ => []
noncomputable def D104 (ann : Nat → LAnn) : FnD := ⟨f104.body.getD .skip, f104.ntmps, f104.results.toList, pl104, ann⟩
theorem fnok104 (ann : Nat → LAnn) : FnOk prog 104 (D104 ann) := ⟨f104, at104, by kernel_rfl, by kernel_rfl, rfl, rfl, by kernel_rfl⟩
theorem at124 : prog.funcs[124]? = some f124 := by kernel_rfl
def pl124 : Nat → Plan
  | _ => []
noncomputable def D124 (ann : Nat → LAnn) : FnD := ⟨f124.body.getD .skip, f124.ntmps, f124.results.toList, pl124, ann⟩
theorem fnok124 (ann : Nat → LAnn) : FnOk prog 124 (D124 ann) := ⟨f124, at124, by kernel_rfl, by kernel_rfl, rfl, rfl, by kernel_rfl⟩
theorem at128 : prog.funcs[128]? = some f128 := by kernel_rfl
def pl128 : Nat → Plan
  | 4 => [(0, []), (1, [0]), (2, [0, 1]), (3, [0]), (4, [0]), (5, [])]
  | _ => []
noncomputable def D128 (ann : Nat → LAnn) : FnD := ⟨f128.body.getD .skip, f128.ntmps, f128.results.toList, pl128, ann⟩
theorem fnok128 (ann : Nat → LAnn) : FnOk prog 128 (D128 ann) := ⟨f128, at128, by kernel_rfl, by kernel_rfl, rfl, rfl, by kernel_rfl⟩
end Go.Proofs.Tryz
set_option autoImplicit false
set_option linter.all false
namespace Go.Proofs.Tryz
open Go Go.VM
def kpOk (n : Nat) (k : KpD) : Bool := withinF k.1 0 ((n : Int) - 1) && isNumF k.2
def thOk (p : WkD) (k : Nat) (t : ThD) : Bool :=
  decide (t.2.1.length = 10) && numsF t.2.1 && numsF t.2.2.2.1 && withinF t.1 0 ((p.2.1[k]?).getD []).length && decide ((t.2.2.1.length : Int) ≤ p.2.2) && decide (t.2.2.2.1.length ≤ 20) && t.2.2.1.all (kpOk p.1.length)
def thsN (p : WkD) (s : StD) : Nat → Bool
  | 0 => true
  | n + 1 => thOk p (s.2.length - (n + 1)) ((s.2[s.2.length - (n + 1)]?).getD (0, [], [], [], false)) && thsN p s n
def isStF (p : WkD) (s : StD) : Bool := decide (s.1.length = p.1.length) && decide (s.2.length = p.2.1.length) && numsF s.1 && thsN p s s.2.length
def ckStF (p : WkD) (s : StD) : Int := if checkF p ≠ 0 then checkF p else if isStF p s then 0 else 2
theorem thsN_step (p : WkD) (s : StD) (k : Nat) (h : k < s.2.length) : thsN p s (s.2.length - k) = (thOk p k ((s.2[k]?).getD (0, [], [], [], false)) && thsN p s (s.2.length - (k + 1))) := by
  obtain ⟨n, hn⟩ : ∃ n, s.2.length - k = n + 1 := ⟨s.2.length - k - 1, by omega⟩
  rw [hn, thsN, show s.2.length - (n + 1) = k by omega, show s.2.length - (k + 1) = n by omega]
end Go.Proofs.Tryz
set_option autoImplicit false
set_option linter.all false
namespace Go.Proofs.Tryz
open Go Go.VM
set_option maxRecDepth 100000
def a88 (L : Lv) (I : Ds [It] → Prop) (mu : Ds [It] → Nat) : Nat → LAnn
  | 0 => anH L [0, 3] [] [.s 3 It] I mu
  | _ => .no
def n88 (L : Lv) (F : BxF) (I : Ds [It] → Prop) (mu : Ds [It] → Nat) (l : List Int)  : VC :=
 VC.obl (St.mk 16 [(0, V.c (C.sl It l)), (3, V.c (C.int IntKind.i64 0))] [(0, Ob.amb)] 1 = St.mk 16 [(0, V.c (C.sl It l)), (3, V.c (C.int IntKind.i64 0))] [(0, Ob.amb)] 1) (VC.obl
   (I (0, ())) (VC.all (Int × Unit) fun (v1 : Int × Unit) =>
 let z1 := Prod.fst v1;
 let z2 := Lv.ar L BinOp.add IntKind.i64 z1 1;
 let z3 := (Lv.ar L BinOp.add IntKind.i64 z1 1, ()); VC.imp (I v1) (VC.br (Lv.cmp L BinOp.lss z1 (Lv.cast L (Lv.llen L It l))) (VC.obl (Lv.inR L z1 (Lv.llen L It l)) (VC.obl True
   (VC.br (BxF.isNum F (Lv.get L It l (Lv.toN L z1))) (VC.ok (St.mk 16 [(0, V.c (C.sl It l)), (3, V.c (C.int IntKind.i64 z2))] [(0, Ob.amb)] 1 = St.mk 16 [(0, V.c (C.sl It l)), (3,
   V.c (C.int IntKind.i64 z2))] [(0, Ob.amb)] 1 ∧ I z3 ∧ mu z3 < mu v1)) (VC.ok ((false, ()) = (BxF.nums F l, ())))))) (VC.ok ((true, ()) = (BxF.nums F l, ()))))))
theorem n88_eq (L : Lv) (F : BxF) (I : Ds [It] → Prop) (mu : Ds [It] → Nat) (l : List Int) : vcC L F [63] (D88 (a88 L I mu)) (S87 F) (l, ()) = n88 L F I mu l := by kernel_rfl
theorem n88_go (L : Lv) (F : BxF) (I : Ds [It] → Prop) (mu : Ds [It] → Nat) (l : List Int) (h : VC.holds (n88 L F I mu l)) : Holds (vcC L F [63] (D88 (a88 L I mu)) (S87 F) (l, ())) := Holds.of_eq (n88_eq L F I mu l) h
theorem ok88 (F : BxF) (h : F.nums = numsF) (h1 : F.isNum = isNumF) (hp : F.bl = bL) (k1 : SpecOk prog 63 (S92 F)) : SpecOk prog 88 (S87 F) := by
  refine contract_by hm hE D88 fnok88 _ fun (z : List Int × Unit) hpre => ?_
  obtain ⟨l, ⟨⟩⟩ := z
  have hpre' : F.bl l := hpre
  rw [hp] at hpre'
  have g : l.length ≤ 1000000 := hpre'
  let I : Int × Unit → Prop := fun x => 0 ≤ x.1 ∧ x.1 ≤ l.length ∧ (l.drop x.1.toNat).all isNumF = numsF l
  let mu : Int × Unit → Nat := fun x => (l.length - x.1).toNat
  refine pack _ 3 (a88 Lv.std I mu) (only_tab (T := cT F) (l := [63]) (tb_cons (tb_sp k1 (by kernel_rfl)) tb_nil)) ?_
  refine n88_go Lv.std F I mu l ?_
  simp only [n88, VC.holds, std_cmp, std_scmp, std_ar_add, std_ar_sub, std_ar_mul, std_ar, std_dv, std_shf, std_conv, std_mn, std_mx, std_beq, std_bnot, std_band, std_scat, std_byte, std_ext, std_slen, std_strOf, std_bytes, std_llen, std_get, std_setl, std_app, std_take, std_drop, std_rep, std_mhas, std_mval, std_mput, std_cast, std_toN, std_sub, std_add, std_inR, std_le3, std_leN, std_ltN, std_ne0, std_nonneg, std_catOk, std_room, std_mkOk, std_nth, std_cnt, cmp_lss_t, cmp_lss_f, cmp_leq_t, cmp_leq_f, cmp_gtr_t, cmp_gtr_f, cmp_geq_t, cmp_geq_f, cmp_eql_t, cmp_eql_f, cmp_neq_t, cmp_neq_f, scmp_eql_t, scmp_eql_f, scmp_neq_t, scmp_neq_f, dflt_int, dflt_bool, dflt_str, dflt_sl, dflt_pair, h, h1, Prod.mk.injEq, and_true, true_and]
  refine ⟨⟨Int.le_refl 0, by show (0 : Int) ≤ l.length; omega, rfl⟩, ?_⟩
  rintro ⟨x, ⟨⟩⟩ ⟨i1, i2, i3⟩
  simp only at i1 i2 i3 ⊢
  obtain ⟨k, rfl⟩ := nat_of i1
  rw [Int.toNat_natCast] at i3
  refine ⟨fun hlt => ⟨⟨i1, hlt⟩, fun hn => ?_, fun hn => ?_⟩, fun hge => ?_⟩
  · rw [wr hlt g]
    rw [all_drop isNumF l k 0 (by omega), Int.toNat_natCast] at *
    rw [hn, Bool.true_and] at i3
    exact ⟨⟨by show (0 : Int) ≤ ((k + 1 : Nat) : Int); omega, by show ((k + 1 : Nat) : Int) ≤ l.length; omega, by show (l.drop ((k + 1 : Nat) : Int).toNat).all isNumF = _; rw [Int.toNat_natCast]; exact i3⟩, by show ((l.length : Int) - ((k + 1 : Nat) : Int)).toNat < ((l.length : Int) - k).toNat; omega⟩
  · rw [all_drop isNumF l k 0 (by omega)] at i3
    rw [Int.toNat_natCast] at hn
    rw [hn, Bool.false_and] at i3
    exact i3
  · rw [show k = l.length by omega, List.drop_length] at i3
    exact i3
end Go.Proofs.Tryz
set_option autoImplicit false
set_option linter.all false
namespace Go.Proofs.Tryz
open Go Go.VM
theorem okT_iff (p : WkD) (k : Nat) (t : ThD) : thOk p k t = true ↔ OkT p k t := by
  unfold thOk
  simp only [Bool.and_eq_true, decide_eq_true_eq, withinF_t, List.all_eq_true, kpOk]
  constructor
  · rintro ⟨⟨⟨⟨⟨⟨h1, h2⟩, h3⟩, h4⟩, h5⟩, h6⟩, h7⟩
    refine ⟨h1, h2, h3, h4.1, by rw [listAt_nat]; exact h4.2, h5, h6, fun x hx => ?_⟩
    obtain ⟨⟨a1, a2⟩, a3⟩ := h7 x hx
    exact ⟨⟨a1, by omega⟩, a3⟩
  · rintro ⟨h1, h2, h3, h4, h4', h5, h6, h7⟩
    refine ⟨⟨⟨⟨⟨⟨h1, h2⟩, h3⟩, h4, by rw [listAt_nat] at h4'; exact h4'⟩, h5⟩, h6⟩, fun x hx => ?_⟩
    obtain ⟨⟨a1, a2⟩, a3⟩ := h7 x hx
    exact ⟨⟨a1, by omega⟩, a3⟩
theorem thsN_iff (p : WkD) (s : StD) : ∀ n, n ≤ s.2.length → (thsN p s n = true ↔ ∀ k : Nat, s.2.length - n ≤ k → k < s.2.length → thOk p k (thAt s k) = true)
  | 0, _ => by
    simp only [thsN, true_iff]
    intro k h1 h2; omega
  | n + 1, hn => by
    rw [thsN, Bool.and_eq_true, thsN_iff p s n (by omega)]
    have e : (s.2[s.2.length - (n + 1)]?).getD (0, [], [], [], false) = thAt s ((s.2.length - (n + 1) : Nat) : Int) := by unfold thAt; rw [Int.toNat_natCast]
    rw [e]
    constructor
    · rintro ⟨h1, h2⟩ k hk hk2
      by_cases hx : k = s.2.length - (n + 1)
      · subst hx; exact h1
      · exact h2 k (by omega) hk2
    · exact fun h => ⟨h _ (Nat.le_refl _) (by omega), fun k hk hk2 => h k (by omega) hk2⟩
theorem okS_iff (p : WkD) (s : StD) : isStF p s = true ↔ OkS p s := by
  unfold isStF
  simp only [Bool.and_eq_true, decide_eq_true_eq, thsN_iff p s _ (Nat.le_refl _)]
  constructor
  · rintro ⟨⟨⟨h1, h2⟩, h3⟩, h4⟩
    exact ⟨h1, h2, h3, fun k hk => (okT_iff p k _).1 (h4 k (by omega) hk)⟩
  · rintro ⟨h1, h2, h3, h4⟩
    exact ⟨⟨⟨h1, h2⟩, h3⟩, fun k _ hk => (okT_iff p k _).2 (h4 k hk)⟩
theorem ckSt_iff (p : WkD) (s : StD) : ckStF p s = 0 ↔ OkP p ∧ OkS p s := by
  unfold ckStF
  rw [← okP_iff, ← okS_iff]
  by_cases h : checkF p = 0
  · rw [if_neg (by simpa using h)]
    by_cases h2 : isStF p s = true
    · simp [h, h2]
    · simp only [h2]; simp
  · rw [if_pos h]; simp [h]
end Go.Proofs.Tryz
set_option autoImplicit false
set_option linter.all false
namespace Go.Proofs.Tryz
open Go Go.VM
set_option maxRecDepth 100000
def aIk (L : Lv) (I : Int × List KpD × Unit → Ds [It] → Prop) (mu : Int × List KpD × Unit → Ds [It] → Nat) : Nat → LAnn
  | 0 => anE L [0, 1, 7, 8] [] [.fn 1, .h (.s 0 (.sl Kp))] [.s 8 It] I mu
  | _ => .no
noncomputable def o45 (L : Lv) (I : Int × List KpD × Unit → Ds [It] → Prop) (mu : Int × List KpD × Unit → Ds [It] → Nat) : List (Nat × FT) := [(91, .inl (D91 a0)), (93, .inl (D93 a0)), (124, .inl (D124 (aIk L I mu)))]
def n45 (L : Lv) (F : BxF) (I0 : Ds [It] → Prop) (mu0 : Ds [It] → Nat) (I : Int × List KpD × Unit → Ds [It] → Prop) (mu : Int × List KpD × Unit → Ds [It] → Nat) (p : WkD) (s : StD)  : VC :=
 let z1 := Prod.snd p;
 let z2 := (Prod.fst p, Prod.fst z1, Prod.snd z1);
 let z3 := (BxF.ckSt F p s, ());
 let z4 := Prod.fst s;
 let z5 := Lv.cast L (Lv.llen L It z4);
 let z6 := Prod.fst p;
 let z7 := Prod.snd s;
 let z8 := Lv.llen L Th z7;
 let z9 := Lv.cast L z8;
 let z10 := Prod.fst z1;
 let z11 := Lv.llen L (Ty.sl In) z10;
 let z12 := Prod.snd z1; VC.obl (BxF.bw F z2) (VC.br (Lv.cmp L BinOp.neq (BxF.check F z2) 0) (VC.ok ((BxF.check F z2, ()) = z3)) (VC.br (Lv.cmp L BinOp.neq z5 (Lv.cast L (Lv.llen L
   It z6))) (VC.ok ((2, ()) = z3)) (VC.br (Lv.cmp L BinOp.neq z9 (Lv.cast L z11)) (VC.ok ((2, ()) = z3)) (VC.obl (BxF.bl F z4) (VC.br (BxF.nums F z4) (VC.obl (St.mk 94 [(2, V.c
   (C.ptr 1 0)), (3, V.c (C.ptr 2 0)), (37, V.c (C.sl Th z7)), (38, V.c (C.int IntKind.i64 z9)), (39, V.c (C.int IntKind.i64 0))] [(0, Ob.amb), (1, Ob.box 25 [C.sl It z6, C.sl
   (Ty.sl In) z10, C.int IntKind.i64 z12]), (2, Ob.box 59 [C.sl It z4, C.sl Th z7])] 3 = St.mk 94 [(2, V.c (C.ptr 1 0)), (3, V.c (C.ptr 2 0)), (37, V.c (C.sl Th z7)), (38, V.c
   (C.int IntKind.i64 z9)), (39, V.c (C.int IntKind.i64 0))] [(0, Ob.amb), (1, Ob.box 25 [C.sl It z6, C.sl (Ty.sl In) z10, C.int IntKind.i64 z12]), (2, Ob.box 59 [C.sl It z4, C.sl
   Th z7])] 3) (VC.obl (I0 (0, ())) (VC.all (Int × Unit) fun (v1 : Int × Unit) =>
 let z13 := Prod.fst v1;
 let z14 := Lv.toN L z13;
 let z15 := Lv.get L Th z7 z14;
 let z16 := Prod.snd z15;
 let z17 := Prod.fst z16;
 let z18 := Prod.snd z16;
 let z19 := Prod.snd z18;
 let z20 := Prod.fst z19;
 let z21 := Prod.fst z15;
 let z22 := Prod.fst z18;
 let z23 := Lv.llen L Kp z22;
 let z24 := Lv.cast L z23;
 let z25 := Prod.snd z19;
 let z26 := Lv.ar L BinOp.add IntKind.i64 z13 1;
 let z27 := (Lv.ar L BinOp.add IntKind.i64 z13 1, ()); VC.imp (I0 v1) (VC.br (Lv.cmp L BinOp.lss z13 z9) (VC.obl (Lv.inR L z13 z8) (VC.br (Lv.cmp L BinOp.neq (Lv.cast L (Lv.llen L
   It z17)) 10) (VC.ok ((2, ()) = z3)) (VC.obl (BxF.bl F z17) (VC.br (BxF.nums F z17) (VC.obl (BxF.bl F z20) (VC.br (BxF.nums F z20) (VC.obl (Lv.inR L z13 z11) (VC.obl True (VC.br
   (BxF.within F z21 0 (Lv.cast L (Lv.llen L In (Lv.get L (Ty.sl In) z10 z14)))) (VC.br (Lv.cmp L BinOp.gtr z24 z12) (VC.ok ((2, ()) = z3)) (VC.br (Lv.cmp L BinOp.gtr (Lv.cast L
   (Lv.llen L It z20)) 20) (VC.ok ((2, ()) = z3)) (VC.obl (St.mk 19 [(0, V.c (C.sl Kp z22)), (1, V.c (C.fn 91 [2])), (7, V.c (C.int IntKind.i64 z24)), (8, V.c (C.int IntKind.i64
   0))] [(0, Ob.amb), (1, Ob.box 25 [C.sl It z6, C.sl (Ty.sl In) z10, C.int IntKind.i64 z12]), (2, Ob.box 59 [C.sl It z4, C.sl Th z7]), (3, Ob.box 99 [C.int IntKind.i64 z21, C.sl It
   z17, C.sl Kp z22, C.sl It z20, C.sym z25])] 4 = St.mk 19 [(0, V.c (C.sl Kp z22)), (1, V.c (C.fn 91 [2])), (7, V.c (C.int IntKind.i64 z24)), (8, V.c (C.int IntKind.i64 0))] [(0,
   Ob.amb), (1, Ob.box 25 [C.sl It z6, C.sl (Ty.sl In) z10, C.int IntKind.i64 z12]), (2, Ob.box 59 [C.sl It z4, C.sl Th z7]), (3, Ob.box 99 [C.int IntKind.i64 z21, C.sl It z17, C.sl
   Kp z22, C.sl It z20, C.sym z25])] 4) (VC.obl (I (91, Prod.fst z18, ()) (0, ())) (VC.all (Int × Unit) fun (v2 : Int × Unit) =>
 let z28 := Prod.fst v2;
 let z29 := Lv.get L Kp z22 (Lv.toN L z28);
 let z30 := Lv.ar L BinOp.add IntKind.i64 z28 1;
 let z31 := (Lv.ar L BinOp.add IntKind.i64 z28 1, ());
 let z32 := Lv.cmp L BinOp.geq z28 0; VC.imp (I (91, Prod.fst z18, ()) v2) (VC.br (Lv.cmp L BinOp.lss z28 z24) (VC.obl (Lv.inR L z28 z23) (VC.obl True (VC.br (BxF.within F (Prod.fst
   z29) 0 (Lv.ar L BinOp.sub IntKind.i64 z5 1)) (VC.obl True (VC.br (BxF.isNum F (Prod.snd z29)) (VC.ok (St.mk 19 [(0, V.c (C.sl Kp z22)), (1, V.c (C.fn 91 [2])), (7, V.c (C.int
   IntKind.i64 z24)), (8, V.c (C.int IntKind.i64 z30))] [(0, Ob.amb), (1, Ob.box 25 [C.sl It z6, C.sl (Ty.sl In) z10, C.int IntKind.i64 z12]), (2, Ob.box 59 [C.sl It z4, C.sl Th
   z7]), (3, Ob.box 99 [C.int IntKind.i64 z21, C.sl It z17, C.sl Kp z22, C.sl It z20, C.sym z25])] 4 = St.mk 19 [(0, V.c (C.sl Kp z22)), (1, V.c (C.fn 91 [2])), (7, V.c (C.int
   IntKind.i64 z24)), (8, V.c (C.int IntKind.i64 z30))] [(0, Ob.amb), (1, Ob.box 25 [C.sl It z6, C.sl (Ty.sl In) z10, C.int IntKind.i64 z12]), (2, Ob.box 59 [C.sl It z4, C.sl Th
   z7]), (3, Ob.box 99 [C.int IntKind.i64 z21, C.sl It z17, C.sl Kp z22, C.sl It z20, C.sym z25])] 4 ∧ I (91, Prod.fst z18, ()) z31 ∧ mu (91, Prod.fst z18, ()) z31 < mu (91,
   Prod.fst z18, ()) v2)) (VC.br z32 (VC.ok ((2, ()) = z3)) (VC.ok (St.mk 94 [(2, V.c (C.ptr 1 0)), (3, V.c (C.ptr 2 0)), (37, V.c (C.sl Th z7)), (38, V.c (C.int IntKind.i64 z9)),
   (39, V.c (C.int IntKind.i64 z26))] [(0, Ob.amb), (1, Ob.box 25 [C.sl It z6, C.sl (Ty.sl In) z10, C.int IntKind.i64 z12]), (2, Ob.box 59 [C.sl It z4, C.sl Th z7])] 3 = St.mk 94
   [(2, V.c (C.ptr 1 0)), (3, V.c (C.ptr 2 0)), (37, V.c (C.sl Th z7)), (38, V.c (C.int IntKind.i64 z9)), (39, V.c (C.int IntKind.i64 z26))] [(0, Ob.amb), (1, Ob.box 25 [C.sl It z6,
   C.sl (Ty.sl In) z10, C.int IntKind.i64 z12]), (2, Ob.box 59 [C.sl It z4, C.sl Th z7])] 3 ∧ I0 z27 ∧ mu0 z27 < mu0 v1))))) (VC.br z32 (VC.ok ((2, ()) = z3)) (VC.ok (St.mk 94 [(2,
   V.c (C.ptr 1 0)), (3, V.c (C.ptr 2 0)), (37, V.c (C.sl Th z7)), (38, V.c (C.int IntKind.i64 z9)), (39, V.c (C.int IntKind.i64 z26))] [(0, Ob.amb), (1, Ob.box 25 [C.sl It z6, C.sl
   (Ty.sl In) z10, C.int IntKind.i64 z12]), (2, Ob.box 59 [C.sl It z4, C.sl Th z7])] 3 = St.mk 94 [(2, V.c (C.ptr 1 0)), (3, V.c (C.ptr 2 0)), (37, V.c (C.sl Th z7)), (38, V.c
   (C.int IntKind.i64 z9)), (39, V.c (C.int IntKind.i64 z26))] [(0, Ob.amb), (1, Ob.box 25 [C.sl It z6, C.sl (Ty.sl In) z10, C.int IntKind.i64 z12]), (2, Ob.box 59 [C.sl It z4, C.sl
   Th z7])] 3 ∧ I0 z27 ∧ mu0 z27 < mu0 v1)))))) (VC.br (Lv.cmp L BinOp.geq (Int.negSucc 0) 0) (VC.ok ((2, ()) = z3)) (VC.ok (St.mk 94 [(2, V.c (C.ptr 1 0)), (3, V.c (C.ptr 2 0)),
   (37, V.c (C.sl Th z7)), (38, V.c (C.int IntKind.i64 z9)), (39, V.c (C.int IntKind.i64 z26))] [(0, Ob.amb), (1, Ob.box 25 [C.sl It z6, C.sl (Ty.sl In) z10, C.int IntKind.i64
   z12]), (2, Ob.box 59 [C.sl It z4, C.sl Th z7])] 3 = St.mk 94 [(2, V.c (C.ptr 1 0)), (3, V.c (C.ptr 2 0)), (37, V.c (C.sl Th z7)), (38, V.c (C.int IntKind.i64 z9)), (39, V.c
   (C.int IntKind.i64 z26))] [(0, Ob.amb), (1, Ob.box 25 [C.sl It z6, C.sl (Ty.sl In) z10, C.int IntKind.i64 z12]), (2, Ob.box 59 [C.sl It z4, C.sl Th z7])] 3 ∧ I0 z27 ∧ mu0 z27 <
   mu0 v1))))))))) (VC.ok ((2, ()) = z3))))) (VC.ok ((2, ()) = z3)))) (VC.ok ((2, ()) = z3)))))) (VC.ok ((0, ()) = z3)))))) (VC.ok ((2, ()) = z3)))))))
theorem n45_eq (L : Lv) (F : BxF) (I0 : Ds [It] → Prop) (mu0 : Ds [It] → Nat) (I : Int × List KpD × Unit → Ds [It] → Prop) (mu : Int × List KpD × Unit → Ds [It] → Nat) (p : WkD) (s : StD) : vcO L F (o45 L I mu) [38, 86, 87, 92, 91, 93, 124] 6 (D45 (a45 L I0 mu0)) (S45 F) (p, s, ()) = n45 L F I0 mu0 I mu p s := by kernel_rfl
theorem n45_go (L : Lv) (F : BxF) (I0 : Ds [It] → Prop) (mu0 : Ds [It] → Nat) (I : Int × List KpD × Unit → Ds [It] → Prop) (mu : Int × List KpD × Unit → Ds [It] → Nat) (p : WkD) (s : StD) (h : VC.holds (n45 L F I0 mu0 I mu p s)) : Holds (vcO L F (o45 L I mu) [38, 86, 87, 92, 91, 93, 124] 6 (D45 (a45 L I0 mu0)) (S45 F) (p, s, ())) := Holds.of_eq (n45_eq L F I0 mu0 I mu p s) h
theorem ok45 (F : BxF) (h : F.ckSt = ckStF) (h1 : F.check = checkF) (h2 : F.nums = numsF) (h3 : F.isNum = isNumF) (h4 : F.within = withinF) (hp : F.pSt = fun p s => bW p ∧ bS s) (q : F.bl = bL) (q1 : F.bw = bW) (k1 : SpecOk prog 38 (S22 F)) (k2 : SpecOk prog 86 (S86 F)) (k3 : SpecOk prog 87 (S87 F)) (k4 : SpecOk prog 92 (S92 F)) : SpecOk prog 45 (S45 F) := by
  refine contract_by hm hE D45 fnok45 _ fun (z : WkD × StD × Unit) hpre => ?_
  obtain ⟨p, s, ⟨⟩⟩ := z
  have hpre' : F.pSt p s := hpre
  rw [hp] at hpre'
  obtain ⟨gw, g4, g5, g6⟩ := hpre'
  have gw' := gw
  obtain ⟨g1, g2, g3⟩ := gw
  let I0 : Int × Unit → Prop := Iv s.2.length fun j => thsN p s (s.2.length - j) = thsN p s s.2.length
  let I : Int × List KpD × Unit → Int × Unit → Prop := fun e => Iv e.2.1.length fun j => (e.2.1.drop j).all (kpOk s.1.length) = e.2.1.all (kpOk s.1.length)
  let mu : Int × List KpD × Unit → Int × Unit → Nat := fun e => Mu e.2.1.length
  refine pack _ 6 (a45 Lv.std I0 (Mu s.2.length)) (only_tab (T := tabO (o45 Lv.std I mu) (cT F)) (l := [38, 86, 87, 92, 91, 93, 124]) (tb_cons (tb_sp k1 (by kernel_rfl)) (tb_cons (tb_sp k2 (by kernel_rfl)) (tb_cons (tb_sp k3 (by kernel_rfl)) (tb_cons (tb_sp k4 (by kernel_rfl)) (tb_cons (tb_d (fnok91 a0) (by kernel_rfl)) (tb_cons (tb_d (fnok93 a0) (by kernel_rfl)) (tb_cons (tb_d (fnok124 (aIk Lv.std I mu)) (by kernel_rfl)) tb_nil)))))))) ?_
  refine n45_go Lv.std F I0 (Mu s.2.length) I mu p s ?_
  have e1 : ∀ (l : List ThD) (k : Int), Lv.std.get Th l k.toNat = (l[k.toNat]?).getD (0, [], [], [], false) := fun _ _ => rfl
  have e2 : ∀ (l : List (List InD)) (k : Int), Lv.std.get (.sl In) l k.toNat = (l[k.toNat]?).getD [] := fun _ _ => rfl
  have e3 : ∀ (l : List KpD) (k : Int), Lv.std.get Kp l k.toNat = (l[k.toNat]?).getD (0, 0) := fun _ _ => rfl
  have ew : IntKind.i64.wrap ((s.1.length : Int) - 1) = (s.1.length : Int) - 1 := wrap_i64 (by omega) (by omega)
  have neg1 : (Int.negSucc 0 : Int) = -1 := rfl
  simp only [n45, VC.holds, std_cmp, std_cast, std_llen, std_toN, e1, e2, e3, std_inR, std_ar_add, std_ar_sub, ew, neg1, cmp_lss_t, cmp_lss_f, cmp_gtr_t, cmp_gtr_f, cmp_geq_t, cmp_geq_f, cmp_neq_t, cmp_neq_f, cmp_eql_t, cmp_eql_f, h, h1, h2, h3, h4, q, q1, Prod.mk.injEq, and_true, true_and, Int.toNat_natCast]
  refine ⟨gw', fun c0 => ?_, fun c0 => ⟨fun c1 => ?_, fun c1 => ⟨fun c2 => ?_, fun c2 => ⟨g4, fun c3 => ⟨Iv.zero rfl, fun x hx => ?_⟩, fun c3 => ?_⟩⟩⟩⟩
  · rw [ckStF, if_pos c0]
  · rw [ckStF, if_neg (by simpa using c0), isStF, decide_eq_false (by omega : ¬ s.1.length = p.1.length)]; rfl
  · rw [ckStF, if_neg (by simpa using c0), isStF, decide_eq_false (by omega : ¬ s.2.length = p.2.1.length)]; simp
  · obtain ⟨j, rfl, hj, i3⟩ := Iv.elim hx
    simp only [Int.toNat_natCast]
    have hl : s.1.length = p.1.length := by omega
    have e0 : isStF p s = thsN p s s.2.length := by rw [isStF, decide_eq_true hl, decide_eq_true (by omega), c3]; rfl
    refine ⟨fun hlt => ⟨⟨by omega, hlt⟩, ?_⟩, fun hge => ?_⟩
    · have hj' : j < s.2.length := by omega
      generalize ht : (s.2[j]?).getD (0, [], [], [], false) = t
      have bt : bTh t := by rw [← ht, List.getElem?_eq_getElem hj']; exact g6 _ (List.getElem_mem hj')
      obtain ⟨b1, b2, b3⟩ := bt
      rw [thsN_step p s j hj', ht] at i3
      have no : thOk p j t = false → 2 = ckStF p s := fun e => by
        rw [e, Bool.false_and] at i3
        rw [ckStF, if_neg (by simpa using c0), e0, ← i3]; rfl
      have yes : thOk p j t = true → I0 (((j + 1 : Nat) : Int), ()) := fun e => by
        rw [e, Bool.true_and] at i3
        exact Iv.mk (by omega) i3
      have gen : ∀ (X : Prop), (thOk p j t = false → X) → X ∨ thOk p j t = true := fun X hX => by cases hh : thOk p j t with | false => exact .inl (hX hh) | true => exact .inr rfl
      refine ⟨fun d1 => no ?_, fun d1 => ⟨b1, fun d2 => ⟨b3, fun d3 => ⟨⟨by omega, by omega⟩, fun d4 => ⟨fun d5 => no ?_, fun d5 => ⟨fun d6 => no ?_, fun d6 => ⟨Iv.zero rfl, fun x hx => ?_⟩⟩⟩, fun d4 => no ?_⟩, fun d3 => no ?_⟩, fun d2 => no ?_⟩⟩
      · rw [thOk, decide_eq_false (by omega : ¬ t.2.1.length = 10)]; simp
      · rw [thOk, decide_eq_false (by omega : ¬ (t.2.2.1.length : Int) ≤ p.2.2)]; simp
      · rw [thOk, decide_eq_false (by omega : ¬ t.2.2.2.1.length ≤ 20)]; simp
      · obtain ⟨y, rfl, hy, m3⟩ := Iv.elim hx
        have hy1 : y ≤ t.2.2.1.length := hy
        simp only [Int.toNat_natCast] at m3 ⊢
        have all0 : t.2.2.1.all (kpOk p.1.length) = false → thOk p j t = false := fun e => by rw [thOk, e, Bool.and_false]
        have m3' : (t.2.2.1.drop y).all (kpOk p.1.length) = t.2.2.1.all (kpOk p.1.length) := by rw [← hl]; exact m3
        refine ⟨fun hlt2 => ⟨⟨by omega, hlt2⟩, fun e1 => ⟨fun e2 => ?_, fun e2 => ⟨fun _ => no (all0 ?_), fun hc => by omega⟩⟩, fun e1 => ⟨fun _ => no (all0 ?_), fun hc => by omega⟩⟩, fun hge2 => ⟨fun hc => by omega, fun _ => ?_⟩⟩
        · rw [all_drop _ _ y (0, 0) (by omega), kpOk, e1, e2, Bool.and_self, Bool.true_and] at m3
          rw [wr hlt2 b2]
          exact ⟨Iv.mk (by show y + 1 ≤ t.2.2.1.length; omega) m3, Mu.lt (n := t.2.2.1.length) (by omega)⟩
        · rw [← hl, all_drop _ _ y (0, 0) (by omega), kpOk, e2, Bool.and_false, Bool.false_and] at m3'
          exact (by rw [← hl]; exact m3'.symm)
        · rw [← hl, all_drop _ _ y (0, 0) (by omega), kpOk, e1, Bool.false_and, Bool.false_and] at m3'
          exact (by rw [← hl]; exact m3'.symm)
        · rw [show y = t.2.2.1.length by omega, List.drop_length] at m3'
          rw [wr hlt g5]
          exact ⟨yes (by rw [thOk, decide_eq_true (by omega), d2, d3, d4, decide_eq_true d5, decide_eq_true (by omega), ← m3']; rfl), Mu.lt (by omega)⟩
      · rw [thOk, d4]; simp
      · rw [thOk, d3]; simp
      · rw [thOk, d2]; simp
    · rw [show s.2.length - j = 0 by omega] at i3
      rw [ckStF, if_neg (by simpa using c0), e0, ← i3]; rfl
  · rw [ckStF, if_neg (by simpa using c0), isStF, c3]; simp
end Go.Proofs.Tryz
set_option autoImplicit false
set_option linter.all false
namespace Go.Proofs.Tryz
open Go Go.VM
set_option maxRecDepth 100000
def a43 (L : Lv) (I : Ds [.sl Th, It] → Prop) (mu : Ds [.sl Th, It] → Nat) : Nat → LAnn
  | 0 => anH L [1, 2, 3, 4] [(3, some 1, 99, Th)] [.br 3 1 Th, .s 4 It] I mu
  | _ => .no
def n43 (L : Lv) (F : BxF) (I : Ds [.sl Th, It] → Prop) (mu : Ds [.sl Th, It] → Nat) (s : StD)  : VC :=
 let z1 := Lv.take L It [] 0;
 let z2 := Lv.llen L It z1;
 let z3 := Prod.fst s;
 let z4 := Lv.add L z2 (Lv.llen L It z3);
 let z5 := Prod.snd s;
 let z6 := Lv.app L It z1 z3;
 let z7 := Int × List Int × List (Int × Int) × List Int × Bool;
 let z8 := Lv.llen L Th z5;
 let z9 := Lv.take L Kp [] 0;
 let z10 := Lv.llen L Kp z9; VC.obl (Lv.room L z4 8) (VC.obl (St.mk 45 [(1, V.c (C.ptr 1 0)), (2, V.c (C.ptr 2 0)), (3, V.c (C.ptr 5 0)), (4, V.c (C.int IntKind.i64 0))] [(0,
   Ob.amb), (1, Ob.box 59 [C.sl It z3, C.sl Th z5]), (2, Ob.box 59 [C.nils, C.nils]), (4, Ob.row 3 It z6), (5, Ob.box 59 [C.own 4 z4, C.own 7 0]), (7, Ob.row 99 Th [])] 8 = St.mk 45
   [(1, V.c (C.ptr 1 0)), (2, V.c (C.ptr 2 0)), (3, V.c (C.ptr 5 0)), (4, V.c (C.int IntKind.i64 0))] [(0, Ob.amb), (1, Ob.box 59 [C.sl It z3, C.sl Th z5]), (2, Ob.box 59 [C.nils,
   C.nils]), (4, Ob.row 3 It z6), (5, Ob.box 59 [C.own 4 z4, C.own 7 (Lv.llen L Th [])]), (7, Ob.row 99 Th [])] 8) (VC.obl (I ([], 0, ())) (VC.all (List z7 × Int × Unit) fun (v1 :
   List (Int × List Int × List (Int × Int) × List Int × Bool) × Int × Unit) =>
 let z11 := Prod.fst (Prod.snd v1);
 let z12 := Lv.get L Th z5 (Lv.toN L z11);
 let z13 := Prod.snd z12;
 let z14 := Prod.fst z13;
 let z15 := Lv.add L z2 (Lv.llen L It z14);
 let z16 := Prod.snd z13;
 let z17 := Prod.fst z16;
 let z18 := Lv.add L z10 (Lv.llen L Kp z17);
 let z19 := Prod.snd z16;
 let z20 := Prod.fst z19;
 let z21 := Lv.add L z2 (Lv.llen L It z20);
 let z22 := Prod.fst v1;
 let z23 := Lv.llen L Th z22;
 let z24 := Lv.take L Th z22 z23;
 let z25 := (Lv.take L Th [(Prod.fst z12, Lv.take L It (Lv.app L It z1 z14) z15, Lv.take L Kp (Lv.app L Kp z9 z17) z18, Lv.take L It (Lv.app L It z1 z20) z21, Prod.snd z19)] 1);
 let z26 := Lv.add L (Lv.llen L Th z24) (Lv.llen L Th z25);
 let z27 := Lv.ar L BinOp.add IntKind.i64 z11 1;
 let z28 := Lv.app L Th z24 z25;
 let z29 := (Lv.app L Th z24 z25, Lv.ar L BinOp.add IntKind.i64 z11 1, ()); VC.imp (I v1) (VC.br (Lv.cmp L BinOp.lss z11 (Lv.cast L z8)) (VC.obl (Lv.inR L z11 z8) (VC.obl (Lv.room L
   z15 8) (VC.obl (Lv.room L z18 16) (VC.obl (Lv.room L z21 8) (VC.obl (Lv.room L z26 88) (VC.ok (St.mk 45 [(1, V.c (C.ptr 1 0)), (2, V.c (C.ptr 2 0)), (3, V.c (C.ptr 5 0)), (4, V.c
   (C.int IntKind.i64 z27))] [(0, Ob.amb), (1, Ob.box 59 [C.sl It z3, C.sl Th z5]), (2, Ob.box 59 [C.nils, C.nils]), (4, Ob.row 3 It z6), (5, Ob.box 59 [C.own 4 z4, C.own 7 z26]),
   (7, Ob.row 99 Th z28)] 8 = St.mk 45 [(1, V.c (C.ptr 1 0)), (2, V.c (C.ptr 2 0)), (3, V.c (C.ptr 5 0)), (4, V.c (C.int IntKind.i64 z27))] [(0, Ob.amb), (1, Ob.box 59 [C.sl It z3,
   C.sl Th z5]), (2, Ob.box 59 [C.nils, C.nils]), (4, Ob.row 3 It z6), (5, Ob.box 59 [C.own 4 z4, C.own 7 (Lv.llen L Th z28)]), (7, Ob.row 99 Th z28)] 8 ∧ I z29 ∧ mu z29 < mu
   v1))))))) (VC.ok (((Lv.take L It z6 z4, Lv.take L Th z22 z23), ()) = (s, ())))))))
theorem n43_eq (L : Lv) (F : BxF) (I : Ds [.sl Th, It] → Prop) (mu : Ds [.sl Th, It] → Nat) (s : StD) : vcC L F [] (D43 (a43 L I mu)) (S43 F) (s, ()) = n43 L F I mu s := by kernel_rfl
theorem n43_go (L : Lv) (F : BxF) (I : Ds [.sl Th, It] → Prop) (mu : Ds [.sl Th, It] → Nat) (s : StD) (h : VC.holds (n43 L F I mu s)) : Holds (vcC L F [] (D43 (a43 L I mu)) (S43 F) (s, ())) := Holds.of_eq (n43_eq L F I mu s) h
theorem ok43 (F : BxF) (hp : F.bs = bS) : SpecOk prog 43 (S43 F) := by
  refine contract_by hm hE D43 fnok43 _ fun (z : StD × Unit) hpre => ?_
  obtain ⟨s, ⟨⟩⟩ := z
  have hpre' : F.bs s := hpre
  rw [hp] at hpre'
  obtain ⟨g1, g2, g3⟩ := hpre'
  let I : List ThD × Int × Unit → Prop := fun x => (0 ≤ x.2.1 ∧ x.2.1 ≤ s.2.length) ∧ x.1 = s.2.take x.2.1.toNat
  let mu : List ThD × Int × Unit → Nat := fun x => (s.2.length - x.2.1).toNat
  refine pack _ 3 (a43 Lv.std I mu) (only_tab (T := cT F) (l := []) tb_nil) ?_
  refine n43_go Lv.std F I mu s ?_
  simp only [n43, VC.holds, std_cmp, std_scmp, std_ar_add, std_ar_sub, std_ar_mul, std_ar, std_dv, std_shf, std_conv, std_mn, std_mx, std_beq, std_bnot, std_band, std_scat, std_byte, std_ext, std_slen, std_strOf, std_bytes, std_llen, std_get, std_setl, std_app, std_take, std_drop, std_rep, std_mhas, std_mval, std_mput, std_cast, std_toN, std_sub, std_add, std_inR, std_le3, std_leN, std_ltN, std_ne0, std_nonneg, std_catOk, std_room, std_mkOk, std_nth, std_cnt, cmp_lss_t, cmp_lss_f, cmp_leq_t, cmp_leq_f, cmp_gtr_t, cmp_gtr_f, cmp_geq_t, cmp_geq_f, cmp_eql_t, cmp_eql_f, cmp_neq_t, cmp_neq_f, scmp_eql_t, scmp_eql_f, scmp_neq_t, scmp_neq_f, dflt_int, dflt_bool, dflt_str, dflt_sl, dflt_pair, List.take_length, List.take_succ_cons, List.take_zero, List.take_nil, List.nil_append, List.length_append, List.length_cons, List.length_nil, Nat.zero_add, pe5, Prod.mk.injEq, and_true, true_and]
  refine ⟨⟨by omega, by omega⟩, ⟨⟨Int.le_refl 0, by show (0 : Int) ≤ s.2.length; omega⟩, rfl⟩, ?_⟩
  rintro ⟨l, x, ⟨⟩⟩ ⟨⟨i1, i2⟩, i3⟩
  simp only at i1 i2 i3 ⊢
  obtain ⟨k, rfl⟩ := nat_of i1
  rw [Int.toNat_natCast] at i3
  subst i3
  have hl : (s.2.take k).length = k := by rw [List.length_take]; omega
  rw [hl, Int.toNat_natCast]
  refine ⟨fun hlt => ?_, fun hge => ?_⟩
  · have hk : k < s.2.length := by omega
    rw [wr hlt g2, List.getElem?_eq_getElem hk, Option.getD_some]
    obtain ⟨b1, b2, b3⟩ := g3 _ (List.getElem_mem hk)
    refine ⟨⟨i1, hlt⟩, ⟨by omega, by omega⟩, ⟨by omega, by omega⟩, ⟨by omega, by omega⟩, ⟨by omega, by omega⟩, ⟨⟨by show (0 : Int) ≤ ((k + 1 : Nat) : Int); omega, by show ((k + 1 : Nat) : Int) ≤ _; omega⟩, ?_⟩, by show ((s.2.length : Int) - ((k + 1 : Nat) : Int)).toNat < ((s.2.length : Int) - k).toNat; omega⟩
    show s.2.take k ++ [s.2[k]] = s.2.take ((k + 1 : Nat) : Int).toNat
    rw [Int.toNat_natCast, List.take_succ, List.getElem?_eq_getElem hk]; rfl
  · rw [List.take_of_length_le (by omega)]
end Go.Proofs.Tryz
set_option autoImplicit false
set_option linter.all false
namespace Go.Proofs.Tryz
open Go Go.VM
set_option maxRecDepth 100000
def n17 (L : Lv) (F : BxF) (I : Ds [It] → Prop) (mu : Ds [It] → Nat) (p : WkD)  : VC :=
 let z1 := Prod.fst p;
 let z2 := Lv.cast L (Lv.llen L It z1);
 let z3 := (BxF.thin F p, ());
 let z4 := Prod.fst (Prod.snd p);
 let z5 := Lv.llen L (Ty.sl In) z4;
 let z6 := Lv.cast L z5;
 let z7 := Lv.cmp L BinOp.gtr z6 6;
 let z8 := Prod.snd (Prod.snd p);
 let z9 := Lv.cmp L BinOp.gtr z6 3; VC.br (Lv.cmp L BinOp.gtr z2 70) (VC.ok ((false, ()) = z3)) (VC.br (Lv.cmp L BinOp.gtr z2 8) (VC.br (Lv.cmp L BinOp.leq z2 64) (VC.ok ((false,
   ()) = z3)) (VC.br z7 (VC.ok ((false, ()) = z3)) (VC.obl (St.mk 60 [(1, V.c (C.ptr 1 0)), (3, V.c (C.int IntKind.i64 0))] [(0, Ob.amb), (1, Ob.box 25 [C.sl It z1, C.sl (Ty.sl In)
   z4, C.int IntKind.i64 z8])] 2 = St.mk 60 [(1, V.c (C.ptr 1 0)), (3, V.c (C.int IntKind.i64 0))] [(0, Ob.amb), (1, Ob.box 25 [C.sl It z1, C.sl (Ty.sl In) z4, C.int IntKind.i64
   z8])] 2) (VC.obl (I (0, ())) (VC.all (Int × Unit) fun (v1 : Int × Unit) =>
 let z10 := Prod.fst v1;
 let z11 := Lv.cast L (Lv.llen L In (Lv.get L (Ty.sl In) z4 (Lv.toN L z10)));
 let z12 := Lv.cmp L BinOp.gtr z11 2;
 let z13 := Lv.ar L BinOp.add IntKind.i64 z10 1;
 let z14 := (Lv.ar L BinOp.add IntKind.i64 z10 1, ()); VC.imp (I v1) (VC.br (Lv.cmp L BinOp.lss z10 z6) (VC.obl (Lv.inR L z10 z5) (VC.br (Lv.cmp L BinOp.gtr z11 205) (VC.ok ((false,
   ()) = z3)) (VC.br (Lv.cmp L BinOp.gtr z11 12) (VC.br (Lv.cmp L BinOp.leq z11 200) (VC.ok ((false, ()) = z3)) (VC.br z9 (VC.br z12 (VC.ok ((false, ()) = z3)) (VC.ok (St.mk 60 [(1,
   V.c (C.ptr 1 0)), (3, V.c (C.int IntKind.i64 z13))] [(0, Ob.amb), (1, Ob.box 25 [C.sl It z1, C.sl (Ty.sl In) z4, C.int IntKind.i64 z8])] 2 = St.mk 60 [(1, V.c (C.ptr 1 0)), (3,
   V.c (C.int IntKind.i64 z13))] [(0, Ob.amb), (1, Ob.box 25 [C.sl It z1, C.sl (Ty.sl In) z4, C.int IntKind.i64 z8])] 2 ∧ I z14 ∧ mu z14 < mu v1))) (VC.ok (St.mk 60 [(1, V.c (C.ptr
   1 0)), (3, V.c (C.int IntKind.i64 z13))] [(0, Ob.amb), (1, Ob.box 25 [C.sl It z1, C.sl (Ty.sl In) z4, C.int IntKind.i64 z8])] 2 = St.mk 60 [(1, V.c (C.ptr 1 0)), (3, V.c (C.int
   IntKind.i64 z13))] [(0, Ob.amb), (1, Ob.box 25 [C.sl It z1, C.sl (Ty.sl In) z4, C.int IntKind.i64 z8])] 2 ∧ I z14 ∧ mu z14 < mu v1)))) (VC.br z9 (VC.br z12 (VC.ok ((false, ()) =
   z3)) (VC.ok (St.mk 60 [(1, V.c (C.ptr 1 0)), (3, V.c (C.int IntKind.i64 z13))] [(0, Ob.amb), (1, Ob.box 25 [C.sl It z1, C.sl (Ty.sl In) z4, C.int IntKind.i64 z8])] 2 = St.mk 60
   [(1, V.c (C.ptr 1 0)), (3, V.c (C.int IntKind.i64 z13))] [(0, Ob.amb), (1, Ob.box 25 [C.sl It z1, C.sl (Ty.sl In) z4, C.int IntKind.i64 z8])] 2 ∧ I z14 ∧ mu z14 < mu v1))) (VC.ok
   (St.mk 60 [(1, V.c (C.ptr 1 0)), (3, V.c (C.int IntKind.i64 z13))] [(0, Ob.amb), (1, Ob.box 25 [C.sl It z1, C.sl (Ty.sl In) z4, C.int IntKind.i64 z8])] 2 = St.mk 60 [(1, V.c
   (C.ptr 1 0)), (3, V.c (C.int IntKind.i64 z13))] [(0, Ob.amb), (1, Ob.box 25 [C.sl It z1, C.sl (Ty.sl In) z4, C.int IntKind.i64 z8])] 2 ∧ I z14 ∧ mu z14 < mu v1)))))) (VC.ok
   ((true, ()) = z3)))))))) (VC.br z7 (VC.ok ((false, ()) = z3)) (VC.obl (St.mk 60 [(1, V.c (C.ptr 1 0)), (3, V.c (C.int IntKind.i64 0))] [(0, Ob.amb), (1, Ob.box 25 [C.sl It z1,
   C.sl (Ty.sl In) z4, C.int IntKind.i64 z8])] 2 = St.mk 60 [(1, V.c (C.ptr 1 0)), (3, V.c (C.int IntKind.i64 0))] [(0, Ob.amb), (1, Ob.box 25 [C.sl It z1, C.sl (Ty.sl In) z4, C.int
   IntKind.i64 z8])] 2) (VC.obl (I (0, ())) (VC.all (Int × Unit) fun (v2 : Int × Unit) =>
 let z15 := Prod.fst v2;
 let z16 := Lv.cast L (Lv.llen L In (Lv.get L (Ty.sl In) z4 (Lv.toN L z15)));
 let z17 := Lv.cmp L BinOp.gtr z16 2;
 let z18 := Lv.ar L BinOp.add IntKind.i64 z15 1;
 let z19 := (Lv.ar L BinOp.add IntKind.i64 z15 1, ()); VC.imp (I v2) (VC.br (Lv.cmp L BinOp.lss z15 z6) (VC.obl (Lv.inR L z15 z5) (VC.br (Lv.cmp L BinOp.gtr z16 205) (VC.ok ((false,
   ()) = z3)) (VC.br (Lv.cmp L BinOp.gtr z16 12) (VC.br (Lv.cmp L BinOp.leq z16 200) (VC.ok ((false, ()) = z3)) (VC.br z9 (VC.br z17 (VC.ok ((false, ()) = z3)) (VC.ok (St.mk 60 [(1,
   V.c (C.ptr 1 0)), (3, V.c (C.int IntKind.i64 z18))] [(0, Ob.amb), (1, Ob.box 25 [C.sl It z1, C.sl (Ty.sl In) z4, C.int IntKind.i64 z8])] 2 = St.mk 60 [(1, V.c (C.ptr 1 0)), (3,
   V.c (C.int IntKind.i64 z18))] [(0, Ob.amb), (1, Ob.box 25 [C.sl It z1, C.sl (Ty.sl In) z4, C.int IntKind.i64 z8])] 2 ∧ I z19 ∧ mu z19 < mu v2))) (VC.ok (St.mk 60 [(1, V.c (C.ptr
   1 0)), (3, V.c (C.int IntKind.i64 z18))] [(0, Ob.amb), (1, Ob.box 25 [C.sl It z1, C.sl (Ty.sl In) z4, C.int IntKind.i64 z8])] 2 = St.mk 60 [(1, V.c (C.ptr 1 0)), (3, V.c (C.int
   IntKind.i64 z18))] [(0, Ob.amb), (1, Ob.box 25 [C.sl It z1, C.sl (Ty.sl In) z4, C.int IntKind.i64 z8])] 2 ∧ I z19 ∧ mu z19 < mu v2)))) (VC.br z9 (VC.br z17 (VC.ok ((false, ()) =
   z3)) (VC.ok (St.mk 60 [(1, V.c (C.ptr 1 0)), (3, V.c (C.int IntKind.i64 z18))] [(0, Ob.amb), (1, Ob.box 25 [C.sl It z1, C.sl (Ty.sl In) z4, C.int IntKind.i64 z8])] 2 = St.mk 60
   [(1, V.c (C.ptr 1 0)), (3, V.c (C.int IntKind.i64 z18))] [(0, Ob.amb), (1, Ob.box 25 [C.sl It z1, C.sl (Ty.sl In) z4, C.int IntKind.i64 z8])] 2 ∧ I z19 ∧ mu z19 < mu v2))) (VC.ok
   (St.mk 60 [(1, V.c (C.ptr 1 0)), (3, V.c (C.int IntKind.i64 z18))] [(0, Ob.amb), (1, Ob.box 25 [C.sl It z1, C.sl (Ty.sl In) z4, C.int IntKind.i64 z8])] 2 = St.mk 60 [(1, V.c
   (C.ptr 1 0)), (3, V.c (C.int IntKind.i64 z18))] [(0, Ob.amb), (1, Ob.box 25 [C.sl It z1, C.sl (Ty.sl In) z4, C.int IntKind.i64 z8])] 2 ∧ I z19 ∧ mu z19 < mu v2)))))) (VC.ok
   ((true, ()) = z3))))))))
theorem n17_eq (L : Lv) (F : BxF) (I : Ds [It] → Prop) (mu : Ds [It] → Nat) (p : WkD) : vcC L F [] (D17 (aT3 L I mu)) (S17 F) (p, ()) = n17 L F I mu p := by kernel_rfl
theorem n17_go (L : Lv) (F : BxF) (I : Ds [It] → Prop) (mu : Ds [It] → Nat) (p : WkD) (h : VC.holds (n17 L F I mu p)) : Holds (vcC L F [] (D17 (aT3 L I mu)) (S17 F) (p, ())) := Holds.of_eq (n17_eq L F I mu p) h
def thinL (n : Nat) (l : List InD) : Bool := !(decide (205 < (l.length : Int)) || (decide (12 < (l.length : Int)) && decide ((l.length : Int) ≤ 200)) || (decide (3 < (n : Int)) && decide (2 < (l.length : Int))))
def thinF (p : WkD) : Bool := !(decide (70 < (p.1.length : Int)) || (decide (8 < (p.1.length : Int)) && decide ((p.1.length : Int) ≤ 64)) || decide (6 < (p.2.1.length : Int))) && p.2.1.all (thinL p.2.1.length)
theorem ok17 (F : BxF) (h : F.thin = thinF) (hp : F.bwT = bwTF) : SpecOk prog 17 (S17 F) := by
  refine contract_by hm hE D17 fnok17 _ fun (z : WkD × Unit) hpre => ?_
  obtain ⟨p, ⟨⟩⟩ := z
  have hpre' : F.bwT p := hpre
  rw [hp] at hpre'
  obtain ⟨g1, g2, g3⟩ := hpre'
  let I : Int × Unit → Prop := Iv p.2.1.length fun k => (p.2.1.drop k).all (thinL p.2.1.length) = p.2.1.all (thinL p.2.1.length)
  refine pack _ 3 (aT3 Lv.std I (Mu p.2.1.length)) (only_tab (T := cT F) (l := []) tb_nil) ?_
  refine n17_go Lv.std F I (Mu p.2.1.length) p ?_
  have e2 : ∀ (l : List (List InD)) (k : Int), Lv.std.get (.sl In) l k.toNat = (l[k.toNat]?).getD [] := fun _ _ => rfl
  simp only [n17, VC.holds, std_cmp, std_cast, std_llen, std_toN, e2, std_inR, std_ar_add, cmp_lss_t, cmp_lss_f, cmp_gtr_t, cmp_gtr_f, cmp_leq_t, cmp_leq_f, h, and_true, true_and]
  have et : ∀ l, thinL p.2.1.length l = true ↔ ¬ (205 < (l.length : Int) ∨ (12 < (l.length : Int) ∧ (l.length : Int) ≤ 200) ∨ (3 < (p.2.1.length : Int) ∧ 2 < (l.length : Int))) := fun l => by
    unfold thinL; simp only [Bool.not_eq_true', Bool.or_eq_false_iff, Bool.and_eq_false_iff, decide_eq_false_iff_not]; omega
  have ew : thinF p = true ↔ ¬ (70 < (p.1.length : Int) ∨ (8 < (p.1.length : Int) ∧ (p.1.length : Int) ≤ 64) ∨ 6 < (p.2.1.length : Int)) ∧ p.2.1.all (thinL p.2.1.length) = true := by
    unfold thinF; simp only [Bool.and_eq_true, Bool.not_eq_true', Bool.or_eq_false_iff, Bool.and_eq_false_iff, decide_eq_false_iff_not]
    constructor
    · rintro ⟨h1, h2⟩; exact ⟨by omega, h2⟩
    · rintro ⟨h1, h2⟩; exact ⟨by omega, h2⟩
  have fls : ¬ (thinF p = true) → (false, ()) = (thinF p, ()) := fun h => by rw [Bool.not_eq_true] at h; rw [h]
  have fw : (70 < (p.1.length : Int) ∨ (8 < (p.1.length : Int) ∧ (p.1.length : Int) ≤ 64) ∨ 6 < (p.2.1.length : Int)) → (false, ()) = (thinF p, ()) := fun h => fls fun e => (ew.1 e).1 h
  have fail : ∀ k : Nat, k < p.2.1.length → (p.2.1.drop k).all (thinL p.2.1.length) = p.2.1.all (thinL p.2.1.length) → (205 < (((p.2.1[k]?).getD []).length : Int) ∨ (12 < (((p.2.1[k]?).getD []).length : Int) ∧ (((p.2.1[k]?).getD []).length : Int) ≤ 200) ∨ (3 < (p.2.1.length : Int) ∧ 2 < (((p.2.1[k]?).getD []).length : Int))) → (false, ()) = (thinF p, ()) := fun k hk i3 h => fls fun e => by
    rw [(ew.1 e).2, all_drop _ _ k [] hk, Bool.and_eq_true] at i3
    exact (et _).1 i3.1 h
  have passI : ∀ k : Nat, k < p.2.1.length → (p.2.1.drop k).all (thinL p.2.1.length) = p.2.1.all (thinL p.2.1.length) → ¬ (205 < (((p.2.1[k]?).getD []).length : Int) ∨ (12 < (((p.2.1[k]?).getD []).length : Int) ∧ (((p.2.1[k]?).getD []).length : Int) ≤ 200) ∨ (3 < (p.2.1.length : Int) ∧ 2 < (((p.2.1[k]?).getD []).length : Int))) → I (IntKind.i64.wrap ((k : Int) + 1), ()) := fun k hk i3 h => by
    rw [all_drop _ _ k [] hk, (et _).2 h, Bool.true_and] at i3
    rw [wrB (by omega) g2]
    exact Iv.mk (by omega) i3
  have passM : ∀ k : Nat, k < p.2.1.length → Mu p.2.1.length (IntKind.i64.wrap ((k : Int) + 1), ()) < Mu p.2.1.length ((k : Int), ()) := fun k hk => by rw [wrB (by omega) g2]; exact Mu.lt hk
  refine ⟨fun a => fw (by omega), fun a => ⟨fun b => ⟨fun c => fw (by omega), fun c => ⟨fun d => fw (by omega), fun d => ?_⟩⟩, fun b => ⟨fun d => fw (by omega), fun d => ?_⟩⟩⟩
  all_goals
    refine ⟨Iv.zero rfl, fun x hx => ?_⟩
    obtain ⟨k, rfl, hk, i3⟩ := Iv.elim hx
    simp only [Int.toNat_natCast]
    refine ⟨fun hlt => ⟨⟨by omega, hlt⟩, ?_⟩, fun hge => ?_⟩
    · have fail' := fail k (by omega) i3
      have passI' := passI k (by omega) i3
      have passM' := passM k (by omega)
      clear_value I
      repeat' (first | refine And.intro ?_ ?_ | intro _)
      all_goals first | exact passM' | exact fail' (by omega) | exact passI' (by omega)
    · rw [show k = p.2.1.length by omega, List.drop_length] at i3
      have i3 : true = p.2.1.all (thinL p.2.1.length) := i3
      rw [ew.2 ⟨by omega, i3.symm⟩]
end Go.Proofs.Tryz
set_option autoImplicit false
set_option linter.all false
namespace Go.Proofs.Tryz
open Go Go.VM
set_option maxRecDepth 100000
def a89 (L : Lv) (I : Ds [It] → Prop) (mu : Ds [It] → Nat) : Nat → LAnn
  | 0 => anH L [1, 3, 5, 7] [] [.s 7 It] I mu
  | _ => .no
def a41 (L : Lv) (I : Ds [It] → Prop) (mu : Ds [It] → Nat) : Nat → LAnn
  | 0 => anH L [2, 3, 5] [] [.s 5 It] I mu
  | _ => .no
def n89 (L : Lv) (F : BxF) (I : Ds [It] → Prop) (mu : Ds [It] → Nat) (p : WkD) (k : Int) (t : ThD)  : VC :=
 let z1 := Prod.fst p;
 let z2 := Prod.fst (Prod.snd p);
 let z3 := Prod.snd (Prod.snd p);
 let z4 := Prod.fst t;
 let z5 := Prod.fst (Prod.snd t);
 let z6 := Prod.snd (Prod.snd t);
 let z7 := Prod.fst z6;
 let z8 := Prod.snd z6;
 let z9 := Prod.fst z8;
 let z10 := Prod.snd z8;
 let z11 := Lv.llen L Kp z7;
 let z12 := Lv.cast L z11;
 let z13 := (BxF.isTh F p k t, ()); VC.obl (St.mk 76 [(1, V.c (C.int IntKind.i64 k)), (3, V.c (C.ptr 1 0)), (5, V.c (C.ptr 2 0)), (7, V.c (C.int IntKind.i64 0))] [(0, Ob.amb), (1,
   Ob.box 25 [C.sl It z1, C.sl (Ty.sl In) z2, C.int IntKind.i64 z3]), (2, Ob.box 99 [C.int IntKind.i64 z4, C.sl It z5, C.sl Kp z7, C.sl It z9, C.sym z10])] 3 = St.mk 76 [(1, V.c
   (C.int IntKind.i64 k)), (3, V.c (C.ptr 1 0)), (5, V.c (C.ptr 2 0)), (7, V.c (C.int IntKind.i64 0))] [(0, Ob.amb), (1, Ob.box 25 [C.sl It z1, C.sl (Ty.sl In) z2, C.int IntKind.i64
   z3]), (2, Ob.box 99 [C.int IntKind.i64 z4, C.sl It z5, C.sl Kp z7, C.sl It z9, C.sym z10])] 3) (VC.obl (I (0, ())) (VC.all (Int × Unit) fun (v1 : Int × Unit) =>
 let z14 := Prod.fst v1;
 let z15 := Lv.inR L z14 z11;
 let z16 := Lv.get L Kp z7 (Lv.toN L z14);
 let z17 := Lv.ar L BinOp.add IntKind.i64 z14 1;
 let z18 := (Lv.ar L BinOp.add IntKind.i64 z14 1, ()); VC.imp (I v1) (VC.br (Lv.cmp L BinOp.lss z14 z12) (VC.obl z15 (VC.obl True (VC.br (BxF.within F (Prod.fst z16) 0 (Lv.ar L
   BinOp.sub IntKind.i64 (Lv.cast L (Lv.llen L It z1)) 1)) (VC.obl z15 (VC.obl True (VC.br (BxF.isNum F (Prod.snd z16)) (VC.ok (St.mk 76 [(1, V.c (C.int IntKind.i64 k)), (3, V.c
   (C.ptr 1 0)), (5, V.c (C.ptr 2 0)), (7, V.c (C.int IntKind.i64 z17))] [(0, Ob.amb), (1, Ob.box 25 [C.sl It z1, C.sl (Ty.sl In) z2, C.int IntKind.i64 z3]), (2, Ob.box 99 [C.int
   IntKind.i64 z4, C.sl It z5, C.sl Kp z7, C.sl It z9, C.sym z10])] 3 = St.mk 76 [(1, V.c (C.int IntKind.i64 k)), (3, V.c (C.ptr 1 0)), (5, V.c (C.ptr 2 0)), (7, V.c (C.int
   IntKind.i64 z17))] [(0, Ob.amb), (1, Ob.box 25 [C.sl It z1, C.sl (Ty.sl In) z2, C.int IntKind.i64 z3]), (2, Ob.box 99 [C.int IntKind.i64 z4, C.sl It z5, C.sl Kp z7, C.sl It z9,
   C.sym z10])] 3 ∧ I z18 ∧ mu z18 < mu v1)) (VC.ok ((false, ()) = z13))))) (VC.ok ((false, ()) = z13))))) (VC.obl (Lv.inR L k (Lv.llen L (Ty.sl In) z2)) (VC.obl True (VC.br
   (BxF.within F z4 0 (Lv.cast L (Lv.llen L In (Lv.get L (Ty.sl In) z2 (Lv.toN L k))))) (VC.br (Lv.cmp L BinOp.eql (Lv.cast L (Lv.llen L It z5)) 10) (VC.obl (BxF.bl F z5) (VC.br
   (BxF.nums F z5) (VC.br (Lv.cmp L BinOp.leq z12 z3) (VC.br (Lv.cmp L BinOp.leq (Lv.cast L (Lv.llen L It z9)) 20) (VC.obl (BxF.bl F z9) (VC.br (BxF.nums F z9) (VC.ok ((true, ()) =
   z13)) (VC.ok ((false, ()) = z13)))) (VC.ok ((false, ()) = z13))) (VC.ok ((false, ()) = z13))) (VC.ok ((false, ()) = z13)))) (VC.ok ((false, ()) = z13))) (VC.ok ((false, ()) =
   z13))))))))
theorem n89_eq (L : Lv) (F : BxF) (I : Ds [It] → Prop) (mu : Ds [It] → Nat) (p : WkD) (k : Int) (t : ThD) : vcC L F [54, 63, 88] (D89 (a89 L I mu)) (S89 F) (p, k, t, ()) = n89 L F I mu p k t := by kernel_rfl
theorem n89_go (L : Lv) (F : BxF) (I : Ds [It] → Prop) (mu : Ds [It] → Nat) (p : WkD) (k : Int) (t : ThD) (h : VC.holds (n89 L F I mu p k t)) : Holds (vcC L F [54, 63, 88] (D89 (a89 L I mu)) (S89 F) (p, k, t, ())) := Holds.of_eq (n89_eq L F I mu p k t) h
def n41 (L : Lv) (F : BxF) (I : Ds [It] → Prop) (mu : Ds [It] → Nat) (p : WkD) (s : StD)  : VC :=
 let z1 := Prod.fst s;
 let z2 := Prod.fst p;
 let z3 := (BxF.isSt F p s, ());
 let z4 := Prod.snd s;
 let z5 := Lv.llen L Th z4;
 let z6 := Lv.cast L z5;
 let z7 := Prod.snd p;
 let z8 := Prod.fst z7;
 let z9 := Prod.snd z7;
 let z10 := (Prod.fst p, Prod.fst z7, Prod.snd z7); VC.br (Lv.cmp L BinOp.neq (Lv.cast L (Lv.llen L It z1)) (Lv.cast L (Lv.llen L It z2))) (VC.ok ((false, ()) = z3)) (VC.br (Lv.cmp
   L BinOp.neq z6 (Lv.cast L (Lv.llen L (Ty.sl In) z8))) (VC.ok ((false, ()) = z3)) (VC.obl (BxF.bl F z1) (VC.br (BxF.nums F z1) (VC.obl (St.mk 44 [(2, V.c (C.ptr 1 0)), (3, V.c
   (C.ptr 2 0)), (5, V.c (C.int IntKind.i64 0))] [(0, Ob.amb), (1, Ob.box 25 [C.sl It z2, C.sl (Ty.sl In) z8, C.int IntKind.i64 z9]), (2, Ob.box 59 [C.sl It z1, C.sl Th z4])] 3 =
   St.mk 44 [(2, V.c (C.ptr 1 0)), (3, V.c (C.ptr 2 0)), (5, V.c (C.int IntKind.i64 0))] [(0, Ob.amb), (1, Ob.box 25 [C.sl It z2, C.sl (Ty.sl In) z8, C.int IntKind.i64 z9]), (2,
   Ob.box 59 [C.sl It z1, C.sl Th z4])] 3) (VC.obl (I (0, ())) (VC.all (Int × Unit) fun (v1 : Int × Unit) =>
 let z11 := Prod.fst v1;
 let z12 := Lv.get L Th z4 (Lv.toN L z11);
 let z13 := Prod.snd z12;
 let z14 := Prod.snd z13;
 let z15 := Prod.snd z14;
 let z16 := (Prod.fst z12, Prod.fst z13, Prod.fst z14, Prod.fst z15, Prod.snd z15);
 let z17 := Lv.ar L BinOp.add IntKind.i64 z11 1;
 let z18 := (Lv.ar L BinOp.add IntKind.i64 z11 1, ()); VC.imp (I v1) (VC.br (Lv.cmp L BinOp.lss z11 z6) (VC.obl (Lv.inR L z11 z5) (VC.obl (BxF.pTh F z10 z11 z16) (VC.br (BxF.isTh F
   z10 z11 z16) (VC.ok (St.mk 44 [(2, V.c (C.ptr 1 0)), (3, V.c (C.ptr 2 0)), (5, V.c (C.int IntKind.i64 z17))] [(0, Ob.amb), (1, Ob.box 25 [C.sl It z2, C.sl (Ty.sl In) z8, C.int
   IntKind.i64 z9]), (2, Ob.box 59 [C.sl It z1, C.sl Th z4])] 3 = St.mk 44 [(2, V.c (C.ptr 1 0)), (3, V.c (C.ptr 2 0)), (5, V.c (C.int IntKind.i64 z17))] [(0, Ob.amb), (1, Ob.box 25
   [C.sl It z2, C.sl (Ty.sl In) z8, C.int IntKind.i64 z9]), (2, Ob.box 59 [C.sl It z1, C.sl Th z4])] 3 ∧ I z18 ∧ mu z18 < mu v1)) (VC.ok ((false, ()) = z3))))) (VC.ok ((true, ()) =
   z3)))))) (VC.ok ((false, ()) = z3)))))
theorem n41_eq (L : Lv) (F : BxF) (I : Ds [It] → Prop) (mu : Ds [It] → Nat) (p : WkD) (s : StD) : vcC L F [88, 89] (D41 (a41 L I mu)) (S41 F) (p, s, ()) = n41 L F I mu p s := by kernel_rfl
theorem n41_go (L : Lv) (F : BxF) (I : Ds [It] → Prop) (mu : Ds [It] → Nat) (p : WkD) (s : StD) (h : VC.holds (n41 L F I mu p s)) : Holds (vcC L F [88, 89] (D41 (a41 L I mu)) (S41 F) (p, s, ())) := Holds.of_eq (n41_eq L F I mu p s) h
theorem ok89 (F : BxF) (h : F.isTh = fun p k t => thOk p k.toNat t) (h1 : F.isNum = isNumF) (h2 : F.within = withinF) (h3 : F.nums = numsF) (hp : F.pTh = fun p k t => p.1.length ≤ 1000000 ∧ (0 ≤ k ∧ k < p.2.1.length) ∧ bTh t) (q : F.bl = bL) (k1 : SpecOk prog 54 (S86 F)) (k2 : SpecOk prog 63 (S92 F)) (k3 : SpecOk prog 88 (S87 F)) : SpecOk prog 89 (S89 F) := by
  refine contract_by hm hE D89 fnok89 _ fun (z : WkD × Int × ThD × Unit) hpre => ?_
  obtain ⟨p, k, t, ⟨⟩⟩ := z
  have hpre' : F.pTh p k t := hpre
  rw [hp] at hpre'
  obtain ⟨g1, g2, g3, g4, g5⟩ := hpre'
  obtain ⟨k, rfl⟩ := nat_of g2.1
  let I : Int × Unit → Prop := Iv t.2.2.1.length fun j => (t.2.2.1.drop j).all (kpOk p.1.length) = t.2.2.1.all (kpOk p.1.length)
  refine pack _ 3 (a89 Lv.std I (Mu t.2.2.1.length)) (only_tab (T := cT F) (l := [54, 63, 88]) (tb_cons (tb_sp k1 (by kernel_rfl)) (tb_cons (tb_sp k2 (by kernel_rfl)) (tb_cons (tb_sp k3 (by kernel_rfl)) tb_nil)))) ?_
  refine n89_go Lv.std F I (Mu t.2.2.1.length) p k t ?_
  have eI : ∀ (l : List (List InD)) (k : Int), Lv.std.get (.sl In) l k.toNat = (l[k.toNat]?).getD [] := fun _ _ => rfl
  have eJ : ∀ (l : List KpD) (k : Int), Lv.std.get Kp l k.toNat = (l[k.toNat]?).getD (0, 0) := fun _ _ => rfl
  have ew : IntKind.i64.wrap ((p.1.length : Int) - 1) = (p.1.length : Int) - 1 := wrap_i64 (by omega) (by omega)
  simp only [n89, VC.holds, std_cmp, std_cast, std_llen, std_toN, eI, eJ, std_inR, std_ar_add, std_ar_sub, ew, cmp_lss_t, cmp_lss_f, cmp_leq_t, cmp_leq_f, cmp_eql_t, cmp_eql_f, h, h1, h2, h3, q, Prod.mk.injEq, and_true, true_and, Int.toNat_natCast]
  refine ⟨Iv.zero rfl, fun x hx => ?_⟩
  obtain ⟨j, rfl, hj, i3⟩ := Iv.elim hx
  simp only [Int.toNat_natCast]
  have no : t.2.2.1.all (kpOk p.1.length) = false → false = thOk p k t := fun e => by rw [thOk, e, Bool.and_false]
  refine ⟨fun hlt => ⟨⟨by omega, hlt⟩, fun ha => ⟨⟨by omega, hlt⟩, fun hb => ?_, fun hb => ?_⟩, fun ha => ?_⟩, fun hge => ⟨g2, fun a1 => ⟨fun a2 => ⟨g3, fun a3 => ⟨fun a4 => ⟨fun a5 => ⟨g5, fun a6 => ?_, fun a6 => ?_⟩, fun a5 => ?_⟩, fun a4 => ?_⟩, fun a3 => ?_⟩, fun a2 => ?_⟩, fun a1 => ?_⟩⟩
  · rw [all_drop _ _ j (0, 0) (by omega), kpOk, ha, hb, Bool.and_self, Bool.true_and] at i3
    rw [wr hlt g4]
    exact ⟨Iv.mk (by omega) i3, Mu.lt (by omega)⟩
  · rw [all_drop _ _ j (0, 0) (by omega), kpOk, hb, Bool.and_false, Bool.false_and] at i3
    exact no i3.symm
  · rw [all_drop _ _ j (0, 0) (by omega), kpOk, ha, Bool.false_and, Bool.false_and] at i3
    exact no i3.symm
  · have a1' : withinF t.1 0 (((p.2.1[k]?).getD []).length : Int) = true := a1
    rw [show j = t.2.2.1.length by omega, List.drop_length] at i3
    rw [thOk, decide_eq_true (by omega), a3, a6, a1', decide_eq_true a4, decide_eq_true (by omega), ← i3]; rfl
  · rw [thOk, a6]; simp
  · rw [thOk, decide_eq_false (by omega : ¬ t.2.2.2.1.length ≤ 20)]; simp
  · rw [thOk, decide_eq_false (by omega : ¬ (t.2.2.1.length : Int) ≤ p.2.2)]; simp
  · rw [thOk, a3]; simp
  · rw [thOk, decide_eq_false (by omega : ¬ t.2.1.length = 10)]; simp
  · have a1' : withinF t.1 0 (((p.2.1[k]?).getD []).length : Int) = false := a1
    rw [thOk, a1']; simp
theorem ok41 (F : BxF) (h : F.isSt = isStF) (h1 : F.isTh = fun p k t => thOk p k.toNat t) (h2 : F.nums = numsF) (hp : F.pSt = fun p s => bW p ∧ bS s) (q : F.bl = bL) (q1 : F.pTh = fun p k t => p.1.length ≤ 1000000 ∧ (0 ≤ k ∧ k < p.2.1.length) ∧ bTh t) (k1 : SpecOk prog 88 (S87 F)) (k2 : SpecOk prog 89 (S89 F)) : SpecOk prog 41 (S41 F) := by
  refine contract_by hm hE D41 fnok41 _ fun (z : WkD × StD × Unit) hpre => ?_
  obtain ⟨p, s, ⟨⟩⟩ := z
  have hpre' : F.pSt p s := hpre
  rw [hp] at hpre'
  obtain ⟨⟨g1, g2, g3⟩, g4, g5, g6⟩ := hpre'
  let I : Int × Unit → Prop := Iv s.2.length fun j => thsN p s (s.2.length - j) = thsN p s s.2.length
  refine pack _ 3 (a41 Lv.std I (Mu s.2.length)) (only_tab (T := cT F) (l := [88, 89]) (tb_cons (tb_sp k1 (by kernel_rfl)) (tb_cons (tb_sp k2 (by kernel_rfl)) tb_nil))) ?_
  refine n41_go Lv.std F I (Mu s.2.length) p s ?_
  have eT : ∀ (l : List ThD) (k : Int), Lv.std.get Th l k.toNat = (l[k.toNat]?).getD (0, [], [], [], false) := fun _ _ => rfl
  simp only [n41, VC.holds, std_cmp, std_cast, std_llen, std_toN, eT, std_inR, std_ar_add, cmp_lss_t, cmp_lss_f, cmp_neq_t, cmp_neq_f, h, h1, h2, q, q1, Prod.mk.injEq, and_true, true_and]
  refine ⟨fun c1 => ?_, fun c1 => ⟨fun c2 => ?_, fun c2 => ⟨g4, fun c3 => ⟨Iv.zero rfl, fun x hx => ?_⟩, fun c3 => ?_⟩⟩⟩
  · rw [isStF, decide_eq_false (by omega : ¬ s.1.length = p.1.length)]; rfl
  · rw [isStF, decide_eq_false (by omega : ¬ s.2.length = p.2.1.length)]; simp
  · obtain ⟨j, rfl, hj, i3⟩ := Iv.elim hx
    simp only [Int.toNat_natCast]
    have e0 : isStF p s = thsN p s s.2.length := by rw [isStF, decide_eq_true (by omega), decide_eq_true (by omega), c3]; rfl
    refine ⟨fun hlt => ⟨⟨by omega, hlt⟩, ⟨g1, ⟨by omega, by omega⟩, ?_⟩, fun ha => ?_, fun ha => ?_⟩, fun hge => ?_⟩
    · rw [List.getElem?_eq_getElem (by omega)]; exact g6 _ (List.getElem_mem (by omega))
    · rw [thsN_step p s j (by omega)] at i3
      have ha' : thOk p j ((s.2[j]?).getD (0, [], [], [], false)) = true := ha
      rw [ha', Bool.true_and] at i3
      rw [wr hlt g5]
      exact ⟨Iv.mk (by omega) i3, Mu.lt (by omega)⟩
    · rw [thsN_step p s j (by omega)] at i3
      have ha' : thOk p j ((s.2[j]?).getD (0, [], [], [], false)) = false := ha
      rw [ha', Bool.false_and] at i3
      rw [e0]; exact i3
    · rw [show s.2.length - j = 0 by omega] at i3
      rw [e0]; exact i3
  · rw [isStF, c3]; simp
end Go.Proofs.Tryz
set_option autoImplicit false
set_option linter.all false
namespace Go.Proofs.Tryz
open Go Go.VM
def sortE (l : List EnD) : List EnD := List.mergeSort (α := EnD) l fun x y => !(Go.Proofs.ltOf cmpEF) y x
theorem snocRec {α : Type} {P : List α → Prop} (h0 : P []) (h1 : ∀ l x, P l → P (l ++ [x])) (l : List α) : P l := by
  have : ∀ n, ∀ l : List α, l.length = n → P l := fun n => by
    induction n with
    | zero => intro l h; rw [List.eq_nil_of_length_eq_zero h]; exact h0
    | succ n ih =>
      intro l h
      rcases List.eq_nil_or_concat l with rfl | ⟨q, x, rfl⟩
      · cases h
      · rw [List.concat_eq_append] at h ⊢
        exact h1 q x (ih q (by simpa using h))
  exact this l.length l rfl
noncomputable def endsM (m : McD) : List EnD × Int × Int := endsG sortE compL m
theorem ok_reach {p : WkD} {b : Bool} (hp : OkP p) {d : Nat} {s : StD} (h : Reach (p, b) d s) : OkS p s := by
  induction h with
  | zero => exact first_ok hp
  | step _ hv ih => exact do_ok hp ih hv
end Go.Proofs.Tryz
set_option autoImplicit false
set_option linter.all false
namespace Go.Proofs.Tryz
open Go Go.VM
section
variable {m : McD} {a : Nat} {l : List MtD}
end
theorem pick_mem {m : McD} {s : StD} {l : List Int} {n : Nat} (hn : movesF m s ≠ []) (hl : ∀ x ∈ l, 0 ≤ x) : pickF m s l n ∈ movesF m s := by
  unfold pickF
  have hp : 0 < (movesF m s).length := List.length_pos_iff.2 hn
  have hb : (if n < l.length then remF ((l[n]?).getD 0) (movesF m s).length else 0).toNat < (movesF m s).length := by
    split
    · rename_i h
      rw [List.getElem?_eq_getElem h, Option.getD_some]
      have h0 := hl _ (List.getElem_mem h)
      have e : remF l[n] (movesF m s).length = l[n].tmod (movesF m s).length := rfl
      rw [e]
      have a1 := Int.tmod_nonneg ((movesF m s).length : Int) h0
      have a2 := Int.tmod_lt_of_pos l[n] (Int.natCast_pos.2 hp)
      omega
    · exact hp
  rw [List.getElem?_eq_getElem hb]
  exact List.getElem_mem hb
end Go.Proofs.Tryz
set_option autoImplicit false
set_option linter.all false
namespace Go.Proofs.Tryz
open Go Go.VM
set_option maxRecDepth 100000
def a98 (L : Lv) (I : Ds [.sl It, .sl Th, It] → Prop) (mu : Ds [.sl It, .sl Th, It] → Nat) : Nat → LAnn
  | 0 => anH L [1, 2, 6, 7] [] [.b 1 0 (.sl It), .b 1 1 (.sl Th), .s 7 It] I mu
  | _ => .no
def a128 (L : Lv) (I : Ds [It] → Prop) (mu : Ds [It] → Nat) : Nat → LAnn
  | 0 => anH L [0, 3, 7, 8] [] [.s 8 It] I mu
  | _ => .no
noncomputable def o100 (L : Lv) (I : Ds [It] → Prop) (mu : Ds [It] → Nat) : List (Nat × FT) := [(128, .inl (D128 (a128 L I mu)))]
def n100 (L : Lv) (F : BxF) (I : Ds [It] → Prop) (mu : Ds [It] → Nat) (l : List MvD) (v : MvD)  : VC :=
 let z1 := Lv.cast L (Lv.llen L Mv l);
 let z2 := Prod.fst v;
 let z3 := Prod.snd v;
 let z4 := (BxF.isMv F l v, ()); VC.obl (St.mk 19 [(0, V.c (C.sl Mv l)), (3, V.c (C.ptr 2 0)), (7, V.c (C.int IntKind.i64 z1)), (8, V.c (C.int IntKind.i64 0))] [(0, Ob.amb), (1,
   Ob.box 84 [C.int IntKind.i64 z2, C.sym z3]), (2, Ob.box 84 [C.int IntKind.i64 z2, C.sym z3])] 3 = St.mk 19 [(0, V.c (C.sl Mv l)), (3, V.c (C.ptr 2 0)), (7, V.c (C.int IntKind.i64
   z1)), (8, V.c (C.int IntKind.i64 0))] [(0, Ob.amb), (1, Ob.box 84 [C.int IntKind.i64 z2, C.sym z3]), (2, Ob.box 84 [C.int IntKind.i64 z2, C.sym z3])] 3) (VC.obl (I (0, ()))
   (VC.all (Int × Unit) fun (v1 : Int × Unit) =>
 let z5 := Prod.fst v1;
 let z6 := Lv.get L Mv l (Lv.toN L z5);
 let z7 := Lv.ar L BinOp.add IntKind.i64 z5 1;
 let z8 := (Lv.ar L BinOp.add IntKind.i64 z5 1, ()); VC.imp (I v1) (VC.br (Lv.cmp L BinOp.lss z5 z1) (VC.obl (Lv.inR L z5 (Lv.llen L Mv l)) (VC.br (Lv.band L (Lv.cmp L BinOp.eql z2
   (Prod.fst z6)) (Lv.band L (Lv.beq L z3 (Prod.snd z6)) true)) (VC.br (Lv.cmp L BinOp.geq z5 0) (VC.ok ((true, ()) = z4)) (VC.ok ((false, ()) = z4))) (VC.ok (St.mk 19 [(0, V.c
   (C.sl Mv l)), (3, V.c (C.ptr 2 0)), (7, V.c (C.int IntKind.i64 z1)), (8, V.c (C.int IntKind.i64 z7))] [(0, Ob.amb), (1, Ob.box 84 [C.int IntKind.i64 z2, C.sym z3]), (2, Ob.box 84
   [C.int IntKind.i64 z2, C.sym z3])] 3 = St.mk 19 [(0, V.c (C.sl Mv l)), (3, V.c (C.ptr 2 0)), (7, V.c (C.int IntKind.i64 z1)), (8, V.c (C.int IntKind.i64 z7))] [(0, Ob.amb), (1,
   Ob.box 84 [C.int IntKind.i64 z2, C.sym z3]), (2, Ob.box 84 [C.int IntKind.i64 z2, C.sym z3])] 3 ∧ I z8 ∧ mu z8 < mu v1)))) (VC.br (Lv.cmp L BinOp.geq (Int.negSucc 0) 0) (VC.ok
   ((true, ()) = z4)) (VC.ok ((false, ()) = z4))))))
theorem n100_eq (L : Lv) (F : BxF) (I : Ds [It] → Prop) (mu : Ds [It] → Nat) (l : List MvD) (v : MvD) : vcO L F (o100 L I mu) [128] 3 (D100 a0) (S56 F) (l, v, ()) = n100 L F I mu l v := by kernel_rfl
theorem n100_go (L : Lv) (F : BxF) (I : Ds [It] → Prop) (mu : Ds [It] → Nat) (l : List MvD) (v : MvD) (h : VC.holds (n100 L F I mu l v)) : Holds (vcO L F (o100 L I mu) [128] 3 (D100 a0) (S56 F) (l, v, ())) := Holds.of_eq (n100_eq L F I mu l v) h
def n126 (L : Lv) (F : BxF) (s : StD) (k : Int)  : VC :=
 let z1 := Prod.fst s;
 let z2 := Prod.snd s;
 let z3 := Lv.llen L Th z2;
 let z4 := Lv.toN L k;
 let z5 := Lv.ltN L z4 z3;
 let z6 := Lv.get L Th z2 z4;
 let z7 := Prod.snd z6;
 let z8 := Prod.fst z7;
 let z9 := Prod.snd z7;
 let z10 := Prod.fst z9;
 let z11 := Prod.snd z9;
 let z12 := Prod.fst z11;
 let z13 := (Lv.toN L k = Lv.toN L k); VC.obl (BxF.pLi F z1) (VC.obl (BxF.pLt F z2) (VC.obl (Lv.inR L k z3) (VC.obl z5 (VC.obl (BxF.pLi F z8) (VC.obl z5 (VC.obl (BxF.pLk F z10)
   (VC.obl z5 (VC.obl (BxF.pLi F z12) (VC.obl z5 (VC.obl z13 (VC.obl z13 (VC.ok (((Lv.take L It z1 (Lv.llen L It z1), Lv.take L Th (Lv.setl L Th z2 z4 (Prod.fst z6, Lv.take L It z8
   (Lv.llen L It z8), Lv.take L Kp z10 (Lv.llen L Kp z10), Lv.take L It z12 (Lv.llen L It z12), Prod.snd z11)) z3), ()) = (s, ()))))))))))))))
theorem n126_eq (L : Lv) (F : BxF) (s : StD) (k : Int) : vcC L F [76, 141, 142] (D126 a0) (S126 F) (s, k, ()) = n126 L F s k := by kernel_rfl
theorem n126_go (L : Lv) (F : BxF) (s : StD) (k : Int) (h : VC.holds (n126 L F s k)) : Holds (vcC L F [76, 141, 142] (D126 a0) (S126 F) (s, k, ())) := Holds.of_eq (n126_eq L F s k) h
def n98 (L : Lv) (F : BxF) (I : Ds [.sl It, .sl Th, It] → Prop) (mu : Ds [.sl It, .sl Th, It] → Nat) (s : StD)  : VC :=
 let z1 := Prod.snd s;
 let z2 := Lv.cast L (Lv.llen L Th z1);
 let z3 := Int × List Int × List (Int × Int) × List Int × Bool; VC.obl (St.mk 15 [(1, V.c (C.ptr 1 0)), (2, V.c (C.ptr 2 0)), (6, V.c (C.int IntKind.i64 z2)), (7, V.c (C.int
   IntKind.i64 0))] [(0, Ob.amb), (1, Ob.box 59 [C.sl It (Prod.fst s), C.sl Th z1]), (2, Ob.box 59 [C.nils, C.nils])] 3 = St.mk 15 [(1, V.c (C.ptr 1 0)), (2, V.c (C.ptr 2 0)), (6,
   V.c (C.int IntKind.i64 z2)), (7, V.c (C.int IntKind.i64 0))] [(0, Ob.amb), (1, Ob.box 59 [C.sl It (Prod.fst s), C.sl Th z1]), (2, Ob.box 59 [C.nils, C.nils])] 3) (VC.obl (I
   (Prod.fst s, Prod.snd s, 0, ())) (VC.all (List Int × List z3 × Int × Unit) fun (v1 : List Int × List (Int × List Int × List (Int × Int) × List Int × Bool) × Int × Unit) =>
 let z4 := Prod.snd v1;
 let z5 := Prod.fst (Prod.snd z4);
 let z6 := (Prod.fst v1, Prod.fst z4);
 let z7 := Lv.ar L BinOp.add IntKind.i64 z5 1;
 let z8 := Prod.fst z4;
 let z9 := (Prod.fst v1, Prod.fst z4, Lv.ar L BinOp.add IntKind.i64 z5 1, ()); VC.imp (I v1) (VC.br (Lv.cmp L BinOp.lss z5 z2) (VC.obl (BxF.pCl F z6 z5) (VC.ok (St.mk 15 [(1, V.c
   (C.ptr 1 0)), (2, V.c (C.ptr 2 0)), (6, V.c (C.int IntKind.i64 z2)), (7, V.c (C.int IntKind.i64 z7))] [(0, Ob.amb), (1, Ob.box 59 [C.sl It (Prod.fst v1), C.sl Th z8]), (2, Ob.box
   59 [C.nils, C.nils])] 3 = St.mk 15 [(1, V.c (C.ptr 1 0)), (2, V.c (C.ptr 2 0)), (6, V.c (C.int IntKind.i64 z2)), (7, V.c (C.int IntKind.i64 z7))] [(0, Ob.amb), (1, Ob.box 59
   [C.sl It (Prod.fst v1), C.sl Th z8]), (2, Ob.box 59 [C.nils, C.nils])] 3 ∧ I z9 ∧ mu z9 < mu v1))) (VC.ok ((z6, ()) = (s, ()))))))
theorem n98_eq (L : Lv) (F : BxF) (I : Ds [.sl It, .sl Th, It] → Prop) (mu : Ds [.sl It, .sl Th, It] → Nat) (s : StD) : vcC L F [126] (D98 (a98 L I mu)) (S43 F) (s, ()) = n98 L F I mu s := by kernel_rfl
theorem n98_go (L : Lv) (F : BxF) (I : Ds [.sl It, .sl Th, It] → Prop) (mu : Ds [.sl It, .sl Th, It] → Nat) (s : StD) (h : VC.holds (n98 L F I mu s)) : Holds (vcC L F [126] (D98 (a98 L I mu)) (S43 F) (s, ())) := Holds.of_eq (n98_eq L F I mu s) h
def n36 (L : Lv) (F : BxF) (p : WkD)  : VC :=
 let z1 := (Prod.fst p, Prod.fst (Prod.snd p), Prod.snd (Prod.snd p));
 let z2 := (Prod.fst (BxF.begE F p), Prod.snd (BxF.begE F p), ());
 let z3 := BxF.first F z1; VC.obl (BxF.bw F z1) (VC.br (Lv.cmp L BinOp.neq (BxF.check F z1) 0) (VC.ok ((([], []), BxF.check F z1, ()) = z2)) (VC.obl (BxF.pFirst F z1) (VC.ok
   (((Prod.fst z3, Prod.snd z3), 0, ()) = z2))))
theorem n36_eq (L : Lv) (F : BxF) (p : WkD) : vcC L F [38, 79] (D36 a0) (S36 F) (p, ()) = n36 L F p := by kernel_rfl
theorem n36_go (L : Lv) (F : BxF) (p : WkD) (h : VC.holds (n36 L F p)) : Holds (vcC L F [38, 79] (D36 a0) (S36 F) (p, ())) := Holds.of_eq (n36_eq L F p) h
def n42 (L : Lv) (F : BxF) (p : WkD) (s : StD)  : VC :=
 let z1 := (Prod.fst p, Prod.fst (Prod.snd p), Prod.snd (Prod.snd p));
 let z2 := (Prod.fst s, Prod.snd s);
 let z3 := (Prod.fst (BxF.mvE F p s), Prod.snd (BxF.mvE F p s), ()); VC.obl (BxF.pSt F z1 z2) (VC.br (Lv.cmp L BinOp.neq (BxF.ckSt F z1 z2) 0) (VC.ok (([], BxF.ckSt F z1 z2, ()) =
   z3)) (VC.obl (BxF.pE F z2 (z1, false)) (VC.ok ((BxF.moves F (z1, false) z2, 0, ()) = z3))))
theorem n42_eq (L : Lv) (F : BxF) (p : WkD) (s : StD) : vcC L F [45, 90] (D42 a0) (S42 F) (p, s, ()) = n42 L F p s := by kernel_rfl
theorem n42_go (L : Lv) (F : BxF) (p : WkD) (s : StD) (h : VC.holds (n42 L F p s)) : Holds (vcC L F [45, 90] (D42 a0) (S42 F) (p, s, ())) := Holds.of_eq (n42_eq L F p s) h
theorem ok100 (F : BxF) (h : F.isMv = fun l v => decide (v ∈ l)) (hp : F.bm = fun l => l.length ≤ 1000000) : SpecOk prog 100 (S56 F) := by
  refine contract_by hm hE D100 fnok100 _ fun (z : List MvD × MvD × Unit) hpre => ?_
  obtain ⟨l, v, ⟨⟩⟩ := z
  have hpre' : F.bm l := hpre
  rw [hp] at hpre'
  have g : l.length ≤ 1000000 := hpre'
  let I : Int × Unit → Prop := Iv l.length fun k => ∀ x ∈ l.take k, x ≠ v
  refine pack _ 3 a0 (only_tab (T := tabO (o100 Lv.std I (Mu l.length)) (cT F)) (l := [128]) (tb_cons (tb_d (fnok128 (a128 Lv.std I (Mu l.length))) (by kernel_rfl)) tb_nil)) ?_
  refine n100_go Lv.std F I (Mu l.length) l v ?_
  simp only [n100, VC.holds, std_cmp, std_scmp, std_ar_add, std_ar_sub, std_ar_mul, std_ar, std_dv, std_shf, std_conv, std_mn, std_mx, std_beq, std_bnot, std_band, std_scat, std_byte, std_ext, std_slen, std_strOf, std_bytes, std_llen, std_get, std_setl, std_app, std_take, std_drop, std_rep, std_mhas, std_mval, std_mput, std_cast, std_toN, std_sub, std_add, std_inR, std_le3, std_leN, std_ltN, std_ne0, std_nonneg, std_catOk, std_room, std_mkOk, std_nth, std_cnt, cmp_lss_t, cmp_lss_f, cmp_leq_t, cmp_leq_f, cmp_gtr_t, cmp_gtr_f, cmp_geq_t, cmp_geq_f, cmp_eql_t, cmp_eql_f, cmp_neq_t, cmp_neq_f, scmp_eql_t, scmp_eql_f, scmp_neq_t, scmp_neq_f, dflt_int, dflt_bool, dflt_str, dflt_sl, dflt_pair, h, Prod.mk.injEq, and_true, true_and]
  have eqv : ∀ u : MvD, (VM.compare BinOp.eql v.1 u.1 && (v.2 == u.2 && true)) = decide (u = v) := fun u => by
    obtain ⟨a, b⟩ := u
    obtain ⟨c, d⟩ := v
    show ((c == a) && (d == b && true)) = _
    rw [Bool.and_true]
    by_cases h1 : c = a
    · subst h1
      by_cases h2 : d = b
      · subst h2; simp
      · rw [decide_eq_false (fun e => h2 (congrArg Prod.snd e).symm)]; simp [h2]
    · rw [decide_eq_false (fun e => h1 (congrArg Prod.fst e).symm)]; simp [h1]
  refine ⟨Iv.zero (by simp), fun x hx => ?_⟩
  obtain ⟨k, rfl, hk, i3⟩ := Iv.elim hx
  simp only [Int.toNat_natCast, eqv]
  have neg1 : (Int.negSucc 0 : Int) = -1 := rfl
  rw [neg1]
  refine ⟨fun hlt => ⟨⟨by omega, hlt⟩, fun he => ⟨fun _ => ?_, fun hc => by omega⟩, fun he => ?_⟩, fun hge => ⟨fun hc => by omega, fun _ => ?_⟩⟩
  · have he' := of_decide_eq_true he
    have hk' : k < l.length := by omega
    rw [List.getElem?_eq_getElem hk'] at he'
    exact (decide_eq_true (by rw [← he']; exact List.getElem_mem hk')).symm
  · have he' := of_decide_eq_false he
    have hk' : k < l.length := by omega
    rw [List.getElem?_eq_getElem hk'] at he'
    rw [wr hlt g]
    refine ⟨Iv.mk (by omega) (fun x hx => ?_), Mu.lt (by omega)⟩
    rw [List.take_succ, List.getElem?_eq_getElem hk'] at hx
    rcases List.mem_append.1 hx with h1 | h1
    · exact i3 x h1
    · have : x = l[k] := by simpa using h1
      rw [this]; exact he'
  · rw [show k = l.length by omega, List.take_length] at i3
    exact (decide_eq_false (fun hm => i3 v hm rfl)).symm
theorem ok126 (F : BxF) (hp : F.pCl = fun s (k : Int) => (0 ≤ k ∧ k < s.2.length) ∧ bS s) (q1 : F.pLi = fun l => l.length ≤ 1000000) (q2 : F.pLt = fun l => l.length ≤ 1000000) (q3 : F.pLk = fun l => l.length ≤ 1000000) (k1 : XOk prog 76 (R76 F).x) (k2 : XOk prog 141 (R141 F).x) (k3 : XOk prog 142 (R142 F).x) : SpecOk prog 126 (S126 F) := by
  refine contract_by hm hE D126 fnok126 _ fun (z : StD × Int × Unit) hpre => ?_
  obtain ⟨s, k, ⟨⟩⟩ := z
  have hpre' : F.pCl s k := hpre
  rw [hp] at hpre'
  obtain ⟨g1, g2, g3, g4⟩ := hpre'
  refine pack _ 3 a0 (only_tab (T := cT F) (l := [76, 141, 142]) (tb_cons (tb_x k1 (by kernel_rfl)) (tb_cons (tb_x k2 (by kernel_rfl)) (tb_cons (tb_x k3 (by kernel_rfl)) tb_nil)))) ?_
  refine n126_go Lv.std F s k ?_
  simp only [n126, VC.holds, std_cmp, std_scmp, std_ar_add, std_ar_sub, std_ar_mul, std_ar, std_dv, std_shf, std_conv, std_mn, std_mx, std_beq, std_bnot, std_band, std_scat, std_byte, std_ext, std_slen, std_strOf, std_bytes, std_llen, std_get, std_setl, std_app, std_take, std_drop, std_rep, std_mhas, std_mval, std_mput, std_cast, std_toN, std_sub, std_add, std_inR, std_le3, std_leN, std_ltN, std_ne0, std_nonneg, std_catOk, std_room, std_mkOk, std_nth, std_cnt, cmp_lss_t, cmp_lss_f, cmp_leq_t, cmp_leq_f, cmp_gtr_t, cmp_gtr_f, cmp_geq_t, cmp_geq_f, cmp_eql_t, cmp_eql_f, cmp_neq_t, cmp_neq_f, scmp_eql_t, scmp_eql_f, scmp_neq_t, scmp_neq_f, dflt_int, dflt_bool, dflt_str, dflt_sl, dflt_pair, q1, q2, q3, List.take_length, List.set_set, pe5, Prod.mk.injEq, and_true, true_and]
  obtain ⟨k, rfl⟩ := nat_of g1.1
  have hk : k < s.2.length := by omega
  simp only [Int.toNat_natCast, List.getElem?_eq_getElem hk, Option.getD_some]
  obtain ⟨b1, b2, b3⟩ := g4 _ (List.getElem_mem hk)
  refine ⟨g2, g3, g1, hk, b1, hk, b2, hk, b3, hk, ?_⟩
  rw [List.set_getElem_self, List.take_length]
theorem ok98 (F : BxF) (hp : F.bs = bS) (q : F.pCl = fun s (k : Int) => (0 ≤ k ∧ k < s.2.length) ∧ bS s) (k1 : SpecOk prog 126 (S126 F)) : SpecOk prog 98 (S43 F) := by
  refine contract_by hm hE D98 fnok98 _ fun (z : StD × Unit) hpre => ?_
  obtain ⟨s, ⟨⟩⟩ := z
  have hpre' : F.bs s := hpre
  rw [hp] at hpre'
  have g2 := hpre'.2.1
  let I : List Int × List ThD × Int × Unit → Prop := fun x => (0 ≤ x.2.2.1 ∧ x.2.2.1 ≤ s.2.length) ∧ (x.1, x.2.1) = s
  let mu : List Int × List ThD × Int × Unit → Nat := fun x => (s.2.length - x.2.2.1).toNat
  refine pack _ 3 (a98 Lv.std I mu) (only_tab (T := cT F) (l := [126]) (tb_cons (tb_sp k1 (by kernel_rfl)) tb_nil)) ?_
  refine n98_go Lv.std F I mu s ?_
  simp only [n98, VC.holds, std_cmp, std_scmp, std_ar_add, std_ar_sub, std_ar_mul, std_ar, std_dv, std_shf, std_conv, std_mn, std_mx, std_beq, std_bnot, std_band, std_scat, std_byte, std_ext, std_slen, std_strOf, std_bytes, std_llen, std_get, std_setl, std_app, std_take, std_drop, std_rep, std_mhas, std_mval, std_mput, std_cast, std_toN, std_sub, std_add, std_inR, std_le3, std_leN, std_ltN, std_ne0, std_nonneg, std_catOk, std_room, std_mkOk, std_nth, std_cnt, cmp_lss_t, cmp_lss_f, cmp_leq_t, cmp_leq_f, cmp_gtr_t, cmp_gtr_f, cmp_geq_t, cmp_geq_f, cmp_eql_t, cmp_eql_f, cmp_neq_t, cmp_neq_f, scmp_eql_t, scmp_eql_f, scmp_neq_t, scmp_neq_f, dflt_int, dflt_bool, dflt_str, dflt_sl, dflt_pair, q, pe5, Prod.mk.injEq, and_true, true_and]
  refine ⟨⟨⟨Int.le_refl 0, by show (0 : Int) ≤ s.2.length; omega⟩, rfl⟩, ?_⟩
  rintro ⟨a, b, x, ⟨⟩⟩ ⟨⟨i1, i2⟩, i3⟩
  simp only at i1 i2 i3 ⊢
  obtain ⟨k, rfl⟩ := nat_of i1
  rw [i3]
  refine ⟨fun hlt => ⟨⟨⟨i1, by rw [← i3] at hlt; exact by have : b = s.2 := congrArg Prod.snd i3; rw [this]; rw [← i3]; exact hlt⟩, hpre'⟩, ?_⟩, fun _ => rfl⟩
  rw [wr hlt g2]
  exact ⟨⟨⟨by show (0 : Int) ≤ ((k + 1 : Nat) : Int); omega, by show ((k + 1 : Nat) : Int) ≤ (s.2.length : Int); omega⟩, i3⟩, by show ((s.2.length : Int) - ((k + 1 : Nat) : Int)).toNat < ((s.2.length : Int) - (k : Int)).toNat; omega⟩
def begF (p : WkD) : StD × Int := if checkF p ≠ 0 then (([], []), checkF p) else (firstF p, 0)
theorem ok36 (F : BxF) (h : F.begE = begF) (h1 : F.check = checkF) (h2 : F.first = firstF) (hp : F.bw = bW) (q : F.pFirst = fun p => p.1.length ≤ 1000000 ∧ p.2.1.length ≤ 1000000) (k1 : SpecOk prog 38 (S22 F)) (k2 : SpecOk prog 79 (S79 F)) : SpecOk prog 36 (S36 F) := by
  refine contract_by hm hE D36 fnok36 _ fun (z : WkD × Unit) hpre => ?_
  obtain ⟨p, ⟨⟩⟩ := z
  have hpre' : F.bw p := hpre
  rw [hp] at hpre'
  refine pack _ 3 a0 (only_tab (T := cT F) (l := [38, 79]) (tb_cons (tb_sp k1 (by kernel_rfl)) (tb_cons (tb_sp k2 (by kernel_rfl)) tb_nil))) ?_
  refine n36_go Lv.std F p ?_
  simp only [n36, VC.holds, std_cmp, std_scmp, std_ar_add, std_ar_sub, std_ar_mul, std_ar, std_dv, std_shf, std_conv, std_mn, std_mx, std_beq, std_bnot, std_band, std_scat, std_byte, std_ext, std_slen, std_strOf, std_bytes, std_llen, std_get, std_setl, std_app, std_take, std_drop, std_rep, std_mhas, std_mval, std_mput, std_cast, std_toN, std_sub, std_add, std_inR, std_le3, std_leN, std_ltN, std_ne0, std_nonneg, std_catOk, std_room, std_mkOk, std_nth, std_cnt, cmp_lss_t, cmp_lss_f, cmp_leq_t, cmp_leq_f, cmp_gtr_t, cmp_gtr_f, cmp_geq_t, cmp_geq_f, cmp_eql_t, cmp_eql_f, cmp_neq_t, cmp_neq_f, scmp_eql_t, scmp_eql_f, scmp_neq_t, scmp_neq_f, dflt_int, dflt_bool, dflt_str, dflt_sl, dflt_pair, h, h1, h2, hp, q, begF, pe5, Prod.mk.injEq, and_true, true_and]
  exact ⟨hpre', fun c => by rw [if_pos c]; exact ⟨rfl, rfl⟩, fun c => ⟨⟨hpre'.1, hpre'.2.1⟩, by rw [if_neg (by simpa using c)]; exact ⟨rfl, rfl⟩⟩⟩
def mvsF (p : WkD) (s : StD) : List MvD × Int := if ckStF p s ≠ 0 then ([], ckStF p s) else (movesF (p, false) s, 0)
theorem ok42 (F : BxF) (h : F.mvE = mvsF) (h1 : F.ckSt = ckStF) (h2 : F.moves = movesF) (hp : F.pSt = fun p s => bW p ∧ bS s) (q : F.pE = pEF) (k1 : SpecOk prog 45 (S45 F)) (k2 : SpecOk prog 90 (S90 F)) : SpecOk prog 42 (S42 F) := by
  refine contract_by hm hE D42 fnok42 _ fun (z : WkD × StD × Unit) hpre => ?_
  obtain ⟨p, s, ⟨⟩⟩ := z
  have hpre' : F.pSt p s := hpre
  rw [hp] at hpre'
  refine pack _ 3 a0 (only_tab (T := cT F) (l := [45, 90]) (tb_cons (tb_sp k1 (by kernel_rfl)) (tb_cons (tb_sp k2 (by kernel_rfl)) tb_nil))) ?_
  refine n42_go Lv.std F p s ?_
  simp only [n42, VC.holds, std_cmp, std_scmp, std_ar_add, std_ar_sub, std_ar_mul, std_ar, std_dv, std_shf, std_conv, std_mn, std_mx, std_beq, std_bnot, std_band, std_scat, std_byte, std_ext, std_slen, std_strOf, std_bytes, std_llen, std_get, std_setl, std_app, std_take, std_drop, std_rep, std_mhas, std_mval, std_mput, std_cast, std_toN, std_sub, std_add, std_inR, std_le3, std_leN, std_ltN, std_ne0, std_nonneg, std_catOk, std_room, std_mkOk, std_nth, std_cnt, cmp_lss_t, cmp_lss_f, cmp_leq_t, cmp_leq_f, cmp_gtr_t, cmp_gtr_f, cmp_geq_t, cmp_geq_f, cmp_eql_t, cmp_eql_f, cmp_neq_t, cmp_neq_f, scmp_eql_t, scmp_eql_f, scmp_neq_t, scmp_neq_f, dflt_int, dflt_bool, dflt_str, dflt_sl, dflt_pair, h, h1, h2, hp, q, mvsF, pe5, Prod.mk.injEq, and_true, true_and]
  exact ⟨hpre', fun c => by rw [if_pos c]; exact ⟨rfl, rfl⟩, fun c => ⟨by obtain ⟨o1, o2⟩ := (ckSt_iff p s).1 c; exact ok_pE o1 o2, by rw [if_neg (by simpa using c)]; exact ⟨rfl, rfl⟩⟩⟩
end Go.Proofs.Tryz
set_option autoImplicit false
set_option linter.all false
namespace Go.Proofs.Tryz
open Go Go.VM
set_option maxRecDepth 100000
def n52 (L : Lv) (F : BxF) (p : WkD) (s : StD) (v : MvD)  : VC :=
 let z1 := (Prod.fst p, Prod.fst (Prod.snd p), Prod.snd (Prod.snd p));
 let z2 := (Prod.fst s, Prod.snd s);
 let z3 := (Prod.fst (BxF.doE F p s v), Prod.snd (BxF.doE F p s v), ());
 let z4 := (BxF.moves F (z1, false) z2);
 let z5 := (Prod.fst v, Prod.snd v);
 let z6 := (BxF.doo F (z1, false) z2 z5);
 let z7 := (Prod.fst z6, Prod.snd z6); VC.obl (BxF.pSt F z1 z2) (VC.br (Lv.cmp L BinOp.neq (BxF.ckSt F z1 z2) 0) (VC.ok ((([], []), BxF.ckSt F z1 z2, ()) = z3)) (VC.obl (BxF.pE F z2
   (z1, false)) (VC.obl (BxF.bm F z4) (VC.br (BxF.isMv F z4 z5) (VC.obl (BxF.pDo F (z1, false) z2 z5) (VC.obl (BxF.bs F z7) (VC.ok ((z7, 0, ()) = z3)))) (VC.ok ((([], []), 7, ()) =
   z3))))))
theorem n52_eq (L : Lv) (F : BxF) (p : WkD) (s : StD) (v : MvD) : vcC L F [45, 90, 98, 99, 100] (D52 a0) (S52 F) (p, s, v, ()) = n52 L F p s v := by kernel_rfl
theorem n52_go (L : Lv) (F : BxF) (p : WkD) (s : StD) (v : MvD) (h : VC.holds (n52 L F p s v)) : Holds (vcC L F [45, 90, 98, 99, 100] (D52 a0) (S52 F) (p, s, v, ())) := Holds.of_eq (n52_eq L F p s v) h
def n53 (L : Lv) (F : BxF) (I : Ds [.sl It, It] → Prop) (mu : Ds [.sl It, It] → Nat) (p : WkD) (s : StD) (t : Int)  : VC :=
 let z1 := Prod.snd p;
 let z2 := (Prod.fst p, Prod.fst z1, Prod.snd z1);
 let z3 := (Prod.fst s, Prod.snd s);
 let z4 := BxF.seesE F p s t;
 let z5 := (Prod.fst z4, Prod.snd z4, ());
 let z6 := Prod.snd s;
 let z7 := Lv.llen L Th z6;
 let z8 := Prod.fst s;
 let z9 := Lv.cast L (Lv.llen L It z8);
 let z10 := Lv.toN L z9;
 let z11 := Lv.cast L z10;
 let z12 := Prod.fst p;
 let z13 := Prod.fst z1;
 let z14 := Prod.snd z1;
 let z15 := Lv.rep L It z10 0;
 let z16 := Lv.get L Th z6 (Lv.toN L t);
 let z17 := Prod.snd z16;
 let z18 := Prod.snd z17;
 let z19 := Prod.snd z18;
 let z20 := (Prod.fst z16, Prod.fst z17, Prod.fst z18, Prod.fst z19, Prod.snd z19); VC.obl (BxF.pSt F z2 z3) (VC.br (Lv.cmp L BinOp.neq (BxF.ckSt F z2 z3) 0) (VC.ok (([], BxF.ckSt F
   z2 z3, ()) = z5)) (VC.obl True (VC.br (BxF.within F t 0 (Lv.ar L BinOp.sub IntKind.i64 (Lv.cast L z7) 1)) (VC.obl (Lv.mkOk L z9 z9 8) (VC.obl (St.mk 46 [(2, V.c (C.int
   IntKind.i64 t)), (4, V.c (C.ptr 2 0)), (9, V.c (C.own 4 z10)), (29, V.c (C.int IntKind.i64 z11)), (30, V.c (C.int IntKind.i64 0))] [(0, Ob.amb), (1, Ob.box 25 [C.sl It z12, C.sl
   (Ty.sl In) z13, C.int IntKind.i64 z14]), (2, Ob.box 59 [C.sl It z8, C.sl Th z6]), (4, Ob.row 3 It z15)] 5 = St.mk 46 [(2, V.c (C.int IntKind.i64 t)), (4, V.c (C.ptr 2 0)), (9,
   V.c (C.own 4 (Lv.llen L It z15))), (29, V.c (C.int IntKind.i64 z11)), (30, V.c (C.int IntKind.i64 0))] [(0, Ob.amb), (1, Ob.box 25 [C.sl It z12, C.sl (Ty.sl In) z13, C.int
   IntKind.i64 z14]), (2, Ob.box 59 [C.sl It z8, C.sl Th z6]), (4, Ob.row 3 It z15)] 5) (VC.obl (I (Lv.rep L It z10 0, 0, ())) (VC.all (List Int × Int × Unit) fun (v1 : List Int ×
   Int × Unit) =>
 let z21 := Prod.fst (Prod.snd v1);
 let z22 := Prod.fst v1;
 let z23 := Lv.llen L It z22;
 let z24 := Lv.toN L z21;
 let z25 := Lv.ar L BinOp.add IntKind.i64 z21 1;
 let z26 := BxF.sees F z3 z20 z21;
 let z27 := Lv.setl L It z22 z24 z26;
 let z28 := (Lv.setl L It z22 z24 z26, Lv.ar L BinOp.add IntKind.i64 z21 1, ()); VC.imp (I v1) (VC.br (Lv.cmp L BinOp.lss z21 z11) (VC.obl (Lv.inR L t z7) (VC.obl (BxF.pSees F z3
   z20 z21) (VC.obl (Lv.inR L z21 z23) (VC.obl (Lv.ltN L z24 z23) (VC.ok (St.mk 46 [(2, V.c (C.int IntKind.i64 t)), (4, V.c (C.ptr 2 0)), (9, V.c (C.own 4 z23)), (29, V.c (C.int
   IntKind.i64 z11)), (30, V.c (C.int IntKind.i64 z25))] [(0, Ob.amb), (1, Ob.box 25 [C.sl It z12, C.sl (Ty.sl In) z13, C.int IntKind.i64 z14]), (2, Ob.box 59 [C.sl It z8, C.sl Th
   z6]), (4, Ob.row 3 It z27)] 5 = St.mk 46 [(2, V.c (C.int IntKind.i64 t)), (4, V.c (C.ptr 2 0)), (9, V.c (C.own 4 (Lv.llen L It z27))), (29, V.c (C.int IntKind.i64 z11)), (30, V.c
   (C.int IntKind.i64 z25))] [(0, Ob.amb), (1, Ob.box 25 [C.sl It z12, C.sl (Ty.sl In) z13, C.int IntKind.i64 z14]), (2, Ob.box 59 [C.sl It z8, C.sl Th z6]), (4, Ob.row 3 It z27)] 5
   ∧ I z28 ∧ mu z28 < mu v1)))))) (VC.ok ((Lv.take L It z22 z23, 0, ()) = z5))))))) (VC.ok (([], 7, ()) = z5)))))
theorem n53_eq (L : Lv) (F : BxF) (I : Ds [.sl It, It] → Prop) (mu : Ds [.sl It, It] → Nat) (p : WkD) (s : StD) (t : Int) : vcC L F [45, 86, 101] (D53 (a53 L I mu)) (S53 F) (p, s, t, ()) = n53 L F I mu p s t := by kernel_rfl
theorem n53_go (L : Lv) (F : BxF) (I : Ds [.sl It, It] → Prop) (mu : Ds [.sl It, It] → Nat) (p : WkD) (s : StD) (t : Int) (h : VC.holds (n53 L F I mu p s t)) : Holds (vcC L F [45, 86, 101] (D53 (a53 L I mu)) (S53 F) (p, s, t, ())) := Holds.of_eq (n53_eq L F I mu p s t) h
def doEF (p : WkD) (s : StD) (v : MvD) : StD × Int := if ckStF p s ≠ 0 then (([], []), ckStF p s) else if v ∈ movesF (p, false) s then (doF (p, false) s v, 0) else (([], []), 7)
def seesL (s : StD) (t : Int) (n : Nat) : List Int := (List.range n).map fun (k : Nat) => seesF s (thAt s t) k
def seesEF (p : WkD) (s : StD) (t : Int) : List Int × Int := if ckStF p s ≠ 0 then ([], ckStF p s) else if withinF t 0 ((s.2.length : Int) - 1) = true then (seesL s t s.1.length, 0) else ([], 7)
theorem ok52 (F : BxF) (h : F.doE = doEF) (h1 : F.ckSt = ckStF) (h2 : F.moves = movesF) (h3 : F.doo = doF) (h4 : F.isMv = fun l v => decide (v ∈ l)) (hp : F.pSt = fun p s => bW p ∧ bS s) (q : F.pE = pEF) (q1 : F.pDo = pDoF) (q2 : F.bm = fun l => l.length ≤ 1000000) (q3 : F.bs = bS) (k1 : SpecOk prog 45 (S45 F)) (k2 : SpecOk prog 90 (S90 F)) (k3 : SpecOk prog 98 (S43 F)) (k4 : SpecOk prog 99 (S99 F)) (k5 : SpecOk prog 100 (S56 F)) : SpecOk prog 52 (S52 F) := by
  refine contract_by hm hE D52 fnok52 _ fun (z : WkD × StD × MvD × Unit) hpre => ?_
  obtain ⟨p, s, v, ⟨⟩⟩ := z
  have hpre' : F.pSt p s := hpre
  rw [hp] at hpre'
  refine pack _ 3 a0 (only_tab (T := cT F) (l := [45, 90, 98, 99, 100]) (tb_cons (tb_sp k1 (by kernel_rfl)) (tb_cons (tb_sp k2 (by kernel_rfl)) (tb_cons (tb_sp k3 (by kernel_rfl)) (tb_cons (tb_sp k4 (by kernel_rfl)) (tb_cons (tb_sp k5 (by kernel_rfl)) tb_nil)))))) ?_
  refine n52_go Lv.std F p s v ?_
  simp only [n52, VC.holds, std_cmp, std_scmp, std_ar_add, std_ar_sub, std_ar_mul, std_ar, std_dv, std_shf, std_conv, std_mn, std_mx, std_beq, std_bnot, std_band, std_scat, std_byte, std_ext, std_slen, std_strOf, std_bytes, std_llen, std_get, std_setl, std_app, std_take, std_drop, std_rep, std_mhas, std_mval, std_mput, std_cast, std_toN, std_sub, std_add, std_inR, std_le3, std_leN, std_ltN, std_ne0, std_nonneg, std_catOk, std_room, std_mkOk, std_nth, std_cnt, cmp_lss_t, cmp_lss_f, cmp_leq_t, cmp_leq_f, cmp_gtr_t, cmp_gtr_f, cmp_geq_t, cmp_geq_f, cmp_eql_t, cmp_eql_f, cmp_neq_t, cmp_neq_f, scmp_eql_t, scmp_eql_f, scmp_neq_t, scmp_neq_f, dflt_int, dflt_bool, dflt_str, dflt_sl, dflt_pair, h, h1, h2, h3, h4, hp, q, q1, q2, q3, doEF, pe5, Prod.mk.injEq, and_true, true_and]
  refine ⟨hpre', fun c => by rw [if_pos c]; exact ⟨rfl, rfl⟩, fun c => ?_⟩
  obtain ⟨o1, o2⟩ := (ckSt_iff p s).1 c
  rw [if_neg (by simpa using c)]
  refine ⟨ok_pE o1 o2, ?_, fun e => ?_, fun e => ?_⟩
  · have := mvN_len s (p, false) s.2.length
    have h2 := hpre'.2.2.1
    have h4 := o2.tl
    have h5 := o1.t4
    show (mvN s (p, false) s.2.length).length ≤ _
    omega
  · have hv := of_decide_eq_true e
    rw [if_pos hv]
    exact ⟨ok_pDo o1 o2 hv, ok_bS o1 (do_ok o1 o2 hv), rfl, rfl⟩
  · rw [if_neg (of_decide_eq_false e)]; exact ⟨rfl, rfl⟩
theorem ok53 (F : BxF) (h : F.seesE = seesEF) (h1 : F.ckSt = ckStF) (h2 : F.within = withinF) (h3 : F.sees = seesF) (hp : F.pSt = fun p s => bW p ∧ bS s) (q : F.pSees = fun s t p => inReg s.1 p ∧ t.2.2.1.length ≤ 1000000) (k1 : SpecOk prog 45 (S45 F)) (k2 : SpecOk prog 86 (S86 F)) (k3 : SpecOk prog 101 (S101 F)) : SpecOk prog 53 (S53 F) := by
  refine contract_by hm hE D53 fnok53 _ fun (z : WkD × StD × Int × Unit) hpre => ?_
  obtain ⟨p, s, t, ⟨⟩⟩ := z
  have hpre' : F.pSt p s := hpre
  rw [hp] at hpre'
  let I : List Int × Int × Unit → Prop := fun x => (0 ≤ x.2.1 ∧ x.2.1 ≤ s.1.length) ∧ x.1 = seesL s t x.2.1.toNat ++ List.replicate (s.1.length - x.2.1.toNat) 0
  let mu : List Int × Int × Unit → Nat := fun x => (s.1.length - x.2.1).toNat
  refine pack _ 3 (a53 Lv.std I mu) (only_tab (T := cT F) (l := [45, 86, 101]) (tb_cons (tb_sp k1 (by kernel_rfl)) (tb_cons (tb_sp k2 (by kernel_rfl)) (tb_cons (tb_sp k3 (by kernel_rfl)) tb_nil)))) ?_
  refine n53_go Lv.std F I mu p s t ?_
  simp only [n53, VC.holds, std_cmp, std_scmp, std_ar_add, std_ar_sub, std_ar_mul, std_ar, std_dv, std_shf, std_conv, std_mn, std_mx, std_beq, std_bnot, std_band, std_scat, std_byte, std_ext, std_slen, std_strOf, std_bytes, std_llen, std_get, std_setl, std_app, std_take, std_drop, std_rep, std_mhas, std_mval, std_mput, std_cast, std_toN, std_sub, std_add, std_inR, std_le3, std_leN, std_ltN, std_ne0, std_nonneg, std_catOk, std_room, std_mkOk, std_nth, std_cnt, cmp_lss_t, cmp_lss_f, cmp_leq_t, cmp_leq_f, cmp_gtr_t, cmp_gtr_f, cmp_geq_t, cmp_geq_f, cmp_eql_t, cmp_eql_f, cmp_neq_t, cmp_neq_f, scmp_eql_t, scmp_eql_f, scmp_neq_t, scmp_neq_f, dflt_int, dflt_bool, dflt_str, dflt_sl, dflt_pair, h, h1, h2, h3, hp, q, seesEF, pe5, List.length_replicate, List.length_set, Int.toNat_natCast, Prod.mk.injEq, and_true, true_and]
  have hwl := hpre'.2.1
  have htl := hpre'.2.2.1
  have ew : IntKind.i64.wrap ((s.2.length : Int) - 1) = (s.2.length : Int) - 1 := wrap_i64 (by omega) (by omega)
  rw [ew]
  refine ⟨hpre', fun c => by rw [if_pos c]; exact ⟨rfl, rfl⟩, fun c => ?_⟩
  rw [if_neg (by simpa using c)]
  refine ⟨fun hw => ⟨⟨by omega, by omega, by omega, by omega⟩, ⟨⟨Int.le_refl 0, by show (0 : Int) ≤ s.1.length; omega⟩, rfl⟩, ?_⟩, fun hw => by rw [if_neg (by rw [hw]; simp)]; exact ⟨rfl, rfl⟩⟩
  have hw' := withinF_t.1 hw
  rintro ⟨l, x, ⟨⟩⟩ ⟨⟨i1, i2⟩, i3⟩
  simp only at i1 i2 i3 ⊢
  obtain ⟨k, rfl⟩ := nat_of i1
  rw [Int.toNat_natCast] at i3
  have hsl : ∀ n, (seesL s t n).length = n := fun n => by simp [seesL]
  have hll : l.length = s.1.length := by rw [i3, List.length_append, hsl, List.length_replicate]; omega
  refine ⟨fun hlt => ⟨⟨hw'.1, by omega⟩, ⟨⟨i1, hlt⟩, ?_⟩, ⟨i1, by omega⟩, by rw [Int.toNat_natCast]; omega, ?_⟩, fun hge => ?_⟩
  · rw [List.getElem?_eq_getElem (by omega)]
    exact (hpre'.2.2.2 _ (List.getElem_mem _)).2.1
  · rw [wr hlt hwl, Int.toNat_natCast]
    refine ⟨⟨⟨by show (0 : Int) ≤ ((k + 1 : Nat) : Int); omega, by show ((k + 1 : Nat) : Int) ≤ (s.1.length : Int); omega⟩, ?_⟩, by show ((s.1.length : Int) - ((k + 1 : Nat) : Int)).toNat < ((s.1.length : Int) - (k : Int)).toNat; omega⟩
    show l.set k (seesF s (thAt s t) k) = seesL s t ((k + 1 : Nat) : Int).toNat ++ List.replicate (s.1.length - ((k + 1 : Nat) : Int).toNat) 0
    rw [Int.toNat_natCast, i3, List.set_append, hsl, if_neg (by omega), Nat.sub_self]
    obtain ⟨n, hn⟩ : ∃ n, s.1.length - k = n + 1 := ⟨s.1.length - k - 1, by omega⟩
    rw [hn, show s.1.length - (k + 1) = n by omega, List.replicate_succ, List.set_cons_zero]
    simp only [seesL, List.range_succ, List.map_append, List.map_cons, List.map_nil, List.append_assoc, List.cons_append, List.nil_append]
  · have hk : k = s.1.length := by omega
    subst hk
    rw [if_pos hw, i3, Nat.sub_self, List.replicate_zero, List.append_nil, List.take_length]
    exact ⟨rfl, rfl⟩
end Go.Proofs.Tryz
set_option autoImplicit false
set_option linter.all false
namespace Go.Proofs.Tryz
open Go Go.VM
set_option maxRecDepth 100000
def a104 (L : Lv) (I : Ds [It] → Prop) (mu : Ds [It] → Nat) : Nat → LAnn
  | 0 => anH L [0, 1, 5] [] [.s 5 It] I mu
  | _ => .no
def n104 (L : Lv) (F : BxF) (I : Ds [It] → Prop) (mu : Ds [It] → Nat) (a b : List KpD)  : VC :=
 let z1 := Lv.cast L (Lv.llen L Kp a);
 let z2 := (BxF.sameK F a b, ()); VC.br (Lv.cmp L BinOp.neq z1 (Lv.cast L (Lv.llen L Kp b))) (VC.ok ((false, ()) = z2)) (VC.obl (St.mk 26 [(0, V.c (C.sl Kp a)), (1, V.c (C.sl Kp
   b)), (5, V.c (C.int IntKind.i64 0))] [(0, Ob.amb)] 1 = St.mk 26 [(0, V.c (C.sl Kp a)), (1, V.c (C.sl Kp b)), (5, V.c (C.int IntKind.i64 0))] [(0, Ob.amb)] 1) (VC.obl (I (0, ()))
   (VC.all (Int × Unit) fun (v1 : Int × Unit) =>
 let z3 := Prod.fst v1;
 let z4 := Lv.toN L z3;
 let z5 := Lv.get L Kp a z4;
 let z6 := Lv.get L Kp b z4;
 let z7 := Lv.ar L BinOp.add IntKind.i64 z3 1;
 let z8 := (Lv.ar L BinOp.add IntKind.i64 z3 1, ()); VC.imp (I v1) (VC.br (Lv.cmp L BinOp.lss z3 z1) (VC.obl (Lv.inR L z3 (Lv.llen L Kp a)) (VC.obl (Lv.inR L z3 (Lv.llen L Kp b))
   (VC.br (Lv.bnot L (Lv.band L (Lv.cmp L BinOp.eql (Prod.fst z5) (Prod.fst z6)) (Lv.band L (Lv.cmp L BinOp.eql (Prod.snd z5) (Prod.snd z6)) true))) (VC.ok ((false, ()) = z2))
   (VC.ok (St.mk 26 [(0, V.c (C.sl Kp a)), (1, V.c (C.sl Kp b)), (5, V.c (C.int IntKind.i64 z7))] [(0, Ob.amb)] 1 = St.mk 26 [(0, V.c (C.sl Kp a)), (1, V.c (C.sl Kp b)), (5, V.c
   (C.int IntKind.i64 z7))] [(0, Ob.amb)] 1 ∧ I z8 ∧ mu z8 < mu v1))))) (VC.ok ((true, ()) = z2))))))
theorem n104_eq (L : Lv) (F : BxF) (I : Ds [It] → Prop) (mu : Ds [It] → Nat) (a b : List KpD) : vcC L F [] (D104 (a104 L I mu)) (S104 F) (a, b, ()) = n104 L F I mu a b := by kernel_rfl
theorem n104_go (L : Lv) (F : BxF) (I : Ds [It] → Prop) (mu : Ds [It] → Nat) (a b : List KpD) (h : VC.holds (n104 L F I mu a b)) : Holds (vcC L F [] (D104 (a104 L I mu)) (S104 F) (a, b, ())) := Holds.of_eq (n104_eq L F I mu a b) h
theorem ok104 (F : BxF) (h : F.sameK = fun a b => decide (a = b)) (hp : F.bk = fun l => l.length ≤ 1000000) : SpecOk prog 104 (S104 F) := by
  refine contract_by hm hE D104 fnok104 _ fun (z : List KpD × List KpD × Unit) hpre => ?_
  obtain ⟨a, b, ⟨⟩⟩ := z
  have hpre' : F.bk a := hpre
  rw [hp] at hpre'
  have g : a.length ≤ 1000000 := hpre'
  let I : Int × Unit → Prop := Iv a.length fun k => decide (a.drop k = b.drop k) = decide (a = b)
  refine pack _ 3 (a104 Lv.std I (Mu a.length)) (only_tab (T := cT F) (l := []) tb_nil) ?_
  refine n104_go Lv.std F I (Mu a.length) a b ?_
  have e1 : ∀ (l : List KpD) (k : Int), Lv.std.get Kp l k.toNat = (l[k.toNat]?).getD (0, 0) := fun _ _ => rfl
  have eqv : ∀ u v : KpD, (VM.compare BinOp.eql u.1 v.1 && (VM.compare BinOp.eql u.2 v.2 && true)) = decide (u = v) := fun u v => by
    obtain ⟨a, b⟩ := v
    obtain ⟨c, d⟩ := u
    show ((c == a) && ((d == b) && true)) = _
    rw [Bool.and_true]
    by_cases h1 : c = a
    · subst h1
      by_cases h2 : d = b
      · subst h2; simp
      · rw [decide_eq_false (fun e => h2 (congrArg Prod.snd e))]; simp [h2]
    · rw [decide_eq_false (fun e => h1 (congrArg Prod.fst e))]; simp [h1]
  simp only [n104, VC.holds, std_cmp, std_cast, std_llen, std_toN, std_beq, std_band, std_bnot, e1, std_inR, std_ar_add, cmp_lss_t, cmp_lss_f, cmp_neq_t, cmp_neq_f, h, Prod.mk.injEq, and_true, true_and]
  simp only [eqv, Bool.not_eq_true', Bool.not_eq_false']
  refine ⟨fun hn => ?_, fun hn => ⟨Iv.zero rfl, fun x hx => ?_⟩⟩
  · rw [decide_eq_false (fun e => hn (by rw [e]))]
  · obtain ⟨k, rfl, hk, i3⟩ := Iv.elim hx
    simp only [Int.toNat_natCast]
    refine ⟨fun hlt => ?_, fun hge => ?_⟩
    · have h1 : k < a.length := by omega
      have h2 : k < b.length := by omega
      rw [List.drop_eq_getElem_cons h1, List.drop_eq_getElem_cons h2] at i3
      simp only [List.getElem?_eq_getElem h1, List.getElem?_eq_getElem h2, Option.getD_some]
      refine ⟨⟨by omega, hlt⟩, ⟨by omega, by omega⟩, fun he => ?_, fun he => ?_⟩
      · have he' : ¬ a[k] = b[k] := of_decide_eq_false he
        rw [← i3, decide_eq_false]
        intro e; injection e with e1 _; exact he' e1
      · rw [wr hlt g]
        have he' : a[k] = b[k] := of_decide_eq_true he
        refine ⟨Iv.mk (by omega) ?_, Mu.lt h1⟩
        rw [← i3, he']; simp only [List.cons.injEq, true_and]
    · rw [List.drop_eq_nil_of_le (by omega), List.drop_eq_nil_of_le (by omega)] at i3
      rw [← i3]; rfl
end Go.Proofs.Tryz
set_option autoImplicit false
set_option linter.all false
namespace Go.Proofs.Tryz
open Go Go.VM
theorem step_9 (b : Bool) (s : StD) (t : ThD) (i : InD) (h : i.1 = 9) : stepF b s t i = if (placeF s t i).2 = false then none else if b then some (s.1.set (placeF s t i).1.toNat (regF t.2.1 i.2.1), IntKind.i64.wrap (t.1 + 1), t.2) else some (s.1, IntKind.i64.wrap (t.1 + 1), t.2.1, t.2.2.1 ++ [((placeF s t i).1, regF t.2.1 i.2.1)], t.2.2.2) := by
  unfold stepF
  simp only [h, show ¬ ((9 : Int) = 13) by decide, show ¬ ((9 : Int) = 14) by decide, show ¬ ((9 : Int) = 15) by decide, show ¬ ((9 : Int) = 8) by decide, if_false, if_true, or_true, true_or]
theorem step_kept {s : StD} {t : ThD} {i : InD} {b : Bool} (h : b = true ∨ i.1 ≠ 9) {x : List Int × ThD} (hx : stepF b s t i = some x) : x.2.2.2.1 = t.2.2.1 := by
  unfold stepF at hx
  simp only at hx
  repeat' split at hx
  all_goals first
    | (cases hx; done)
    | (injection hx with hx; subst hx; rfl)
    | (injection hx with hx; subst hx; rename_i hs; rcases h with h | h <;> first | contradiction | skip)
theorem do_false {m : McD} {s : StD} {k : Nat} : doF m s ((k : Int), false) = match stepF m.2 s (thAt s k) (insIn (listAt m k) (thAt s k).1) with
    | some x => (x.1, s.2.set k x.2)
    | none => (s.1, s.2.set k ((thAt s k).1, (thAt s k).2.1, (thAt s k).2.2.1, (thAt s k).2.2.2.1, true)) := by
  unfold doF
  simp only [Int.toNat_natCast, Bool.false_eq_true, if_false]
  rfl
theorem do_true {m : McD} {s : StD} {k : Nat} : doF m s ((k : Int), true) = (s.1.set (kpAt (thAt s k).2.2.1 0).1.toNat (kpAt (thAt s k).2.2.1 0).2, s.2.set k ((thAt s k).1, (thAt s k).2.1, (thAt s k).2.2.1.drop 1, (thAt s k).2.2.2)) := by
  unfold doF
  simp only [Int.toNat_natCast, if_true]
end Go.Proofs.Tryz
set_option autoImplicit false
set_option linter.all false
namespace Go.Proofs.Tryz
open Go Go.VM
def flW (w : List Int) (l : List KpD) : List Int := l.foldl (fun w k => w.set k.1.toNat k.2) w
theorem flW_snoc (w : List Int) (l : List KpD) (x : KpD) : flW w (l ++ [x]) = (flW w l).set x.1.toNat x.2 := by unfold flW; rw [List.foldl_append]; rfl
theorem flW_len (w : List Int) (l : List KpD) : (flW w l).length = w.length := by
  induction l using snocRec with
  | h0 => rfl
  | h1 l x ih => rw [flW_snoc, List.length_set, ih]
theorem lk_app (l : List KpD) (x : KpD) (q : Int) : ∀ n, n ≤ l.length → lkF (l ++ [x]) q n = lkF l q n
  | 0, _ => rfl
  | n + 1, h => by
    have e : kpAt (l ++ [x]) n = kpAt l n := by unfold kpAt; rw [List.getElem?_append_left (by omega)]
    rw [lkF, lkF, e, lk_app l x q n (by omega)]
theorem reg_set {w : List Int} {k q v : Int} (hk : 0 ≤ k) (hq : 0 ≤ q ∧ q < w.length) : regF (w.set k.toNat v) q = if k = q then v else regF w q := by
  unfold regF
  rw [List.getElem?_set]
  by_cases h : k = q
  · subst h; rw [if_pos rfl, if_pos rfl, if_pos (by omega)]; rfl
  · rw [if_neg (by omega), if_neg h]
theorem lk_flush {w : List Int} {q : Int} (hq : 0 ≤ q ∧ q < w.length) (l : List KpD) (hl : ∀ x ∈ l, 0 ≤ x.1) : (match lkF l q l.length with | some v => v | none => regF w q) = regF (flW w l) q := by
  induction l using snocRec with
  | h0 => rfl
  | h1 l x ih =>
    have e : kpAt (l ++ [x]) l.length = x := by unfold kpAt; rw [List.getElem?_append_right (Nat.le_refl _), Nat.sub_self]; rfl
    rw [List.length_append, List.length_cons, List.length_nil, Nat.zero_add, lkF, e, lk_app l x q _ (Nat.le_refl _), flW_snoc, reg_set (hl x (by simp)) (by rw [flW_len]; exact hq), ← ih fun y hy => hl y (by simp [hy])]
    by_cases h : x.1 = q
    · rw [if_pos h, if_pos h]
    · rw [if_neg h, if_neg h]
theorem step_8 (b : Bool) (s : StD) (t : ThD) (i : InD) (h : i.1 = 8) : stepF b s t i = if (placeF s t i).2 = false then none else some (s.1, IntKind.i64.wrap (t.1 + 1), t.2.1.set i.2.1.toNat (seesF s t (placeF s t i).1), t.2.2) := by
  unfold stepF
  simp only [h, show ¬ ((8 : Int) = 13) by decide, show ¬ ((8 : Int) = 14) by decide, show ¬ ((8 : Int) = 15) by decide, if_false, if_true, or_true, true_or]
theorem step_12 (b : Bool) (s : StD) (t : ThD) (i : InD) (h : i.1 = 12) : stepF b s t i = if (placeF s t i).2 = false then none else some (s.1, IntKind.i64.wrap (t.1 + 1), t.2) := by
  unfold stepF
  simp only [h, show ¬ ((12 : Int) = 13) by decide, show ¬ ((12 : Int) = 14) by decide, show ¬ ((12 : Int) = 15) by decide, show ¬ ((12 : Int) = 8) by decide, show ¬ ((12 : Int) = 9) by decide, show ¬ ((12 : Int) = 10) by decide, if_false, if_true, or_true, true_or]
theorem step_10 (b : Bool) (s : StD) (t : ThD) (i : InD) (h : i.1 = 10) : stepF b s t i = if (placeF s t i).2 = false then none else if regF s.1 (placeF s t i).1 = regF t.2.1 i.2.2.2.1 then some (s.1.set (placeF s t i).1.toNat (regF t.2.1 i.2.2.2.2.1), IntKind.i64.wrap (t.1 + 1), t.2.1.set i.2.1.toNat 1, t.2.2) else some (s.1, IntKind.i64.wrap (t.1 + 1), t.2.1.set i.2.1.toNat 0, t.2.2) := by
  unfold stepF
  simp only [h, show ¬ ((10 : Int) = 13) by decide, show ¬ ((10 : Int) = 14) by decide, show ¬ ((10 : Int) = 15) by decide, show ¬ ((10 : Int) = 8) by decide, show ¬ ((10 : Int) = 9) by decide, if_false, if_true, or_true, true_or]
theorem step_own (b : Bool) (s : StD) (t : ThD) (i : InD) (h : ¬ memOp i) : stepF b s t i = (own t i).map fun x => (s.1, x) := by
  unfold memOp at h
  unfold stepF own
  simp only [if_neg h]
  by_cases h13 : i.1 = 13
  · simp only [if_pos h13]; rfl
  · simp only [if_neg h13]
    by_cases h14 : i.1 = 14
    · simp only [if_pos h14]; rfl
    · simp only [if_neg h14]
      by_cases h15 : i.1 = 15
      · simp only [if_pos h15]
        by_cases hl : t.2.2.2.1.length + 1 ≤ 20
        · simp only [if_pos hl]; rfl
        · simp only [if_neg hl]; rfl
      · simp only [if_neg h15]
        by_cases hw : i.1 = 1 ∨ i.1 = 2 ∨ i.1 = 3 ∨ i.1 = 4 ∨ i.1 = 5 ∨ i.1 = 6 ∨ i.1 = 7
        · simp only [if_pos hw]
          by_cases hq : (workedF t.2.1 i).2 = false
          · simp only [if_pos hq]; rfl
          · simp only [if_neg hq]; rfl
        · simp only [if_neg hw]; rfl
end Go.Proofs.Tryz
set_option autoImplicit false
set_option linter.all false
namespace Go.Proofs.Tryz
open Go Go.VM
theorem step_mem {s : StD} {t : ThD} {i : InD} (h : i.1 ≠ 9 ∧ i.1 ≠ 10) {x : List Int × ThD} (hx : stepF false s t i = some x) : x.1 = s.1 := by
  by_cases hm : memOp i
  · rcases hm with h8 | h9 | h10 | h12
    · rw [step_8 _ _ _ _ h8] at hx
      split at hx
      · cases hx
      · injection hx with hx; rw [← hx]
    · exact absurd h9 h.1
    · exact absurd h10 h.2
    · rw [step_12 _ _ _ _ h12] at hx
      split at hx
      · cases hx
      · injection hx with hx; rw [← hx]
  · rw [step_own _ _ _ _ hm] at hx
    cases ho : own t i with
    | none => rw [ho] at hx; cases hx
    | some y => rw [ho] at hx; injection hx with hx; rw [← hx]
end Go.Proofs.Tryz
set_option autoImplicit false
set_option linter.all false
namespace Go.Proofs.Tryz
open Go Go.VM
def putD (s : StD) (k : Nat) (t : ThD) : Option (List Int × ThD) → StD
  | some x => (x.1, s.2.set k x.2)
  | none => (s.1, s.2.set k (t.1, t.2.1, t.2.2.1, t.2.2.2.1, true))
theorem do_put (p : WkD) (b : Bool) (s : StD) (k : Nat) : doF (p, b) s ((k : Int), false) = putD s k (thAt s k) (stepF b s (thAt s k) (insIn (listAt (p, b) k) (thAt s k).1)) := by
  rw [do_false]
  show (match stepF b s (thAt s k) (insIn (listAt (p, b) k) (thAt s k).1) with | some x => (x.1, s.2.set k x.2) | none => (s.1, s.2.set k ((thAt s k).1, (thAt s k).2.1, (thAt s k).2.2.1, (thAt s k).2.2.2.1, true))) = _
  cases stepF b s (thAt s k) (insIn (listAt (p, b) k) (thAt s k).1) <;> rfl
end Go.Proofs.Tryz
set_option autoImplicit false
set_option linter.all false
namespace Go.Proofs.Tryz
open Go Go.VM
set_option maxRecDepth 100000
def S32 (H : LwF) : VM.Spec := ⟨[Wk], [.bool], fun x => H.pR x.1, fun x => (H.right x.1, ())⟩
def S33 (H : LwF) : VM.Spec := ⟨[Wk], [.sl En, .bool], fun x => H.pL x.1, fun x => ((H.list x.1).1, (H.list x.1).2, ())⟩
def n32 (L : Lv) (F : BxF) (G : AwF) (H : LwF) (p : WkD)  : VC :=
 let z1 := (Prod.fst p, Prod.fst (Prod.snd p), Prod.snd (Prod.snd p));
 let z2 := (LwF.right H p, ()); VC.obl (BxF.bwT F z1) (VC.br (BxF.thin F z1) (VC.obl (BxF.bw F z1) (VC.br (Lv.cmp L BinOp.eql (BxF.check F z1) 0) (VC.ok ((true, ()) = z2)) (VC.ok
   ((false, ()) = z2)))) (VC.ok ((false, ()) = z2)))
theorem n32_eq (L : Lv) (F : BxF) (G : AwF) (H : LwF) (p : WkD) : vcO L F [] [17, 22] 3 (D32 a0) (S32 H) (p, ()) = n32 L F G H p := by kernel_rfl
theorem n32_go (L : Lv) (F : BxF) (G : AwF) (H : LwF) (p : WkD) (h : VC.holds (n32 L F G H p)) : Holds (vcO L F [] [17, 22] 3 (D32 a0) (S32 H) (p, ())) := Holds.of_eq (n32_eq L F G H p) h
def rightF (p : WkD) : Bool := thinF p && decide (checkF p = 0)
theorem thin_bW {p : WkD} (h : thinF p = true) : bW p := by
  unfold thinF at h
  simp only [Bool.and_eq_true, Bool.not_eq_true', Bool.or_eq_false_iff, decide_eq_false_iff_not] at h
  obtain ⟨⟨⟨h1, _⟩, h2⟩, h3⟩ := h
  refine ⟨by omega, by omega, fun l hl => ?_⟩
  have := List.all_eq_true.1 h3 l hl
  unfold thinL at this
  simp only [Bool.not_eq_true', Bool.or_eq_false_iff, decide_eq_false_iff_not] at this
  omega
theorem ok32 (F : BxF) (G : AwF) (H : LwF) (h : H.right = rightF) (hp : H.pR = bwTF) (h1 : F.thin = thinF) (h2 : F.check = checkF) (q1 : F.bwT = bwTF) (q2 : F.bw = bW) (k1 : SpecOk prog 17 (S17 F)) (k2 : SpecOk prog 22 (S22 F)) : SpecOk prog 32 (S32 H) := by
  refine contract_by hm hE D32 fnok32 _ fun (z : WkD × Unit) hpre => ?_
  obtain ⟨p, ⟨⟩⟩ := z
  have hpre' : H.pR p := hpre
  rw [hp] at hpre'
  refine pack _ 3 a0 (only_tab (T := tabO [] (cT F)) (l := [17, 22]) (tb_cons (tb_sp k1 (by kernel_rfl)) (tb_cons (tb_sp k2 (by kernel_rfl)) tb_nil))) ?_
  refine n32_go Lv.std F G H p ?_
  simp only [n32, VC.holds, std_cmp, std_scmp, std_ar_add, std_ar_sub, std_ar_mul, std_ar, std_dv, std_shf, std_conv, std_mn, std_mx, std_beq, std_bnot, std_band, std_scat, std_byte, std_ext, std_slen, std_strOf, std_bytes, std_llen, std_get, std_setl, std_app, std_take, std_drop, std_rep, std_mhas, std_mval, std_mput, std_cast, std_toN, std_sub, std_add, std_inR, std_le3, std_leN, std_ltN, std_ne0, std_nonneg, std_catOk, std_room, std_mkOk, std_nth, std_cnt, cmp_lss_t, cmp_lss_f, cmp_leq_t, cmp_leq_f, cmp_gtr_t, cmp_gtr_f, cmp_geq_t, cmp_geq_f, cmp_eql_t, cmp_eql_f, cmp_neq_t, cmp_neq_f, scmp_eql_t, scmp_eql_f, scmp_neq_t, scmp_neq_f, dflt_int, dflt_bool, dflt_str, dflt_sl, dflt_pair, h, h1, h2, q1, q2, pe5, Prod.mk.injEq, and_true, true_and]
  refine ⟨hpre', fun ht => ⟨thin_bW ht, fun c => ?_, fun c => ?_⟩, fun ht => ?_⟩
  · rw [rightF, ht, decide_eq_true c]; rfl
  · rw [rightF, decide_eq_false c, Bool.and_false]
  · rw [rightF, ht]; rfl
end Go.Proofs.Tryz
set_option autoImplicit false
set_option linter.all false
namespace Go.Proofs.Tryz
open Go Go.VM
set_option maxRecDepth 100000
theorem right_ok {p : WkD} (h : rightF p = true) : bW p ∧ OkP p := by
  unfold rightF at h
  rw [Bool.and_eq_true, decide_eq_true_eq] at h
  exact ⟨thin_bW h.1, (okP_iff p).1 h.2⟩
end Go.Proofs.Tryz
set_option autoImplicit false
set_option linter.all false
namespace Go.Proofs.Tryz
open Go Go.VM
set_option maxRecDepth 100000
def S58 (H : LwF) : VM.Spec := ⟨[Tu], [.sl It], fun x => H.pPicks x.1, fun x => (H.picks x.1, ())⟩
def tuRF (l : List Int) : Prop := l.length ≤ 9223372036854775807 ∧ ∀ z ∈ l, 0 ≤ z ∧ z < 256
def LWT : VM.Spec := ⟨[Wk, Tu], [.bool], fun x => bwTF x.1 ∧ tuRF x.2.1, fun _ => (true, ())⟩
def a58 (L : Lv) (I : Ds [.sl It, It] → Prop) (mu : Ds [.sl It, It] → Nat) : Nat → LAnn
  | 0 => anH L [1, 3, 4] [] [.r 3 It, .s 4 It] I mu
  | _ => .no
def n58 (L : Lv) (F : BxF) (G : AwF) (H : LwF) (I : Ds [.sl It, It] → Prop) (mu : Ds [.sl It, It] → Nat) (l : List Int)  : VC :=
 let z1 := Ty.int IntKind.u8;
 let z2 := Lv.llen L z1 l;
 let z3 := (LwF.picks H l, ()); VC.obl (St.mk 27 [(1, V.c (C.ptr 1 0)), (3, V.c (C.own 3 0)), (4, V.c (C.int IntKind.i64 0))] [(0, Ob.amb), (1, Ob.box 93 [C.sl z1 l]), (3, Ob.row 3
   It [])] 4 = St.mk 27 [(1, V.c (C.ptr 1 0)), (3, V.c (C.own 3 (Lv.llen L It []))), (4, V.c (C.int IntKind.i64 0))] [(0, Ob.amb), (1, Ob.box 93 [C.sl z1 l]), (3, Ob.row 3 It [])]
   4) (VC.obl (I ([], 0, ())) (VC.all (List Int × Int × Unit) fun (v1 : List Int × Int × Unit) =>
 let z4 := Prod.fst (Prod.snd v1);
 let z5 := Prod.fst v1;
 let z6 := Lv.llen L It z5;
 let z7 := Lv.take L It z5 z6;
 let z8 := Lv.take L It [Lv.conv L IntKind.i64 (Lv.get L z1 l (Lv.toN L z4))] 1;
 let z9 := Lv.add L (Lv.llen L It z7) (Lv.llen L It z8);
 let z10 := Lv.ar L BinOp.add IntKind.i64 z4 1;
 let z11 := Lv.app L It z7 z8;
 let z12 := (Lv.app L It z7 z8, Lv.ar L BinOp.add IntKind.i64 z4 1, ());
 let z13 := (Lv.take L It z5 z6, ()); VC.imp (I v1) (VC.br (Lv.cmp L BinOp.lss z4 (Lv.cast L z2)) (VC.br (Lv.cmp L BinOp.lss z4 80) (VC.obl (Lv.inR L z4 z2) (VC.obl (Lv.room L z9 8)
   (VC.ok (St.mk 27 [(1, V.c (C.ptr 1 0)), (3, V.c (C.own 3 z9)), (4, V.c (C.int IntKind.i64 z10))] [(0, Ob.amb), (1, Ob.box 93 [C.sl z1 l]), (3, Ob.row 3 It z11)] 4 = St.mk 27 [(1,
   V.c (C.ptr 1 0)), (3, V.c (C.own 3 (Lv.llen L It z11))), (4, V.c (C.int IntKind.i64 z10))] [(0, Ob.amb), (1, Ob.box 93 [C.sl z1 l]), (3, Ob.row 3 It z11)] 4 ∧ I z12 ∧ mu z12 < mu
   v1)))) (VC.ok (z13 = z3))) (VC.ok (z13 = z3)))))
theorem n58_eq (L : Lv) (F : BxF) (G : AwF) (H : LwF) (I : Ds [.sl It, It] → Prop) (mu : Ds [.sl It, It] → Nat) (l : List Int) : vcO L F [] [] 3 (D58 (a58 L I mu)) (S58 H) (l, ()) = n58 L F G H I mu l := by kernel_rfl
theorem n58_go (L : Lv) (F : BxF) (G : AwF) (H : LwF) (I : Ds [.sl It, It] → Prop) (mu : Ds [.sl It, It] → Nat) (l : List Int) (h : VC.holds (n58 L F G H I mu l)) : Holds (vcO L F [] [] 3 (D58 (a58 L I mu)) (S58 H) (l, ())) := Holds.of_eq (n58_eq L F G H I mu l) h
def picksF (l : List Int) : List Int := (l.take 80).map fun z => IntKind.i64.wrap z
theorem ok58 (F : BxF) (G : AwF) (H : LwF) (h : H.picks = picksF) (hp : H.pPicks = fun l => l.length ≤ 9223372036854775807) : SpecOk prog 58 (S58 H) := by
  refine contract_by hm hE D58 fnok58 _ fun (z : List Int × Unit) hpre => ?_
  obtain ⟨l, ⟨⟩⟩ := z
  have hpre' : H.pPicks l := hpre
  rw [hp] at hpre'
  let I : List Int × Int × Unit → Prop := fun x => (0 ≤ x.2.1 ∧ x.2.1 ≤ 80 ∧ x.2.1 ≤ l.length) ∧ x.1 = (l.take x.2.1.toNat).map fun z => IntKind.i64.wrap z
  let mu : List Int × Int × Unit → Nat := fun x => (80 - x.2.1).toNat
  refine pack _ 3 (a58 Lv.std I mu) (only_tab (T := tabO [] (cT F)) (l := []) tb_nil) ?_
  refine n58_go Lv.std F G H I mu l ?_
  have e1 : ∀ (l : List Int) (k : Int), Lv.std.get U8 l k.toNat = (l[k.toNat]?).getD 0 := fun _ _ => rfl
  simp only [n58, VC.holds, std_cmp, std_cast, std_llen, std_toN, e1, std_inR, std_ar_add, std_app, std_take, std_add, std_room, std_conv, cmp_lss_t, cmp_lss_f, h, pe5, Prod.mk.injEq, and_true, true_and]
  simp only [List.take_length, List.take_succ_cons, List.take_zero, List.length_append, List.length_cons, List.length_nil, Nat.zero_add]
  refine ⟨trivial, ⟨⟨Int.le_refl 0, by decide, by show (0 : Int) ≤ l.length; omega⟩, rfl⟩, ?_⟩
  rintro ⟨o, x, ⟨⟩⟩ ⟨⟨i1, i2, i3⟩, i4⟩
  simp only at i1 i2 i3 i4 ⊢
  obtain ⟨k, rfl⟩ := nat_of i1
  rw [Int.toNat_natCast] at i4 ⊢
  have hol : o.length = k := by rw [i4, List.length_map, List.length_take]; omega
  refine ⟨fun hlt => ⟨fun h80 => ⟨⟨i1, hlt⟩, ⟨by omega, by omega⟩, trivial, ?_⟩, fun h80 => ?_⟩, fun hge => ?_⟩
  · have hk : k < l.length := by omega
    rw [wrap_i64 (show -9223372036854775808 ≤ (k : Int) + 1 by omega) (by omega)]
    refine ⟨⟨⟨by show (0 : Int) ≤ (k : Int) + 1; omega, by show (k : Int) + 1 ≤ 80; omega, by show (k : Int) + 1 ≤ l.length; omega⟩, ?_⟩, by show (80 - ((k : Int) + 1)).toNat < (80 - (k : Int)).toNat; omega⟩
    show o ++ [IntKind.i64.wrap ((l[k]?).getD 0)] = (l.take ((k : Int) + 1).toNat).map fun z => IntKind.i64.wrap z
    rw [show ((k : Int) + 1).toNat = k + 1 by omega, List.take_succ, List.getElem?_eq_getElem hk, i4, List.map_append]; rfl
  · rw [i4, picksF, show k = 80 by omega]
  · have hl80 : l.length ≤ 80 := by omega
    rw [i4, picksF, show k = l.length by omega, List.take_length, List.take_of_length_le hl80]
theorem picks_nat {l : List Int} (h : tuRF l) : ∀ x ∈ picksF l, 0 ≤ x := fun x hx => by
  unfold picksF at hx
  obtain ⟨z, hz, rfl⟩ := List.mem_map.1 hx
  have := h.2 z (List.mem_of_mem_take hz)
  rw [wrap_i64 (by omega) (by omega)]; exact this.1
end Go.Proofs.Tryz
set_option autoImplicit false
set_option linter.all false
namespace Go.Proofs.Tryz
open Go Go.VM
set_option maxRecDepth 100000
structure CmF where
  pCame : WkD → StD → StD → MvD → List Int → List Int → Prop
def S59 (C : CmF) : VM.Spec := ⟨[Wk, Sta, Sta, Mv, .sl It, .sl It], [.bool], fun x => C.pCame x.1 x.2.1 x.2.2.1 x.2.2.2.1 x.2.2.2.2.1 x.2.2.2.2.2.1, fun _ => (true, ())⟩
noncomputable def oC (G : AwF) (H : LwF) (C : CmF) : List (Nat × FT) := [(18, .spec (S18 G)), (32, .spec (S32 H)), (33, .spec (S33 H)), (58, .spec (S58 H)), (59, .spec (S59 C))]
def a59 (L : Lv) (I : Ds [It] → Prop) (mu : Ds [It] → Nat) : Nat → LAnn
  | 0 => anH L [4, 5, 6, 7, 8, 9, 13] [] [.s 13 It] I mu
  | _ => .no
def a15 (L : Lv) (I : Ds [.sl It, .sl Th, It] → Prop) (mu : Ds [.sl It, .sl Th, It] → Nat) : Nat → LAnn
  | 0 => anH L [2, 5, 6, 7, 8] [] [.b 5 0 (.sl It), .b 5 1 (.sl Th), .s 8 It] I mu
  | _ => .no
def n59 (L : Lv) (F : BxF) (C : CmF) (I : Ds [It] → Prop) (mu : Ds [It] → Nat) (p : WkD) (s n : StD) (m : MvD) (o l : List Int)  : VC :=
 let z1 := VM.C.sl It o;
 let z2 := VM.C.sl It l;
 let z3 := VM.C.ptr 1 0;
 let z4 := VM.C.ptr 2 0;
 let z5 := VM.C.ptr 3 0;
 let z6 := VM.C.ptr 4 0;
 let z7 := VM.C.int IntKind.i64 0;
 let z8 := Prod.fst p;
 let z9 := Prod.fst (Prod.snd p);
 let z10 := Prod.snd (Prod.snd p);
 let z11 := Prod.fst s;
 let z12 := Prod.snd s;
 let z13 := Prod.fst n;
 let z14 := Prod.snd n;
 let z15 := Prod.fst m;
 let z16 := Prod.snd m;
 let z17 := Lv.llen L Th z12;
 let z18 := Lv.llen L Th z14;
 let z19 := (BxF.bl F o ∧ BxF.bl F l);
 let z20 := BxF.sameL F o l;
 let z21 := Lv.toN L z15;
 let z22 := Lv.get L Th z12 z21;
 let z23 := Prod.snd z22;
 let z24 := Prod.fst (Prod.snd z23);
 let z25 := Lv.llen L Kp z24;
 let z26 := Lv.cast L z25;
 let z27 := Lv.get L Th z14 z21;
 let z28 := Prod.snd (Prod.snd z27);
 let z29 := Prod.fst z28;
 let z30 := Lv.llen L Kp z29;
 let z31 := Lv.cast L z30;
 let z32 := Lv.toN L z26;
 let z33 := Lv.drop L Kp (Lv.take L Kp z24 z32) (Lv.toN L 1);
 let z34 := Prod.fst z22;
 let z35 := Lv.get L (Ty.sl In) z9 z21;
 let z36 := Lv.get L In z35 (Lv.toN L z34);
 let z37 := Prod.fst z36;
 let z38 := BxF.bk F z24;
 let z39 := BxF.sameK F z24 z29;
 let z40 := Lv.cmp L BinOp.eql z37 10;
 let z41 := (BxF.bl F z11 ∧ BxF.bl F z13);
 let z42 := BxF.sameL F z11 z13;
 let z43 := Prod.snd z36;
 let z44 := Prod.snd z43;
 let z45 := Prod.fst z44;
 let z46 := Prod.fst z23;
 let z47 := Lv.llen L It z46;
 let z48 := Lv.ar L BinOp.add IntKind.i64 (Lv.get L It z46 (Lv.toN L z45)) (Prod.snd (Prod.snd (Prod.snd z44)));
 let z49 := Prod.fst z43; VC.obl (St.mk 181 [(4, V.c z1), (5, V.c z2), (6, V.c z3), (7, V.c z4), (8, V.c z5), (9, V.c z6), (13, V.c z7)] [(0, Ob.amb), (1, Ob.box 25 [VM.C.sl It z8,
   VM.C.sl (Ty.sl In) z9, VM.C.int IntKind.i64 z10]), (2, Ob.box 59 [VM.C.sl It z11, VM.C.sl Th z12]), (3, Ob.box 59 [VM.C.sl It z13, VM.C.sl Th z14]), (4, Ob.box 84 [VM.C.int
   IntKind.i64 z15, VM.C.sym z16])] 5 = St.mk 181 [(4, V.c z1), (5, V.c z2), (6, V.c z3), (7, V.c z4), (8, V.c z5), (9, V.c z6), (13, V.c z7)] [(0, Ob.amb), (1, Ob.box 25 [VM.C.sl
   It z8, VM.C.sl (Ty.sl In) z9, VM.C.int IntKind.i64 z10]), (2, Ob.box 59 [VM.C.sl It z11, VM.C.sl Th z12]), (3, Ob.box 59 [VM.C.sl It z13, VM.C.sl Th z14]), (4, Ob.box 84
   [VM.C.int IntKind.i64 z15, VM.C.sym z16])] 5) (VC.obl (I (0, ())) (VC.all (Int × Unit) fun (v1 : Int × Unit) =>
 let z50 := Prod.fst v1;
 let z51 := Lv.toN L z50;
 let z52 := Prod.fst (Prod.snd (Prod.snd (Lv.get L Th z12 z51)));
 let z53 := VM.C.int IntKind.i64 (Lv.ar L BinOp.add IntKind.i64 z50 1);
 let z54 := (Lv.ar L BinOp.add IntKind.i64 z50 1, ()); VC.imp (I v1) (VC.br (Lv.cmp L BinOp.lss z50 (Lv.cast L z17)) (VC.br (Lv.cmp L BinOp.neq z50 z15) (VC.obl (Lv.inR L z50 z17)
   (VC.obl (Lv.inR L z50 z18) (VC.obl (BxF.bk F z52) (VC.br (BxF.sameK F z52 (Prod.fst (Prod.snd (Prod.snd (Lv.get L Th z14 z51))))) (VC.ok (St.mk 181 [(4, V.c z1), (5, V.c z2), (6,
   V.c z3), (7, V.c z4), (8, V.c z5), (9, V.c z6), (13, V.c z53)] [(0, Ob.amb), (1, Ob.box 25 [VM.C.sl It z8, VM.C.sl (Ty.sl In) z9, VM.C.int IntKind.i64 z10]), (2, Ob.box 59
   [VM.C.sl It z11, VM.C.sl Th z12]), (3, Ob.box 59 [VM.C.sl It z13, VM.C.sl Th z14]), (4, Ob.box 84 [VM.C.int IntKind.i64 z15, VM.C.sym z16])] 5 = St.mk 181 [(4, V.c z1), (5, V.c
   z2), (6, V.c z3), (7, V.c z4), (8, V.c z5), (9, V.c z6), (13, V.c z53)] [(0, Ob.amb), (1, Ob.box 25 [VM.C.sl It z8, VM.C.sl (Ty.sl In) z9, VM.C.int IntKind.i64 z10]), (2, Ob.box
   59 [VM.C.sl It z11, VM.C.sl Th z12]), (3, Ob.box 59 [VM.C.sl It z13, VM.C.sl Th z14]), (4, Ob.box 84 [VM.C.int IntKind.i64 z15, VM.C.sym z16])] 5 ∧ I z54 ∧ mu z54 < mu v1))
   (VC.ok ((false, ()) = (true, ()))))))) (VC.ok (St.mk 181 [(4, V.c z1), (5, V.c z2), (6, V.c z3), (7, V.c z4), (8, V.c z5), (9, V.c z6), (13, V.c z53)] [(0, Ob.amb), (1, Ob.box 25
   [VM.C.sl It z8, VM.C.sl (Ty.sl In) z9, VM.C.int IntKind.i64 z10]), (2, Ob.box 59 [VM.C.sl It z11, VM.C.sl Th z12]), (3, Ob.box 59 [VM.C.sl It z13, VM.C.sl Th z14]), (4, Ob.box 84
   [VM.C.int IntKind.i64 z15, VM.C.sym z16])] 5 = St.mk 181 [(4, V.c z1), (5, V.c z2), (6, V.c z3), (7, V.c z4), (8, V.c z5), (9, V.c z6), (13, V.c z53)] [(0, Ob.amb), (1, Ob.box 25
   [VM.C.sl It z8, VM.C.sl (Ty.sl In) z9, VM.C.int IntKind.i64 z10]), (2, Ob.box 59 [VM.C.sl It z11, VM.C.sl Th z12]), (3, Ob.box 59 [VM.C.sl It z13, VM.C.sl Th z14]), (4, Ob.box 84
   [VM.C.int IntKind.i64 z15, VM.C.sym z16])] 5 ∧ I z54 ∧ mu z54 < mu v1))) (VC.obl (Lv.inR L z15 z17) (VC.obl (Lv.inR L z15 z18) (VC.br z16 (VC.obl z19 (VC.br z20 (VC.br (Lv.cmp L
   BinOp.eql z26 (Lv.ar L BinOp.add IntKind.i64 z31 1)) (VC.obl (Lv.le3 L 1 z26 z25) (VC.obl (BxF.bk F z33) (VC.br (BxF.sameK F z33 z29) (VC.br (Lv.cmp L BinOp.eql z34 (Prod.fst
   z27)) (VC.ok ((true, ()) = (true, ()))) (VC.ok ((false, ()) = (true, ())))) (VC.ok ((false, ()) = (true, ())))))) (VC.ok ((false, ()) = (true, ())))) (VC.ok ((false, ()) = (true,
   ()))))) (VC.obl (Lv.inR L z15 (Lv.llen L (Ty.sl In) z9)) (VC.obl (Lv.inR L z34 (Lv.llen L In z35)) (VC.br (Lv.cmp L BinOp.neq z37 9) (VC.obl z38 (VC.br z39 (VC.br z40 (VC.ok
   ((true, ()) = (true, ()))) (VC.obl z19 (VC.br z20 (VC.obl z41 (VC.br z42 (VC.ok ((true, ()) = (true, ()))) (VC.ok ((false, ()) = (true, ()))))) (VC.ok ((false, ()) = (true,
   ())))))) (VC.ok ((false, ()) = (true, ()))))) (VC.br (Prod.snd (Prod.snd z28)) (VC.obl z38 (VC.br z39 (VC.br z40 (VC.ok ((true, ()) = (true, ()))) (VC.obl z19 (VC.br z20 (VC.obl
   z41 (VC.br z42 (VC.ok ((true, ()) = (true, ()))) (VC.ok ((false, ()) = (true, ()))))) (VC.ok ((false, ()) = (true, ())))))) (VC.ok ((false, ()) = (true, ()))))) (VC.obl (Lv.inR L
   z45 z47) (VC.obl True (VC.br (BxF.within F z48 0 (Lv.ar L BinOp.sub IntKind.i64 (Lv.cast L (Lv.llen L It l)) 1)) (VC.obl (Lv.inR L z48 (Lv.llen L It l)) (VC.obl (Lv.inR L z49
   z47) (VC.br (Lv.cmp L BinOp.neq (Lv.get L It l (Lv.toN L z48)) (Lv.get L It z46 (Lv.toN L z49))) (VC.ok ((false, ()) = (true, ()))) (VC.obl z41 (VC.br z42 (VC.br (Lv.cmp L
   BinOp.eql z31 (Lv.ar L BinOp.add IntKind.i64 z26 1)) (VC.obl (Lv.le3 L (Lv.cast L 0) z26 z30) (VC.obl z38 (VC.br (BxF.sameK F z24 (Lv.drop L Kp (Lv.take L Kp z29 z32) (Lv.toN L
   (Lv.cast L 0)))) (VC.ok ((true, ()) = (true, ()))) (VC.ok ((false, ()) = (true, ())))))) (VC.ok ((false, ()) = (true, ())))) (VC.ok ((false, ()) = (true, ())))))))) (VC.ok
   ((false, ()) = (true, ()))))))))))))))))
theorem n59_eq (L : Lv) (F : BxF) (C : CmF) (I : Ds [It] → Prop) (mu : Ds [It] → Nat) (p : WkD) (s n : StD) (m : MvD) (o l : List Int) : vcO L F [] [27, 54, 104] 3 (D59 (a59 L I mu)) (S59 C) (p, s, n, m, o, l, ()) = n59 L F C I mu p s n m o l := by kernel_rfl
theorem n59_go (L : Lv) (F : BxF) (C : CmF) (I : Ds [It] → Prop) (mu : Ds [It] → Nat) (p : WkD) (s n : StD) (m : MvD) (o l : List Int) (h : VC.holds (n59 L F C I mu p s n m o l)) : Holds (vcO L F [] [27, 54, 104] 3 (D59 (a59 L I mu)) (S59 C) (p, s, n, m, o, l, ())) := Holds.of_eq (n59_eq L F C I mu p s n m o l) h
def n15 (L : Lv) (F : BxF) (G : AwF) (H : LwF) (C : CmF) (I : Ds [.sl It, .sl Th, It] → Prop) (mu : Ds [.sl It, .sl Th, It] → Nat) (p : WkD) (l : List Int)  : VC :=
 let z1 := Prod.snd p;
 let z2 := (Prod.fst p, Prod.fst z1, Prod.snd z1);
 let z3 := BxF.bw F z2;
 let z4 := VM.C.ptr 1 0;
 let z5 := VM.C.ptr 3 0;
 let z6 := BxF.begE F z2;
 let z7 := Prod.snd z6;
 let z8 := VM.C.int IntKind.i64 z7;
 let z9 := LwF.picks H l;
 let z10 := VM.C.sl It z9;
 let z11 := VM.C.int IntKind.i64 0;
 let z12 := Prod.fst p;
 let z13 := Prod.fst z1;
 let z14 := Prod.snd z1;
 let z15 := Ty.int IntKind.u8;
 let z16 := Prod.fst z6;
 let z17 := Prod.fst z16;
 let z18 := Prod.snd z16;
 let z19 := Int × List Int × List (Int × Int) × List Int × Bool;
 let z20 := Lv.llen L It z9;
 let z21 := Lv.cmp L BinOp.eql z7 0; VC.obl (LwF.pR H z2) (VC.br (LwF.right H z2) (VC.obl z3 (VC.obl z3 (VC.obl (LwF.pPicks H l) (VC.obl (St.mk 144 [(2, V.c z4), (5, V.c z5), (6,
   V.c z8), (7, V.c z10), (8, V.c z11)] [(0, Ob.amb), (1, Ob.box 25 [VM.C.sl It z12, VM.C.sl (Ty.sl In) z13, VM.C.int IntKind.i64 z14]), (2, Ob.box 93 [VM.C.sl z15 l]), (3, Ob.box
   59 [VM.C.sl It z17, VM.C.sl Th z18])] 4 = St.mk 144 [(2, V.c z4), (5, V.c z5), (6, V.c z8), (7, V.c z10), (8, V.c z11)] [(0, Ob.amb), (1, Ob.box 25 [VM.C.sl It z12, VM.C.sl
   (Ty.sl In) z13, VM.C.int IntKind.i64 z14]), (2, Ob.box 93 [VM.C.sl z15 l]), (3, Ob.box 59 [VM.C.sl It z17, VM.C.sl Th z18])] 4) (VC.obl (I (Prod.fst z16, Prod.snd z16, 0, ()))
   (VC.all (List Int × List z19 × Int × Unit) fun (v1 : List Int × List (Int × List Int × List (Int × Int) × List Int × Bool) × Int × Unit) =>
 let z22 := Prod.fst (Prod.snd (Prod.snd v1));
 let z23 := (Prod.fst v1, Prod.fst (Prod.snd v1));
 let z24 := BxF.bs F z23;
 let z25 := BxF.pSt F z2 z23;
 let z26 := BxF.mvE F z2 z23;
 let z27 := Prod.snd z26;
 let z28 := Lv.cmp L BinOp.eql z27 0;
 let z29 := Prod.fst z26;
 let z30 := Lv.llen L Mv z29;
 let z31 := Lv.cast L z30;
 let z32 := Lv.dv L BinOp.rem IntKind.i64 (Lv.get L It z9 (Lv.toN L z22)) z31;
 let z33 := Lv.get L Mv z29 (Lv.toN L z32);
 let z34 := Prod.fst z33;
 let z35 := BxF.seesE F z2 z23 z34;
 let z36 := (Prod.fst z33, Prod.snd z33);
 let z37 := BxF.doE F z2 z23 z36;
 let z38 := Prod.fst z37;
 let z39 := (Prod.fst z38, Prod.snd z38);
 let z40 := BxF.pSt F z2 z39;
 let z41 := BxF.seesE F z2 z39 z34;
 let z42 := Prod.fst z41;
 let z43 := Lv.cast L (Lv.llen L It z42);
 let z44 := Prod.fst z35;
 let z45 := VM.C.int IntKind.i64 (Lv.ar L BinOp.add IntKind.i64 z22 1);
 let z46 := Prod.fst z38;
 let z47 := Prod.snd z38;
 let z48 := (Prod.fst z38, Prod.snd z38, Lv.ar L BinOp.add IntKind.i64 z22 1, ()); VC.imp (I v1) (VC.br (Lv.cmp L BinOp.lss z22 (Lv.cast L z20)) (VC.br z21 (VC.obl z3 (VC.obl z24
   (VC.obl z25 (VC.br (Lv.cmp L BinOp.neq z27 0) (VC.br z28 (VC.obl True (VC.br (AwF.aw G) (VC.ok ((true, ()) = (true, ()))) (VC.ok ((false, ()) = (true, ()))))) (VC.ok ((false, ())
   = (true, ())))) (VC.br (Lv.cmp L BinOp.eql z31 0) (VC.br z28 (VC.obl True (VC.br (AwF.aw G) (VC.ok ((true, ()) = (true, ()))) (VC.ok ((false, ()) = (true, ()))))) (VC.ok ((false,
   ()) = (true, ())))) (VC.obl (Lv.inR L z22 z20) (VC.obl (Lv.ne0 L z31) (VC.obl (Lv.inR L z32 z30) (VC.obl z3 (VC.obl z24 (VC.obl z25 (VC.obl z3 (VC.obl z24 (VC.obl z25 (VC.br
   (Lv.cmp L BinOp.neq (Prod.snd z35) 0) (VC.ok ((false, ()) = (true, ()))) (VC.br (Lv.cmp L BinOp.neq (Prod.snd z37) 0) (VC.ok ((false, ()) = (true, ()))) (VC.obl z40 (VC.br
   (BxF.isSt F z2 z39) (VC.obl z3 (VC.obl (BxF.bs F z39) (VC.obl z40 (VC.br (Lv.cmp L BinOp.neq (Prod.snd z41) 0) (VC.ok ((false, ()) = (true, ()))) (VC.br (Lv.cmp L BinOp.neq z43
   (Lv.cast L (Lv.llen L It z12))) (VC.ok ((false, ()) = (true, ()))) (VC.br (Lv.cmp L BinOp.neq (Lv.cast L (Lv.llen L It z44)) z43) (VC.ok ((false, ()) = (true, ()))) (VC.obl
   (CmF.pCame C z2 z23 z39 z36 z44 z42) (VC.br true (VC.ok (St.mk 144 [(2, V.c z4), (5, V.c z5), (6, V.c z8), (7, V.c z10), (8, V.c z45)] [(0, Ob.amb), (1, Ob.box 25 [VM.C.sl It
   z12, VM.C.sl (Ty.sl In) z13, VM.C.int IntKind.i64 z14]), (2, Ob.box 93 [VM.C.sl z15 l]), (3, Ob.box 59 [VM.C.sl It z46, VM.C.sl Th z47])] 4 = St.mk 144 [(2, V.c z4), (5, V.c z5),
   (6, V.c z8), (7, V.c z10), (8, V.c z45)] [(0, Ob.amb), (1, Ob.box 25 [VM.C.sl It z12, VM.C.sl (Ty.sl In) z13, VM.C.int IntKind.i64 z14]), (2, Ob.box 93 [VM.C.sl z15 l]), (3,
   Ob.box 59 [VM.C.sl It z46, VM.C.sl Th z47])] 4 ∧ I z48 ∧ mu z48 < mu v1)) (VC.ok ((false, ()) = (true, ()))))))))))) (VC.ok ((false, ()) = (true, ()))))))))))))))))))))) (VC.br
   z21 (VC.obl True (VC.br (AwF.aw G) (VC.ok ((true, ()) = (true, ()))) (VC.ok ((false, ()) = (true, ()))))) (VC.ok ((false, ()) = (true, ()))))) (VC.br z21 (VC.obl True (VC.br
   (AwF.aw G) (VC.ok ((true, ()) = (true, ()))) (VC.ok ((false, ()) = (true, ()))))) (VC.ok ((false, ()) = (true, ()))))))))))) (VC.obl True (VC.br (AwF.aw G) (VC.ok ((true, ()) =
   (true, ()))) (VC.ok ((false, ()) = (true, ()))))))
theorem n15_eq (L : Lv) (F : BxF) (G : AwF) (H : LwF) (C : CmF) (I : Ds [.sl It, .sl Th, It] → Prop) (mu : Ds [.sl It, .sl Th, It] → Nat) (p : WkD) (l : List Int) : vcO L F (oC G H C) [18, 20, 32, 36, 41, 42, 43, 52, 53, 58, 59] 3 (D15 (a15 L I mu)) LWT (p, l, ()) = n15 L F G H C I mu p l := by kernel_rfl
theorem n15_go (L : Lv) (F : BxF) (G : AwF) (H : LwF) (C : CmF) (I : Ds [.sl It, .sl Th, It] → Prop) (mu : Ds [.sl It, .sl Th, It] → Nat) (p : WkD) (l : List Int) (h : VC.holds (n15 L F G H C I mu p l)) : Holds (vcO L F (oC G H C) [18, 20, 32, 36, 41, 42, 43, 52, 53, 58, 59] 3 (D15 (a15 L I mu)) LWT (p, l, ())) := Holds.of_eq (n15_eq L F G H C I mu p l) h
end Go.Proofs.Tryz
set_option autoImplicit false
set_option linter.all false
namespace Go.Proofs.Tryz
open Go Go.VM
set_option maxRecDepth 100000
def cameP (p : WkD) (s n : StD) (m : MvD) (o l : List Int) : Prop := OkP p ∧ OkS p s ∧ m ∈ movesF (p, false) s ∧ n = doF (p, false) s m ∧ o = seesL s m.1 s.1.length ∧ l = seesL n m.1 n.1.length
theorem do_one {p : WkD} {s : StD} {k : Nat} {f : Bool} : ∃ w t, doF (p, false) s ((k : Int), f) = (w, s.2.set k t) ∧ (w.length = s.1.length) ∧ (f = true → t = ((thAt s k).1, (thAt s k).2.1, (thAt s k).2.2.1.drop 1, (thAt s k).2.2.2) ∧ w = s.1.set (kpAt (thAt s k).2.2.1 0).1.toNat (kpAt (thAt s k).2.2.1 0).2) ∧
    (f = false → (stepF false s (thAt s k) (insIn (listAt (p, false) k) (thAt s k).1) = some (w, t)) ∨ (stepF false s (thAt s k) (insIn (listAt (p, false) k) (thAt s k).1) = none ∧ w = s.1 ∧ t = ((thAt s k).1, (thAt s k).2.1, (thAt s k).2.2.1, (thAt s k).2.2.2.1, true))) := by
  cases f with
  | true => rw [do_true]; exact ⟨_, _, rfl, List.length_set .., fun _ => ⟨rfl, rfl⟩, fun h => by cases h⟩
  | false =>
    rw [do_put]
    cases hst : stepF false s (thAt s k) (insIn (listAt (p, false) k) (thAt s k).1) with
    | none => exact ⟨_, _, rfl, rfl, (fun h => by cases h), fun _ => .inr ⟨rfl, rfl, rfl⟩⟩
    | some x =>
      refine ⟨x.1, x.2, rfl, ?_, (fun h => by cases h), fun _ => .inl rfl⟩
      by_cases hm : memOp (insIn (listAt (p, false) k) (thAt s k).1)
      · rcases hm with h8 | h9 | h10 | h12
        · rw [step_8 _ _ _ _ h8] at hst
          split at hst
          · cases hst
          · injection hst with hst; rw [← hst]
        · rw [step_9 _ _ _ _ h9] at hst
          split at hst
          · cases hst
          · simp only [Bool.false_eq_true, if_false] at hst
            injection hst with hst; rw [← hst]
        · rw [step_10 _ _ _ _ h10] at hst
          split at hst
          · cases hst
          · split at hst
            · injection hst with hst; rw [← hst]; exact List.length_set ..
            · injection hst with hst; rw [← hst]
        · rw [step_12 _ _ _ _ h12] at hst
          split at hst
          · cases hst
          · injection hst with hst; rw [← hst]
      · rw [step_own _ _ _ _ hm] at hst
        cases ho : own (thAt s k) (insIn (listAt (p, false) k) (thAt s k).1) with
        | none => rw [ho] at hst; cases hst
        | some y => rw [ho] at hst; injection hst with hst; rw [← hst]
theorem sees_same {w : List Int} {ts ts' : List ThD} {t t' : ThD} (h : t.2.2.1 = t'.2.2.1) (q : Int) : seesF (w, ts) t q = seesF (w, ts') t' q := by
  unfold seesF; rw [h]
theorem seesL_len (s : StD) (t : Int) (n : Nat) : (seesL s t n).length = n := by simp [seesL]
theorem seesL_ext {s n : StD} {k : Int} {m : Nat} (h : ∀ q : Nat, q < m → seesF s (thAt s k) q = seesF n (thAt n k) q) : seesL s k m = seesL n k m := by
  unfold seesL
  exact List.map_congr_left fun q hq => h q (List.mem_range.1 hq)
theorem seesL_at {s : StD} {k : Int} {m : Nat} {q : Int} (h : 0 ≤ q ∧ q < m) : regF (seesL s k m) q = seesF s (thAt s k) q := by
  unfold regF seesL
  rw [List.getElem?_map, List.getElem?_range (by omega)]
  show seesF s (thAt s k) ((q.toNat : Nat) : Int) = _
  rw [Int.toNat_of_nonneg h.1]
theorem sees_flush1 {w : List Int} {ts ts' : List ThD} {t t' : ThD} {x : KpD} {r : List KpD} (hk : t.2.2.1 = x :: r) (hk' : t'.2.2.1 = r) (hl : ∀ y ∈ t.2.2.1, 0 ≤ y.1) {q : Int} (hq : 0 ≤ q ∧ q < w.length) : seesF (w, ts) t q = seesF (w.set x.1.toNat x.2, ts') t' q := by
  have a1 := lk_flush hq (x :: r) (fun y hy => hl y (by rw [hk]; exact hy))
  have a2 := lk_flush (w := w.set x.1.toNat x.2) (by rw [List.length_set]; exact hq) r (fun y hy => hl y (by rw [hk]; exact List.mem_cons_of_mem _ hy))
  unfold seesF
  rw [hk, hk']
  exact a1.trans a2.symm
theorem sees_store {w : List Int} {ts : List ThD} {t : ThD} {l : List KpD} {x : KpD} (hk : t.2.2.1 = l ++ [x]) : seesF (w, ts) t x.1 = x.2 := by
  have e : kpAt (l ++ [x]) l.length = x := by unfold kpAt; rw [List.getElem?_append_right (Nat.le_refl _), Nat.sub_self]; rfl
  unfold seesF
  rw [hk, List.length_append, List.length_cons, List.length_nil, Nat.zero_add, lkF, e, if_pos rfl]
theorem ok59 (F : BxF) (C : CmF) (h : C.pCame = cameP) (h1 : F.sameL = fun a b => decide (a = b)) (h2 : F.within = withinF) (h3 : F.sameK = fun a b => decide (a = b)) (q1 : F.bl = bL) (q2 : F.bk = fun l => l.length ≤ 1000000)
    (k1 : SpecOk prog 27 (S27 F)) (k2 : SpecOk prog 54 (S86 F)) (k3 : SpecOk prog 104 (S104 F)) : SpecOk prog 59 (S59 C) := by
  refine contract_by hm hE D59 fnok59 _ fun (z : WkD × StD × StD × MvD × List Int × List Int × Unit) hpre => ?_
  obtain ⟨p, s, n, m, o, l, ⟨⟩⟩ := z
  have hpre' : C.pCame p s n m o l := hpre
  rw [h] at hpre'
  let I : Int × Unit → Prop := Iv s.2.length fun _ => True
  refine pack _ 3 (a59 Lv.std I (Mu s.2.length)) (only_tab (T := tabO [] (cT F)) (l := [27, 54, 104]) (tb_cons (tb_sp k1 (by kernel_rfl)) (tb_cons (tb_sp k2 (by kernel_rfl)) (tb_cons (tb_sp k3 (by kernel_rfl)) tb_nil)))) ?_
  refine n59_go Lv.std F C I (Mu s.2.length) p s n m o l ?_
  have e1 : ∀ k : Int, Lv.std.get Th s.2 k.toNat = thAt s k := fun _ => rfl
  have e2 : ∀ k : Int, Lv.std.get Th n.2 k.toNat = thAt n k := fun _ => rfl
  have e3 : ∀ k : Int, Lv.std.get (.sl In) p.2.1 k.toNat = listAt (p, false) k := fun _ => rfl
  have e4 : ∀ (l : List InD) (k : Int), Lv.std.get In l k.toNat = insIn l k := fun _ _ => rfl
  have e5 : ∀ (l : List Int) (k : Int), Lv.std.get It l k.toNat = regF l k := fun _ _ => rfl
  simp only [n59, VC.holds, std_cmp, std_cast, std_llen, std_toN, std_bnot, e1, e2, e3, e4, e5, std_inR, std_ar_add, std_ar_sub, std_take, std_drop, std_le3, cmp_lss_t, cmp_lss_f, cmp_neq_t, cmp_neq_f, cmp_eql_t, cmp_eql_f, Int.toNat_natCast, List.take_length, List.drop_zero, Int.natCast_zero, Int.toNat_zero, h1, h2, h3, q1, q2, pe5, Prod.mk.injEq, and_true, true_and]
  obtain ⟨op, os, hmv, rfl, rfl, rfl⟩ := hpre'
  obtain ⟨k, hk, hm1, hm2⟩ := mem_moves.1 hmv
  obtain ⟨m1, f⟩ := m
  have hm1 : m1 = (k : Int) := hm1
  subst hm1
  have hs4 : s.2.length ≤ 4 := by rw [os.tl]; exact op.t4
  have hw64 : s.1.length ≤ 64 := by rw [os.wl]; exact op.w64
  have hk' : k < p.2.1.length := by rw [← os.tl]; exact hk
  have hT := os.th k hk
  have hroom := op.room
  have hkl : (thAt s k).2.2.1.length ≤ 8 := by have := hT.kept; omega
  obtain ⟨w, t, eN, hwl, cT, cF⟩ := do_one (p := p) (s := s) (k := k) (f := f)
  have hlen : (doF (p, false) s ((k : Int), f)).2.length = s.2.length := by rw [eN]; exact List.length_set ..
  have thK : thAt (doF (p, false) s ((k : Int), f)) k = t := by rw [eN, thAt_set hk, if_pos rfl]
  have thO : ∀ j : Nat, j ≠ k → thAt (doF (p, false) s ((k : Int), f)) j = thAt s j := fun j hj => by rw [eN, thAt_set hk, if_neg (by omega)]; rfl
  have wN : (doF (p, false) s ((k : Int), f)).1 = w := by rw [eN]
  have bo : bL (seesL s k s.1.length) := by unfold bL; rw [seesL_len]; omega
  have bl : bL (seesL (doF (p, false) s ((k : Int), f)) k (doF (p, false) s ((k : Int), f)).1.length) := by unfold bL; rw [seesL_len, wN]; omega
  have hl0 : ∀ y ∈ (thAt s k).2.2.1, 0 ≤ y.1 := fun y hy => (hT.kps y hy).1.1
  have stp : ∀ j : Nat, (j : Int) < s.2.length → I (IntKind.i64.wrap ((j : Int) + 1), ()) ∧ Mu s.2.length (IntKind.i64.wrap ((j : Int) + 1), ()) < Mu s.2.length ((j : Int), ()) := fun j hj => by
    rw [wr hj (by omega)]; exact ⟨Iv.mk (by omega) trivial, Mu.lt (by omega)⟩
  refine ⟨Iv.zero trivial, fun x hx => ?_⟩
  obtain ⟨j, rfl, hj, _⟩ := Iv.elim hx
  refine ⟨fun hlt => ⟨fun hne => ⟨⟨by omega, hlt⟩, ⟨by omega, by rw [hlen]; exact hlt⟩, ?_, fun _ => stp j hlt, fun h => ?_⟩, fun _ => stp j hlt⟩, fun hge => ⟨⟨by omega, by omega⟩, ⟨by omega, by rw [hlen]; omega⟩, fun hf => ?_, fun hf => ?_⟩⟩
  · have hj' : j < s.2.length := by omega
    have := (os.th j hj').kept
    show (thAt s (j : Int)).2.2.1.length ≤ 1000000
    omega
  · refine absurd ?_ (of_decide_eq_false h)
    show (thAt s (j : Int)).2.2.1 = (thAt (doF (p, false) s ((k : Int), f)) (j : Int)).2.2.1
    have hne : (j : Int) ≠ (k : Int) := hne
    rw [thO j (by omega)]
  ·
    have hf : f = true := hf
    obtain ⟨c1, c2⟩ := cT hf
    have hpos : 0 < (thAt s k).2.2.1.length := by
      rcases hm2 with ⟨h, _⟩ | ⟨_, h⟩
      · rw [hf] at h; cases h
      · exact h
    show (bL (seesL s k s.1.length) ∧ bL _) ∧ _
    have thK' : thAt (doF (p, false) s ((k : Int), f)) ((k : Int), f).1 = t := thK
    simp only [thK']
    have hsame : seesL s k s.1.length = seesL (doF (p, false) s ((k : Int), f)) k (doF (p, false) s ((k : Int), f)).1.length := by
      rw [wN, hwl]
      refine seesL_ext fun q hq => ?_
      rw [thK, eN]
      cases hkp : (thAt s k).2.2.1 with
      | nil => rw [hkp] at hpos; exact absurd hpos (Nat.lt_irrefl _)
      | cons x r =>
        have := sees_flush1 (w := s.1) (ts := s.2) (ts' := s.2.set k t) (t := thAt s k) (t' := t) hkp (by rw [c1, hkp]; rfl) hl0 (q := (q : Int)) ⟨by omega, by omega⟩
        rw [c2, hkp]; exact this
    have hlen1 : ((thAt s k).2.2.1.length : Int) = IntKind.i64.wrap ((t.2.2.1.length : Int) + 1) := by
      have e : t.2.2.1.length = (thAt s k).2.2.1.length - 1 := by rw [c1]; exact List.length_drop ..
      rw [wrap_i64 (by omega) (by omega)]; omega
    refine ⟨⟨bo, bl⟩, fun _ => ⟨fun _ => ⟨⟨by decide, by omega, Int.le_refl _⟩, ?_, fun _ => ⟨fun _ => trivial, fun h => ?_⟩, fun h => ?_⟩, fun h => absurd hlen1 h⟩, fun h => absurd hsame (of_decide_eq_false h)⟩
    · have := List.length_drop (i := Int.toNat 1) (l := (thAt s k).2.2.1)
      show (List.drop (Int.toNat 1) (thAt s k).2.2.1).length ≤ 1000000
      omega
    · exact absurd (by rw [c1]) h
    · exact absurd (by rw [c1]; rfl) (of_decide_eq_false h)
  ·
    have hf : f = false := hf
    have hcan : canF (p, false) s k = true := by
      rcases hm2 with ⟨_, h⟩ | ⟨h, _⟩
      · exact h
      · rw [hf] at h; cases h
    obtain ⟨a1, a2, a3⟩ := can_t.1 hcan
    have cF := cF hf
    have thK' : thAt (doF (p, false) s ((k : Int), f)) ((k : Int), f).1 = t := thK
    have wN' : (doF (p, false) s ((k : Int), f)).1 = w := wN
    have oki := ok_ins (b := false) op hk' ⟨hT.at0, a2⟩
    simp only [thK']
    have same : ∀ (hkk : (thAt s k).2.2.1 = t.2.2.1) (hww : s.1 = w), seesL s k s.1.length = seesL (doF (p, false) s ((k : Int), f)) k (doF (p, false) s ((k : Int), f)).1.length := fun hkk hww => by
      rw [wN, hwl]
      refine seesL_ext fun q hq => ?_
      rw [thK, eN, ← hww]
      exact sees_same (w := s.1) (ts := s.2) hkk q
    have inner : (thAt s k).2.2.1 = t.2.2.1 → ((insIn (listAt (p, false) k) (thAt s k).1).1 ≠ 10 → s.1 = w) → (thAt s ((k : Int), f).1).2.2.1.length ≤ 1000000 ∧ (decide ((thAt s ((k : Int), f).1).2.2.1 = t.2.2.1) = true → ((insIn (listAt (p, false) ((k : Int), f).1) (thAt s ((k : Int), f).1).1).1 = 10 → True) ∧ ((insIn (listAt (p, false) ((k : Int), f).1) (thAt s ((k : Int), f).1).1).1 ≠ 10 → (bL (seesL s k s.1.length) ∧ bL (seesL (doF (p, false) s ((k : Int), f)) k (doF (p, false) s ((k : Int), f)).1.length)) ∧ (decide (seesL s k s.1.length = seesL (doF (p, false) s ((k : Int), f)) k (doF (p, false) s ((k : Int), f)).1.length) = true → (bL s.1 ∧ bL (doF (p, false) s ((k : Int), f)).1) ∧ (decide (s.1 = (doF (p, false) s ((k : Int), f)).1) = true → True) ∧ (decide (s.1 = (doF (p, false) s ((k : Int), f)).1) = false → false = true)) ∧ (decide (seesL s k s.1.length = seesL (doF (p, false) s ((k : Int), f)) k (doF (p, false) s ((k : Int), f)).1.length) = false → false = true))) ∧ (decide ((thAt s ((k : Int), f).1).2.2.1 = t.2.2.1) = false → false = true) := fun hkk hww => by
      refine ⟨by show (thAt s (k : Int)).2.2.1.length ≤ 1000000; omega, fun _ => ⟨fun _ => trivial, fun h10 => ⟨⟨bo, bl⟩, fun _ => ⟨⟨by unfold bL; omega, by unfold bL; rw [wN]; omega⟩, fun _ => trivial, fun h => absurd ?_ (of_decide_eq_false h)⟩, fun h => absurd (same hkk (hww h10)) (of_decide_eq_false h)⟩⟩, fun h => absurd hkk (of_decide_eq_false h)⟩
      rw [wN]; exact hww h10
    refine ⟨⟨by omega, by show (k : Int) < p.2.1.length; omega⟩, ⟨hT.at0, a2⟩, fun h9 => ?_, fun h9 => ⟨fun hfl => ?_, fun hfl => ?_⟩⟩
    · have h9 : (insIn (listAt (p, false) k) (thAt s k).1).1 ≠ 9 := h9
      rcases cF with c | ⟨_, c2, c3⟩
      · exact inner (step_kept (.inr h9) c).symm fun h10 => (step_mem ⟨h9, h10⟩ c).symm
      · exact inner (by rw [c3]) fun _ => c2.symm
    · have h9 : (insIn (listAt (p, false) k) (thAt s k).1).1 = 9 := h9
      rcases cF with c | ⟨_, c2, c3⟩
      · exfalso
        rw [step_9 _ _ _ _ h9] at c
        split at c
        · cases c
        · simp only [Bool.false_eq_true, if_false] at c
          injection c with c
          have c := congrArg Prod.snd c
          have c : _ = t := c
          rw [← c] at hfl
          have hfl : (thAt s k).2.2.2.2 = true := hfl
          rw [a1] at hfl; cases hfl
      · exact inner (by rw [c3]) fun _ => c2.symm
    · have h9 : (insIn (listAt (p, false) k) (thAt s k).1).1 = 9 := h9
      rcases cF with c | ⟨_, _, c3⟩
      · rw [step_9 _ _ _ _ h9] at c
        by_cases hq : (placeF s (thAt s k) (insIn (listAt (p, false) k) (thAt s k).1)).2 = false
        · rw [if_pos hq] at c; cases c
        · rw [if_neg hq] at c
          simp only [Bool.false_eq_true, if_false] at c
          injection c with c
          have cw : s.1 = w := congrArg Prod.fst c
          have ct := congrArg Prod.snd c
          have ct : _ = t := ct
          have hq' : (placeF s (thAt s k) (insIn (listAt (p, false) k) (thAt s k).1)).2 = true := by simpa using hq
          have hin := place_in5 s (thAt s k) _ (by omega) hq'
          have hkt : t.2.2.1 = (thAt s k).2.2.1 ++ [((placeF s (thAt s k) (insIn (listAt (p, false) k) (thAt s k).1)).1, regF (thAt s k).2.1 (insIn (listAt (p, false) k) (thAt s k).1).2.1)] := by rw [← ct]
          have hll : (seesL (doF (p, false) s ((k : Int), f)) k (doF (p, false) s ((k : Int), f)).1.length).length = s.1.length := by rw [seesL_len, wN, hwl]
          have hr10 := hT.r10
          show (0 ≤ (insIn (listAt (p, false) (k : Int)) (thAt s (k : Int)).1).2.2.1 ∧ _) ∧ _
          have epl : IntKind.i64.wrap (regF (thAt s (k : Int)).2.1 (insIn (listAt (p, false) (k : Int)) (thAt s (k : Int)).1).2.2.1 + (insIn (listAt (p, false) (k : Int)) (thAt s (k : Int)).1).2.2.2.2.2) = (placeF s (thAt s k) (insIn (listAt (p, false) k) (thAt s k).1)).1 := rfl
          have ewr : IntKind.i64.wrap (((seesL (doF (p, false) s ((k : Int), f)) k (doF (p, false) s ((k : Int), f)).1.length).length : Int) - 1) = IntKind.i64.wrap ((s.1.length : Int) - 1) := by rw [hll]
          have hwith : withinF (placeF s (thAt s k) (insIn (listAt (p, false) k) (thAt s k).1)).1 0 (IntKind.i64.wrap ((s.1.length : Int) - 1)) = true := hq'
          have hreg : regF (seesL (doF (p, false) s ((k : Int), f)) k (doF (p, false) s ((k : Int), f)).1.length) (placeF s (thAt s k) (insIn (listAt (p, false) k) (thAt s k).1)).1 = regF (thAt s k).2.1 (insIn (listAt (p, false) k) (thAt s k).1).2.1 := by
            rw [seesL_at (by rw [wN, hwl]; exact hin), thK, eN]
            exact sees_store (w := w) hkt
          have hlen2 : (t.2.2.1.length : Int) = IntKind.i64.wrap (((thAt s k).2.2.1.length : Int) + 1) := by
            rw [wrap_i64 (by omega) (by omega), hkt, List.length_append]; rfl
          have oB := oki.b
          have oA := oki.a
          simp only [epl, ewr, hll]
          refine ⟨⟨oB.1, by omega⟩, fun _ => ⟨hin, ⟨oA.1, by omega⟩, fun h => absurd hreg h, fun _ => ⟨⟨by unfold bL; omega, by unfold bL; rw [wN]; omega⟩, fun _ => ⟨fun _ => ⟨⟨Int.le_refl _, by omega, ?_⟩, by omega, fun _ => trivial, fun h => absurd ?_ (of_decide_eq_false h)⟩, fun h => absurd hlen2 h⟩, fun h => absurd (by rw [wN]; exact cw) (of_decide_eq_false h)⟩⟩, fun h => ?_⟩
          · rw [hkt, List.length_append]; omega
          · show (thAt s (k : Int)).2.2.1 = List.take (thAt s (k : Int)).2.2.1.length t.2.2.1
            rw [hkt, List.take_left]
          · rw [hwith] at h; cases h
      · rw [c3] at hfl; cases hfl
theorem ok15 (F : BxF) (G : AwF) (H : LwF) (C : CmF) (g : G.aw = true) (h : H.right = rightF) (hq : H.picks = picksF) (hp : H.pR = bwTF) (hq' : H.pPicks = fun l => l.length ≤ 9223372036854775807) (hc : C.pCame = cameP)
    (h1 : F.begE = begF) (h2 : F.isSt = isStF) (h3 : F.mvE = mvsF) (h4 : F.doE = doEF) (h5 : F.seesE = seesEF) (q1 : F.bw = bW) (q4 : F.pSt = fun p s => bW p ∧ bS s) (q5 : F.bs = bS)
    (k1 : SpecOk prog 18 (S18 G)) (k2 : SpecOk prog 20 (S20 F)) (k3 : SpecOk prog 32 (S32 H)) (k4 : SpecOk prog 36 (S36 F)) (k5 : SpecOk prog 41 (S41 F)) (k6 : SpecOk prog 42 (S42 F)) (k7 : SpecOk prog 43 (S43 F)) (k8 : SpecOk prog 52 (S52 F)) (k9 : SpecOk prog 53 (S53 F)) (k10 : SpecOk prog 58 (S58 H)) (k11 : SpecOk prog 59 (S59 C)) : SpecOk prog 15 LWT := by
  refine contract_by hm hE D15 fnok15 _ fun (z : WkD × List Int × Unit) hpre => ?_
  obtain ⟨p, l, ⟨⟩⟩ := z
  have hpre : bwTF p ∧ tuRF l := hpre
  let I : List Int × List ThD × Int × Unit → Prop := fun x => (0 ≤ x.2.2.1 ∧ x.2.2.1 ≤ (picksF l).length) ∧ ∃ d, Reach (p, false) d (x.1, x.2.1)
  let mu : List Int × List ThD × Int × Unit → Nat := fun x => ((picksF l).length - x.2.2.1).toNat
  refine pack _ 3 (a15 Lv.std I mu) (only_tab (T := tabO (oC G H C) (cT F)) (l := [18, 20, 32, 36, 41, 42, 43, 52, 53, 58, 59]) (tb_cons (tb_sp k1 (by kernel_rfl)) (tb_cons (tb_sp k2 (by kernel_rfl)) (tb_cons (tb_sp k3 (by kernel_rfl)) (tb_cons (tb_sp k4 (by kernel_rfl)) (tb_cons (tb_sp k5 (by kernel_rfl)) (tb_cons (tb_sp k6 (by kernel_rfl)) (tb_cons (tb_sp k7 (by kernel_rfl)) (tb_cons (tb_sp k8 (by kernel_rfl)) (tb_cons (tb_sp k9 (by kernel_rfl)) (tb_cons (tb_sp k10 (by kernel_rfl)) (tb_cons (tb_sp k11 (by kernel_rfl)) tb_nil)))))))))))) ?_
  refine n15_go Lv.std F G H C I mu p l ?_
  have e1 : ∀ (l : List Int) (k : Int), Lv.std.get It l k.toNat = (l[k.toNat]?).getD 0 := fun _ _ => rfl
  have e2 : ∀ (l : List MvD) (k : Int), Lv.std.get Mv l k.toNat = (l[k.toNat]?).getD (0, false) := fun _ _ => rfl
  have er : ∀ (b c : Int), Lv.std.dv .rem .i64 b c = remF b c := fun _ _ => rfl
  simp only [n15, VC.holds, std_cmp, std_cast, std_llen, std_toN, std_bnot, e1, e2, er, std_inR, std_ne0, std_ar_add, cmp_lss_t, cmp_lss_f, cmp_neq_t, cmp_neq_f, cmp_eql_t, cmp_eql_f, g, h, hq, hp, hq', hc, h1, h2, h3, h4, h5, q1, q4, q5, pe5, Prod.mk.injEq, and_true, true_and]
  refine ⟨hpre.1, fun hr => ?_, fun _ => tt⟩
  obtain ⟨hb, op⟩ := right_ok hr
  have hcc := (okP_iff p).2 op
  have hbeg : begF p = (firstF p, 0) := by rw [begF, if_neg (by simpa using hcc)]
  have hpk : ∀ x ∈ picksF l, 0 ≤ x := picks_nat hpre.2
  have hpl : (picksF l).length ≤ 80 := by unfold picksF; rw [List.length_map, List.length_take]; omega
  simp only [hbeg]
  refine ⟨hb, hb, hpre.2.1, ⟨⟨Int.le_refl 0, by show (0 : Int) ≤ (picksF l).length; omega⟩, 0, .zero⟩, ?_⟩
  rintro ⟨ws, ts, x, ⟨⟩⟩ ⟨⟨i1, i2⟩, d, hR⟩
  simp only at i1 i2 hR ⊢
  obtain ⟨k, rfl⟩ := nat_of i1
  generalize hs : (ws, ts) = s at *
  have os := ok_reach op hR
  have bs := ok_bS op os
  have t0 : ckStF p s = 0 := (ckSt_iff p s).2 ⟨op, os⟩
  have hmv : mvsF p s = (movesF (p, false) s, 0) := by rw [mvsF, if_neg (by simpa using t0)]
  simp only [hmv, Int.toNat_natCast]
  refine ⟨fun hlt => ⟨fun _ => ⟨hb, bs, ⟨hb, bs⟩, fun h => absurd rfl h, fun _ => ⟨fun _ => ⟨fun _ => tt, fun h => absurd rfl h⟩, fun hne => ?_⟩⟩, fun h => absurd rfl h⟩, fun _ => ⟨fun _ => tt, fun h => absurd rfl h⟩⟩
  have hk : k < (picksF l).length := by omega
  have hne' : movesF (p, false) s ≠ [] := fun e => hne (by rw [e]; rfl)
  have hmem := pick_mem (n := k) hne' hpk
  have hpick : ((movesF (p, false) s)[(remF (((picksF l)[k]?).getD 0) (movesF (p, false) s).length).toNat]?).getD (0, false) = pickF (p, false) s (picksF l) k := by unfold pickF; rw [if_pos hk]
  have hrem : 0 ≤ remF (((picksF l)[k]?).getD 0) (movesF (p, false) s).length ∧ remF (((picksF l)[k]?).getD 0) (movesF (p, false) s).length < (movesF (p, false) s).length := by
    have h0 : 0 ≤ ((picksF l)[k]?).getD 0 := by rw [List.getElem?_eq_getElem hk]; exact hpk _ (List.getElem_mem hk)
    have e : ∀ b c : Int, remF b c = b.tmod c := fun _ _ => rfl
    rw [e]
    exact ⟨Int.tmod_nonneg _ h0, Int.tmod_lt_of_pos _ (Int.natCast_pos.2 (List.length_pos_iff.2 hne'))⟩
  simp only [hpick]
  generalize pickF (p, false) s (picksF l) k = v at *
  have hdo : doEF p s v = (doF (p, false) s v, 0) := by rw [doEF, if_neg (by simpa using t0), if_pos hmem]
  have on := do_ok op os hmem
  have bn := ok_bS op on
  have t1 : ckStF p (doF (p, false) s v) = 0 := (ckSt_iff p _).2 ⟨op, on⟩
  obtain ⟨j, hj, hv1, _⟩ := mem_moves.1 hmem
  have h4 : s.2.length ≤ 4 := by rw [os.tl]; exact op.t4
  have hwi : ∀ z, OkS p z → ckStF p z = 0 → seesEF p z v.1 = (seesL z v.1 z.1.length, 0) := fun z oz tz => by
    have hz : z.2.length = s.2.length := by rw [oz.tl, os.tl]
    rw [seesEF, if_neg (by simpa using tz), if_pos (withinF_t.2 (by omega))]
  have i1' := (okS_iff p _).2 on
  have hlen : ∀ z, OkS p z → (seesL z v.1 z.1.length).length = p.1.length := fun z oz => by rw [seesL_len, oz.wl]
  simp only [hdo, hwi s os t0, hwi _ on t1]
  refine ⟨⟨i1, hlt⟩, hne, hrem, hb, bs, ⟨hb, bs⟩, hb, bs, ⟨hb, bs⟩, fun h => absurd rfl h, fun _ => ⟨fun h => absurd rfl h, fun _ => ⟨⟨hb, bn⟩, fun _ => ⟨hb, bn, ⟨hb, bn⟩, fun h => absurd rfl h, fun _ => ⟨fun h => absurd (by rw [hlen _ on]) h, fun _ => ⟨fun h => absurd (by rw [hlen _ on, hlen _ os]) h, fun _ => ⟨⟨op, os, hmem, rfl, rfl, rfl⟩, fun _ => ?_, fun h => by cases h⟩⟩⟩⟩, fun h => ?_⟩⟩⟩
  · rw [wr hlt (by omega)]
    refine ⟨⟨⟨by show (0 : Int) ≤ ((k + 1 : Nat) : Int); omega, by show ((k + 1 : Nat) : Int) ≤ ((picksF l).length : Int); omega⟩, d + 1, .step hR hmem⟩, by show (((picksF l).length : Int) - ((k + 1 : Nat) : Int)).toNat < (((picksF l).length : Int) - (k : Int)).toNat; omega⟩
  · rw [i1'] at h; cases h
end Go.Proofs.Tryz
set_option autoImplicit false
set_option linter.all false
namespace Go.Proofs.Tryz
open Go Go.VM
set_option maxRecDepth 100000
noncomputable def FF : BxF where
  within := withinF
  isNum := isNumF
  truth := truthF
  has := hasF
  fields := fieldsF
  shape := shapeF
  isIns := insOkF
  worked := workedF
  place := placeF
  value := default
  sees := seesF
  pRegs := fun l i => inReg l i.2.2.1 ∧ inReg l i.2.2.2.1
  pPlace := fun _ t i => inReg t.2.1 i.2.2.1
  pSees := fun s t p => inReg s.1 p ∧ t.2.2.1.length ≤ 1000000
  back := backF
  pBack := fun l => l.length ≤ 1000000
  see := default
  pSee := default
  waits := waitsF
  pW := fun _ s t i => pWF s t i
  can := canF
  pC := pCF
  each := eachF
  pE := pEF
  moves := movesF
  ended := endedF
  endOf := endOfF
  pEnd := fun m s => bS s ∧ s.2.length ≤ m.1.2.1.length
  first := firstF
  pFirst := fun p => p.1.length ≤ 1000000 ∧ p.2.1.length ≤ 1000000
  pHas := fun s => s.size ≤ 1000000
  pLi := fun l => l.length ≤ 1000000
  pLt := fun l => l.length ≤ 1000000
  pLk := fun l => l.length ≤ 1000000
  doo := doF
  pDo := pDoF
  step := default
  bl := bL
  bw := bW
  bs := bS
  be := sEn
  ble := fun l => l.length ≤ 1000000 ∧ ∀ e ∈ l, sEn e
  nums := numsF
  check := checkF
  isTh := fun p k t => thOk p k.toNat t
  pTh := fun p k t => p.1.length ≤ 1000000 ∧ (0 ≤ k ∧ k < p.2.1.length) ∧ bTh t
  isSt := isStF
  pSt := fun p s => bW p ∧ bS s
  ckSt := ckStF
  begE := begF
  mvE := mvsF
  ok := default
  okD := default
  okT := default
  doE := doEF
  endE := default
  endR := default
  seesE := seesEF
  runE := default
  runR := default
  pRunR := default
  fenE := fenF
  fenR := default
  okW := default
  sameL := fun a b => decide (a = b)
  sameE := fun a b => decide (a = b)
  sameEs := fun a b => decide (a = b)
  sameS := default
  sameW := default
  sameM := default
  sameK := fun a b => decide (a = b)
  bm := fun l => l.length ≤ 1000000
  bk := fun l => l.length ≤ 1000000
  isMv := fun l v => decide (v ∈ l)
  isIn := default
  cmpL := cmpLF
  cmpLL := cmpLLF
  cmpE := cmpEF
  cmpR := lexR
  cmpRE := cmpREF
  hows := fun e => e.2.2
  thin := thinF
  long := default
  thinS := default
  bwT := bwTF
  pCl := fun s (k : Int) => (0 ≤ k ∧ k < s.2.length) ∧ bS s
  or1 := orF3
  bll := fun l => l.length ≤ 1000000 ∧ ∀ x ∈ l, x.length ≤ 1000000
  put := putF
  pPut := fun b l => b.length ≤ 100000000 ∧ l.length ≤ 1000000
  comp := compL
  sort := fun l => List.mergeSort (α := EnD) l fun x y => !(Go.Proofs.ltOf cmpEF) y x
  rev := List.reverse
  key := keyF
  pKey := fun s => s.1.length ≤ 64 ∧ s.2.length ≤ 4 ∧ ∀ t ∈ s.2, t.2.1.length ≤ 100 ∧ t.2.2.1.length ≤ 100 ∧ t.2.2.2.1.length ≤ 100
  all := allF
  okM := fun m => OkP m.1
  ends := endsM
  bM := fun m => bW m.1
  way := wayG
  pWay := fun p _ => bW p
  over := default
  waR := default
  okW2 := default
  bsT := default
noncomputable def GG : AwF where
  ins := insF
  cr := ([0, 0], [[insF 1 1 [1], insF 9 0 [1], insF 8 1 [2], insF 15 0 [2]], [insF 1 1 [1], insF 9 1 [1], insF 8 0 [2], insF 15 0 [2]]], 1)
  ce := fun a b => ([1, 1], [[a], [b]], [1, 1])
  aw := true
noncomputable def HH : LwF where
  right := rightF
  pR := bwTF
  pL := default
  list := default
  picks := picksF
  pPicks := fun l => l.length ≤ 9223372036854775807
noncomputable def CC : CmF where
  pCame := cameP
theorem h86 : SpecOk prog 86 (S86 FF) := ok86 FF rfl
theorem h92 : SpecOk prog 92 (S92 FF) := ok92 FF rfl rfl h86
theorem h120 : SpecOk prog 120 (S120 FF) := ok120 FF rfl
theorem h84 : SpecOk prog 84 (S84 FF) := ok84 FF rfl rfl rfl rfl h86 h92 h120
theorem h87 : SpecOk prog 87 (S87 FF) := ok87 FF rfl rfl rfl h92
theorem h38 : SpecOk prog 38 (S22 FF) := ok38 FF rfl rfl rfl rfl rfl rfl h84 h86 h87
theorem h76 : XOk prog 76 (R76 FF).x := ok76 FF rfl
theorem h79 : SpecOk prog 79 (S79 FF) := ok79 FF rfl rfl rfl h76
theorem h146 : ItOk prog 146 (I146 FF) := ok146 FF rfl rfl
theorem h101 : SpecOk prog 101 (S101 FF) := ok101 FF rfl rfl rfl rfl h146
theorem h143 : SpecOk prog 143 (S143 FF) := ok143 FF rfl rfl rfl h86
theorem h157 : SpecOk prog 157 (S157 FF) := ok157 FF rfl rfl rfl rfl rfl rfl h101 h143
theorem h136 : SpecOk prog 136 (S136 FF) := ok136 FF rfl rfl rfl rfl h157
theorem h135 : ItOk prog 135 (I135 FF) := ok135 FF rfl rfl rfl rfl h136
theorem h90 : SpecOk prog 90 (S90 FF) := ok90 FF rfl rfl rfl h135
theorem h134 : SpecOk prog 134 (S134 FF) := ok134 FF rfl
theorem h141 : XOk prog 141 (R141 FF).x := ok141 FF rfl
theorem h142 : XOk prog 142 (R142 FF).x := ok142 FF rfl
theorem h144 : XOk prog 144 (mapcX acT) := ok144 FF
theorem h145 : SpecOk prog 145 (S145 FF) := ok145 FF rfl rfl rfl rfl h92 h134
theorem h99 : SpecOk prog 99 (S99 FF) := ok99 FF rfl rfl rfl rfl rfl rfl rfl rfl rfl rfl rfl rfl rfl rfl h76 h86 h92 h101 h134 h141 h142 h143 h144 h145
theorem h133 : XOk prog 133 (R133 FF).x := ok133 FF rfl rfl
theorem h109 : SpecOk prog 109 (S109 FF) := ok109 FF rfl rfl rfl rfl rfl h133 h134
theorem h66 : SpecOk prog 66 (S66 FF) := ok66 FF rfl rfl rfl rfl rfl rfl rfl rfl rfl rfl h79 h90 h99 h109
theorem h69 : SpecOk prog 69 (S69 FF) := ok69 FF rfl rfl rfl h135
theorem h71 : SpecOk prog 71 (S71 FF) := ok71 FF rfl rfl rfl h76
theorem h111 : SpecOk prog 111 (S111 FF) := ok111 FF rfl rfl
theorem h112 : SpecOk prog 112 (S112 FF) := ok112 FF rfl rfl
theorem h113 : XOk prog 113 (R113 FF).x := ok113 FF rfl rfl rfl rfl h112
theorem h114 : SpecOk prog 114 (S114 FF) := ok114 FF rfl rfl
theorem h70 : SpecOk prog 70 (S70 FF) := ok70 FF rfl rfl rfl rfl rfl rfl rfl h111 h112 h113 h114
theorem h106 : XOk prog 106 (R106 FF).u := ok106 FF rfl rfl rfl rfl h70
theorem h108 : SpecOk prog 108 (S108 FF) := ok108 FF rfl rfl h70
theorem h107 : XOk prog 107 (R107 FF).x := ok107 FF rfl rfl rfl rfl h108
theorem h62 : SpecOk prog 62 (S62 FF) := ok62 FF rfl rfl rfl rfl rfl (fun l => List.mergeSort_perm l _) rfl rfl rfl rfl rfl rfl h38 h66 h69 h71 h106 h107
theorem h19 : SpecOk prog 19 (S19 FF) := ok19 FF rfl rfl h62
theorem h21 : SpecOk prog 21 (S21 FF) := ok21 FF rfl rfl h62
theorem h72 : XOk prog 72 (R72 FF).u := ok72 FF rfl rfl
theorem h24 : SpecOk prog 24 (S24 FF) := ok24 FF rfl rfl rfl rfl rfl rfl rfl rfl rfl rfl rfl rfl rfl rfl h38 h66 h69 h71 h70 h72
theorem h75 : SpecOk prog 75 (S75 FF) := ok75 FF rfl rfl
theorem h27 : SpecOk prog 27 (S27 FF) := ok27 FF rfl rfl h75
theorem h29 : SpecOk prog 29 (S29 FF) := ok29 FF rfl rfl rfl rfl h38 h76
theorem h118 : SpecOk prog 118 (S118 FF) := ok118 FF rfl rfl
theorem h74 : SpecOk prog 74 (S74 FF) := ok74 FF rfl rfl rfl rfl rfl h75 h118
theorem h46 : SpecOk prog 46 (S46 FF) := ok46 FF rfl rfl h74
theorem h35 : SpecOk prog 35 (S35 FF) := ok35 FF rfl rfl rfl rfl h46
theorem h105 : SpecOk prog 105 (S105 GG) := ok105 FF GG rfl
theorem h60 : SpecOk prog 60 (S60 GG) := ok60 FF GG rfl rfl h105
theorem h61 : SpecOk prog 61 (S61 GG) := ok61 FF GG rfl
theorem h18 : SpecOk prog 18 (S18 GG) := ok18 FF GG rfl rfl rfl rfl rfl rfl rfl rfl rfl rfl rfl rfl h19 h21 h24 h27 h29 h35 h60 h61
theorem h20 : SpecOk prog 20 (S20 FF) := ok20 FF rfl
theorem h17 : SpecOk prog 17 (S17 FF) := ok17 FF rfl rfl
theorem h54 : SpecOk prog 54 (S86 FF) := ok54 FF rfl
theorem h63 : SpecOk prog 63 (S92 FF) := ok63 FF rfl rfl h54
theorem h77 : SpecOk prog 77 (S77 FF) := ok77 FF rfl rfl
theorem h78 : SpecOk prog 78 (S78 FF) := ok78 FF rfl
theorem h64 : SpecOk prog 64 (S84 FF) := ok64 FF rfl rfl rfl rfl rfl rfl h54 h63 h77 h78
theorem h22 : SpecOk prog 22 (S22 FF) := ok22 FF rfl rfl rfl rfl rfl h54 h63 h64
theorem h32 : SpecOk prog 32 (S32 HH) := ok32 FF GG HH rfl rfl rfl rfl rfl rfl h17 h22
theorem h36 : SpecOk prog 36 (S36 FF) := ok36 FF rfl rfl rfl rfl rfl h38 h79
theorem h88 : SpecOk prog 88 (S87 FF) := ok88 FF rfl rfl rfl h63
theorem h89 : SpecOk prog 89 (S89 FF) := ok89 FF rfl rfl rfl rfl rfl rfl h54 h63 h88
theorem h41 : SpecOk prog 41 (S41 FF) := ok41 FF rfl rfl rfl rfl rfl rfl h88 h89
theorem h45 : SpecOk prog 45 (S45 FF) := ok45 FF rfl rfl rfl rfl rfl rfl rfl rfl h38 h86 h87 h92
theorem h42 : SpecOk prog 42 (S42 FF) := ok42 FF rfl rfl rfl rfl rfl h45 h90
theorem h43 : SpecOk prog 43 (S43 FF) := ok43 FF rfl
theorem h126 : SpecOk prog 126 (S126 FF) := ok126 FF rfl rfl rfl rfl h76 h141 h142
theorem h98 : SpecOk prog 98 (S43 FF) := ok98 FF rfl rfl h126
theorem h100 : SpecOk prog 100 (S56 FF) := ok100 FF rfl rfl
theorem h52 : SpecOk prog 52 (S52 FF) := ok52 FF rfl rfl rfl rfl rfl rfl rfl rfl rfl rfl h45 h90 h98 h99 h100
theorem h53 : SpecOk prog 53 (S53 FF) := ok53 FF rfl rfl rfl rfl rfl rfl h45 h86 h101
theorem h58 : SpecOk prog 58 (S58 HH) := ok58 FF GG HH rfl rfl
theorem h104 : SpecOk prog 104 (S104 FF) := ok104 FF rfl rfl
theorem h59 : SpecOk prog 59 (S59 CC) := ok59 FF CC rfl rfl rfl rfl rfl rfl h27 h54 h104
theorem h15 : SpecOk prog 15 LWT := ok15 FF GG HH CC rfl rfl rfl rfl rfl rfl rfl rfl rfl rfl rfl rfl rfl rfl h18 h20 h32 h36 h41 h42 h43 h52 h53 h58 h59
end Go.Proofs.Tryz
