/- What functions of the weak memory compute, proved through the condition generator, and plain facts of it. Conditions: none of ours. -/
import Derived.Test.YthfjgaifdadgnaaGreatK7
set_option autoImplicit false
set_option linter.all false
namespace Go.Proofs.Tryz
open Go Go.VM
set_option maxRecDepth 100000
theorem at105 : prog.funcs[105]? = some f105 := by kernel_rfl
def pl105 : Nat → Plan
  | _ => []
noncomputable def D105 (ann : Nat → LAnn) : FnD := ⟨f105.body.getD .skip, f105.ntmps, f105.results.toList, pl105, ann⟩
theorem fnok105 (ann : Nat → LAnn) : FnOk prog 105 (D105 ann) := ⟨f105, at105, by kernel_rfl, by kernel_rfl, rfl, rfl, by kernel_rfl⟩
theorem at107 : prog.funcs[107]? = some f107 := by kernel_rfl
def pl107 : Nat → Plan
  | 6 => [(0, []), (1, [0]), (2, [0, 1]), (3, [0]), (4, [0]), (5, [0, 1, 2, 3, 4]), (6, [0, 1, 2, 3, 4, 5]), (7, [0, 1, 2, 3, 4, 5]), (8, [0, 1, 2, 3, 4]), (9, [0, 1, 2, 3, 4]), (10, [])]
  | 11 => [(0, []), (1, [0]), (2, [0, 1]), (3, [0]), (4, [0]), (5, [0, 1, 2, 3, 4]), (6, [0, 1, 2, 3, 4, 5]), (7, [0, 1, 2, 3, 4, 5]), (8, [0, 1, 2, 3, 4]), (9, [0, 1, 2, 3, 4]), (10, []), (11, [])]
  | _ => []
noncomputable def D107 (ann : Nat → LAnn) : FnD := ⟨f107.body.getD .skip, f107.ntmps, f107.results.toList, pl107, ann⟩
theorem fnok107 (ann : Nat → LAnn) : FnOk prog 107 (D107 ann) := ⟨f107, at107, by kernel_rfl, by kernel_rfl, rfl, rfl, by kernel_rfl⟩
theorem at108 : prog.funcs[108]? = some f108 := by kernel_rfl
def pl108 : Nat → Plan
  | _ => []
noncomputable def D108 (ann : Nat → LAnn) : FnD := ⟨f108.body.getD .skip, f108.ntmps, f108.results.toList, pl108, ann⟩
theorem fnok108 (ann : Nat → LAnn) : FnOk prog 108 (D108 ann) := ⟨f108, at108, by kernel_rfl, by kernel_rfl, rfl, rfl, by kernel_rfl⟩
theorem at109 : prog.funcs[109]? = some f109 := by kernel_rfl
def pl109 : Nat → Plan
  | 5 => [(0, []), (1, [0]), (2, [0]), (3, [0, 1, 2]), (4, [0, 1, 2]), (5, [0, 1, 2]), (6, [0, 1, 2, 3, 4, 5]), (7, [0, 1, 2, 3, 4, 5]), (8, [0, 1, 2, 3, 4, 5]), (9, [0, 1, 2, 3, 4, 5, 6, 7, 8]), (10, [0, 1, 2, 3, 4, 5, 6, 7, 8]), (11, [0, 1, 2, 3, 4, 5, 6, 7, 8]), (12, [0]), (13, []), (14, [])]
  | _ => []
noncomputable def D109 (ann : Nat → LAnn) : FnD := ⟨f109.body.getD .skip, f109.ntmps, f109.results.toList, pl109, ann⟩
theorem fnok109 (ann : Nat → LAnn) : FnOk prog 109 (D109 ann) := ⟨f109, at109, by kernel_rfl, by kernel_rfl, rfl, rfl, by kernel_rfl⟩
theorem at110 : prog.funcs[110]? = some f110 := by kernel_rfl
def pl110 : Nat → Plan
  | _ => []
noncomputable def D110 (ann : Nat → LAnn) : FnD := ⟨f110.body.getD .skip, f110.ntmps, f110.results.toList, pl110, ann⟩
theorem fnok110 (ann : Nat → LAnn) : FnOk prog 110 (D110 ann) := ⟨f110, at110, by kernel_rfl, by kernel_rfl, rfl, rfl, by kernel_rfl⟩
theorem at111 : prog.funcs[111]? = some f111 := by kernel_rfl
def pl111 : Nat → Plan
  | _ => []
noncomputable def D111 (ann : Nat → LAnn) : FnD := ⟨f111.body.getD .skip, f111.ntmps, f111.results.toList, pl111, ann⟩
theorem fnok111 (ann : Nat → LAnn) : FnOk prog 111 (D111 ann) := ⟨f111, at111, by kernel_rfl, by kernel_rfl, rfl, rfl, by kernel_rfl⟩
theorem at112 : prog.funcs[112]? = some f112 := by kernel_rfl
def pl112 : Nat → Plan
  | _ => []
noncomputable def D112 (ann : Nat → LAnn) : FnD := ⟨f112.body.getD .skip, f112.ntmps, f112.results.toList, pl112, ann⟩
theorem fnok112 (ann : Nat → LAnn) : FnOk prog 112 (D112 ann) := ⟨f112, at112, by kernel_rfl, by kernel_rfl, rfl, rfl, by kernel_rfl⟩
theorem at113 : prog.funcs[113]? = some f113 := by kernel_rfl
def pl113 : Nat → Plan
  | _ => []
noncomputable def D113 (ann : Nat → LAnn) : FnD := ⟨f113.body.getD .skip, f113.ntmps, f113.results.toList, pl113, ann⟩
theorem fnok113 (ann : Nat → LAnn) : FnOk prog 113 (D113 ann) := ⟨f113, at113, by kernel_rfl, by kernel_rfl, rfl, rfl, by kernel_rfl⟩
theorem at114 : prog.funcs[114]? = some f114 := by kernel_rfl
def pl114 : Nat → Plan
  | _ => []
noncomputable def D114 (ann : Nat → LAnn) : FnD := ⟨f114.body.getD .skip, f114.ntmps, f114.results.toList, pl114, ann⟩
theorem fnok114 (ann : Nat → LAnn) : FnOk prog 114 (D114 ann) := ⟨f114, at114, by kernel_rfl, by kernel_rfl, rfl, rfl, by kernel_rfl⟩
theorem at118 : prog.funcs[118]? = some f118 := by kernel_rfl
def pl118 : Nat → Plan
  | _ => []
noncomputable def D118 (ann : Nat → LAnn) : FnD := ⟨f118.body.getD .skip, f118.ntmps, f118.results.toList, pl118, ann⟩
theorem fnok118 (ann : Nat → LAnn) : FnOk prog 118 (D118 ann) := ⟨f118, at118, by kernel_rfl, by kernel_rfl, rfl, rfl, by kernel_rfl⟩
theorem at119 : prog.funcs[119]? = some f119 := by kernel_rfl
def pl119 : Nat → Plan
  | _ => []
noncomputable def D119 (ann : Nat → LAnn) : FnD := ⟨f119.body.getD .skip, f119.ntmps, f119.results.toList, pl119, ann⟩
theorem fnok119 (ann : Nat → LAnn) : FnOk prog 119 (D119 ann) := ⟨f119, at119, by kernel_rfl, by kernel_rfl, rfl, rfl, by kernel_rfl⟩
theorem at120 : prog.funcs[120]? = some f120 := by kernel_rfl
def pl120 : Nat → Plan
  | _ => []
noncomputable def D120 (ann : Nat → LAnn) : FnD := ⟨f120.body.getD .skip, f120.ntmps, f120.results.toList, pl120, ann⟩
theorem fnok120 (ann : Nat → LAnn) : FnOk prog 120 (D120 ann) := ⟨f120, at120, by kernel_rfl, by kernel_rfl, rfl, rfl, by kernel_rfl⟩
theorem at121 : prog.funcs[121]? = some f121 := by kernel_rfl
def pl121 : Nat → Plan
  | _ => []
noncomputable def D121 (ann : Nat → LAnn) : FnD := ⟨f121.body.getD .skip, f121.ntmps, f121.results.toList, pl121, ann⟩
theorem fnok121 (ann : Nat → LAnn) : FnOk prog 121 (D121 ann) := ⟨f121, at121, by kernel_rfl, by kernel_rfl, rfl, rfl, by kernel_rfl⟩
theorem at122 : prog.funcs[122]? = some f122 := by kernel_rfl
def pl122 : Nat → Plan
  | _ => []
noncomputable def D122 (ann : Nat → LAnn) : FnD := ⟨f122.body.getD .skip, f122.ntmps, f122.results.toList, pl122, ann⟩
theorem fnok122 (ann : Nat → LAnn) : FnOk prog 122 (D122 ann) := ⟨f122, at122, by kernel_rfl, by kernel_rfl, rfl, rfl, by kernel_rfl⟩
theorem at123 : prog.funcs[123]? = some f123 := by kernel_rfl
def pl123 : Nat → Plan
  | _ => []
noncomputable def D123 (ann : Nat → LAnn) : FnD := ⟨f123.body.getD .skip, f123.ntmps, f123.results.toList, pl123, ann⟩
theorem fnok123 (ann : Nat → LAnn) : FnOk prog 123 (D123 ann) := ⟨f123, at123, by kernel_rfl, by kernel_rfl, rfl, rfl, by kernel_rfl⟩
theorem at125 : prog.funcs[125]? = some f125 := by kernel_rfl
def pl125 : Nat → Plan
  | _ => []
noncomputable def D125 (ann : Nat → LAnn) : FnD := ⟨f125.body.getD .skip, f125.ntmps, f125.results.toList, pl125, ann⟩
theorem fnok125 (ann : Nat → LAnn) : FnOk prog 125 (D125 ann) := ⟨f125, at125, by kernel_rfl, by kernel_rfl, rfl, rfl, by kernel_rfl⟩
theorem at126 : prog.funcs[126]? = some f126 := by kernel_rfl
def pl126 : Nat → Plan
  | 1 => [(7, []), (0, [7]), (1, [7]), (2, [7]), (3, [7, 0, 1, 2]), (4, [7, 0, 1, 2]), (5, [7]), (6, [7]), (8, [])]
  | 3 => [(0, []), (1, [0]), (2, [0, 1]), (3, [0, 1, 2]), (4, [0, 1, 2]), (5, [0, 1, 2]), (6, [0, 1, 2]), (7, [0, 1, 2]), (8, [0, 1, 2, 3, 4, 5, 6, 7]), (9, [0, 1, 2, 3, 4, 5, 6, 7]), (10, [0, 1, 2, 3, 4, 5, 6, 7]), (11, [0, 1, 2, 3, 4, 5, 6, 7]), (12, [0, 1, 2]), (13, [0, 1, 2, 3, 4, 5, 6, 7, 8, 9, 10, 11, 12]), (14, [0, 1, 2, 3, 4, 5, 6, 7, 8, 9, 10, 11, 12]), (15, [0, 1, 2, 3, 4, 5, 6, 7, 8, 9, 10, 11, 12]), (16, [0, 1, 2, 3, 4, 5, 6, 7, 8, 9, 10, 11, 12]), (17, [0, 1, 2]), (18, [1, 2]), (19, [1, 2]), (20, [1, 2]), (21, [2]), (22, [2]), (23, [2]), (24, []), (25, []), (26, [])]
  | _ => []
noncomputable def D126 (ann : Nat → LAnn) : FnD := ⟨f126.body.getD .skip, f126.ntmps, f126.results.toList, pl126, ann⟩
theorem fnok126 (ann : Nat → LAnn) : FnOk prog 126 (D126 ann) := ⟨f126, at126, by kernel_rfl, by kernel_rfl, rfl, rfl, by kernel_rfl⟩
theorem at127 : prog.funcs[127]? = some f127 := by kernel_rfl
def pl127 : Nat → Plan
  | 6 => [(0, []), (1, []), (2, []), (3, []), (4, [0, 1, 2, 3]), (5, [0, 1, 2, 3]), (6, []), (7, []), (8, [])]
  | 9 => [(0, []), (1, [0]), (2, [0]), (3, [0]), (4, [0]), (5, [0, 1, 2, 3, 4]), (6, [0, 1, 2, 3, 4]), (7, [0, 1, 2, 3, 4]), (8, [0, 1, 2, 3, 4]), (9, [0, 1, 2, 3, 4, 5, 6, 7, 8]), (10, [0, 1, 2, 3, 4, 5, 6, 7, 8]), (11, [0, 1, 2, 3, 4]), (12, [0, 1, 2, 3, 4]), (13, [0, 1, 2, 3, 4]), (14, [0]), (15, []), (16, []), (17, [])]
  | 10 => [(0, []), (1, [0]), (2, [0]), (3, [0]), (4, [0]), (5, [0]), (6, [0]), (7, [1, 2, 3, 4, 5, 6]), (8, [])]
  | 15 => [(0, []), (1, []), (2, []), (3, [0, 1, 2]), (4, [0, 1, 2]), (5, [0, 1, 2]), (6, [0, 1, 2, 3, 4, 5]), (7, []), (8, []), (9, []), (10, [9]), (11, [10]), (12, [])]
  | 17 => [(10, [10]), (0, []), (1, [0]), (2, [0]), (3, []), (4, [0, 1, 2, 3]), (5, [0, 1, 2, 3, 4]), (6, [0, 1, 2, 3, 4, 5]), (7, [0, 1, 2, 3, 4, 5, 6]), (8, [0, 1, 2, 3, 4, 5, 6, 7]), (9, [0, 1, 2, 3, 4, 5, 6])]
  | 26 => [(0, []), (1, []), (2, []), (3, []), (4, [0, 1, 2, 3]), (5, []), (6, []), (7, []), (8, [7]), (9, [8]), (10, [])]
  | 27 => [(0, []), (1, []), (2, []), (3, []), (4, [0, 1, 2, 3]), (5, [0, 1, 2, 3]), (6, [0, 1, 2, 3, 4, 5]), (7, []), (8, [])]
  | _ => []
noncomputable def D127 (ann : Nat → LAnn) : FnD := ⟨f127.body.getD .skip, f127.ntmps, f127.results.toList, pl127, ann⟩
theorem fnok127 (ann : Nat → LAnn) : FnOk prog 127 (D127 ann) := ⟨f127, at127, by kernel_rfl, by kernel_rfl, rfl, rfl, by kernel_rfl⟩
theorem at129 : prog.funcs[129]? = some f129 := by kernel_rfl
def pl129 : Nat → Plan
  | _ => []
noncomputable def D129 (ann : Nat → LAnn) : FnD := ⟨f129.body.getD .skip, f129.ntmps, f129.results.toList, pl129, ann⟩
theorem fnok129 (ann : Nat → LAnn) : FnOk prog 129 (D129 ann) := ⟨f129, at129, by kernel_rfl, by kernel_rfl, rfl, rfl, by kernel_rfl⟩
theorem at133 : prog.funcs[133]? = some f133 := by kernel_rfl
def pl133 : Nat → Plan
  | _ => []
noncomputable def D133 (ann : Nat → LAnn) : FnD := ⟨f133.body.getD .skip, f133.ntmps, f133.results.toList, pl133, ann⟩
theorem fnok133 (ann : Nat → LAnn) : FnOk prog 133 (D133 ann) := ⟨f133, at133, by kernel_rfl, by kernel_rfl, rfl, rfl, by kernel_rfl⟩
theorem at134 : prog.funcs[134]? = some f134 := by kernel_rfl
def pl134 : Nat → Plan
  | _ => []
noncomputable def D134 (ann : Nat → LAnn) : FnD := ⟨f134.body.getD .skip, f134.ntmps, f134.results.toList, pl134, ann⟩
theorem fnok134 (ann : Nat → LAnn) : FnOk prog 134 (D134 ann) := ⟨f134, at134, by kernel_rfl, by kernel_rfl, rfl, rfl, by kernel_rfl⟩
theorem at135 : prog.funcs[135]? = some f135 := by kernel_rfl
def pl135 : Nat → Plan
  | _ => []
noncomputable def D135 (ann : Nat → LAnn) : FnD := ⟨f135.body.getD .skip, f135.ntmps, f135.results.toList, pl135, ann⟩
theorem fnok135 (ann : Nat → LAnn) : FnOk prog 135 (D135 ann) := ⟨f135, at135, by kernel_rfl, by kernel_rfl, rfl, rfl, by kernel_rfl⟩
theorem at136 : prog.funcs[136]? = some f136 := by kernel_rfl
def pl136 : Nat → Plan
  | 1 => [(11, []), (0, [11]), (1, [11]), (2, [11, 0, 1]), (3, [11]), (4, [11]), (5, [11, 0, 1, 2, 3, 4]), (6, [11, 0, 1, 2, 3, 4]), (7, [11, 0, 1, 2, 3, 4]), (8, [11, 0, 1, 2, 3, 4, 5, 6, 7]), (9, [11, 0, 1, 2, 3, 4]), (10, [11, 0, 1, 2, 3, 4]), (12, [5, 6, 7, 8, 9, 10]), (13, [])]
  | 2 => [(0, []), (1, []), (2, []), (3, []), (4, []), (5, []), (6, [4, 5]), (7, [4, 5]), (8, []), (9, []), (10, []), (11, []), (12, [11]), (13, [11, 12]), (14, [11, 12, 13]), (15, [11, 12, 13, 14]), (16, [11, 12, 13, 14]), (17, [11, 12, 13]), (18, [11, 12, 13]), (19, []), (20, []), (21, []), (22, [])]
  | _ => []
noncomputable def D136 (ann : Nat → LAnn) : FnD := ⟨f136.body.getD .skip, f136.ntmps, f136.results.toList, pl136, ann⟩
theorem fnok136 (ann : Nat → LAnn) : FnOk prog 136 (D136 ann) := ⟨f136, at136, by kernel_rfl, by kernel_rfl, rfl, rfl, by kernel_rfl⟩
theorem at137 : prog.funcs[137]? = some f137 := by kernel_rfl
def pl137 : Nat → Plan
  | _ => []
noncomputable def D137 (ann : Nat → LAnn) : FnD := ⟨f137.body.getD .skip, f137.ntmps, f137.results.toList, pl137, ann⟩
theorem fnok137 (ann : Nat → LAnn) : FnOk prog 137 (D137 ann) := ⟨f137, at137, by kernel_rfl, by kernel_rfl, rfl, rfl, by kernel_rfl⟩
theorem at138 : prog.funcs[138]? = some f138 := by kernel_rfl
def pl138 : Nat → Plan
  | _ => []
noncomputable def D138 (ann : Nat → LAnn) : FnD := ⟨f138.body.getD .skip, f138.ntmps, f138.results.toList, pl138, ann⟩
theorem fnok138 (ann : Nat → LAnn) : FnOk prog 138 (D138 ann) := ⟨f138, at138, by kernel_rfl, by kernel_rfl, rfl, rfl, by kernel_rfl⟩
theorem at140 : prog.funcs[140]? = some f140 := by kernel_rfl
def pl140 : Nat → Plan
  | _ => []
noncomputable def D140 (ann : Nat → LAnn) : FnD := ⟨f140.body.getD .skip, f140.ntmps, f140.results.toList, pl140, ann⟩
theorem fnok140 (ann : Nat → LAnn) : FnOk prog 140 (D140 ann) := ⟨f140, at140, by kernel_rfl, by kernel_rfl, rfl, rfl, by kernel_rfl⟩
theorem at141 : prog.funcs[141]? = some f141 := by kernel_rfl
def pl141 : Nat → Plan
  | _ => []
noncomputable def D141 (ann : Nat → LAnn) : FnD := ⟨f141.body.getD .skip, f141.ntmps, f141.results.toList, pl141, ann⟩
theorem fnok141 (ann : Nat → LAnn) : FnOk prog 141 (D141 ann) := ⟨f141, at141, by kernel_rfl, by kernel_rfl, rfl, rfl, by kernel_rfl⟩
theorem at142 : prog.funcs[142]? = some f142 := by kernel_rfl
def pl142 : Nat → Plan
  | _ => []
noncomputable def D142 (ann : Nat → LAnn) : FnD := ⟨f142.body.getD .skip, f142.ntmps, f142.results.toList, pl142, ann⟩
theorem fnok142 (ann : Nat → LAnn) : FnOk prog 142 (D142 ann) := ⟨f142, at142, by kernel_rfl, by kernel_rfl, rfl, rfl, by kernel_rfl⟩
theorem at143 : prog.funcs[143]? = some f143 := by kernel_rfl
def pl143 : Nat → Plan
  | 1 => [(0, []), (1, []), (2, [0, 1]), (3, [0, 1]), (4, []), (5, []), (6, [0, 1, 2, 3, 4, 5]), (7, [0, 1, 2, 3, 4, 5]), (8, []), (9, [])]
  | _ => []
noncomputable def D143 (ann : Nat → LAnn) : FnD := ⟨f143.body.getD .skip, f143.ntmps, f143.results.toList, pl143, ann⟩
theorem fnok143 (ann : Nat → LAnn) : FnOk prog 143 (D143 ann) := ⟨f143, at143, by kernel_rfl, by kernel_rfl, rfl, rfl, by kernel_rfl⟩
theorem at144 : prog.funcs[144]? = some f144 := by kernel_rfl
def pl144 : Nat → Plan
  | _ => []
noncomputable def D144 (ann : Nat → LAnn) : FnD := ⟨f144.body.getD .skip, f144.ntmps, f144.results.toList, pl144, ann⟩
theorem fnok144 (ann : Nat → LAnn) : FnOk prog 144 (D144 ann) := ⟨f144, at144, by kernel_rfl, by kernel_rfl, rfl, rfl, by kernel_rfl⟩
theorem at145 : prog.funcs[145]? = some f145 := by kernel_rfl
def pl145 : Nat → Plan
  | 1 => [(0, []), (1, [0]), (2, [0]), (3, []), (4, []), (5, [0, 1, 2, 3, 4]), (6, [0, 1, 2, 3, 4, 5]), (7, [0, 1, 2, 3, 4, 5]), (8, [0, 1, 2, 3, 4]), (9, [0, 1, 2, 3, 4]), (10, [5, 6, 7, 8, 9]), (11, [])]
  | _ => []
noncomputable def D145 (ann : Nat → LAnn) : FnD := ⟨f145.body.getD .skip, f145.ntmps, f145.results.toList, pl145, ann⟩
theorem fnok145 (ann : Nat → LAnn) : FnOk prog 145 (D145 ann) := ⟨f145, at145, by kernel_rfl, by kernel_rfl, rfl, rfl, by kernel_rfl⟩
theorem at157 : prog.funcs[157]? = some f157 := by kernel_rfl
def pl157 : Nat → Plan
  | _ => []
noncomputable def D157 (ann : Nat → LAnn) : FnD := ⟨f157.body.getD .skip, f157.ntmps, f157.results.toList, pl157, ann⟩
theorem fnok157 (ann : Nat → LAnn) : FnOk prog 157 (D157 ann) := ⟨f157, at157, by kernel_rfl, by kernel_rfl, rfl, rfl, by kernel_rfl⟩
theorem at160 : prog.funcs[160]? = some f160 := by kernel_rfl
def pl160 : Nat → Plan
  | 1 => [(0, []), (1, []), (2, []), (3, []), (4, [0, 1, 2, 3]), (5, [0, 1, 2, 3]), (6, [0, 1, 2, 3]), (7, [0, 1, 2, 3, 4, 5, 6]), (8, [0, 1, 2, 3, 4, 5, 6]), (9, [0, 1, 2, 3, 4, 5, 6]), (10, [0, 1, 2, 3, 4, 5, 6, 7, 8, 9]), (11, [0, 1, 2, 3, 4, 5, 6, 7, 8, 9]), (12, [0, 1, 2, 3, 4, 5, 6, 7, 8, 9]), (13, [0, 1, 2, 3, 4, 5, 6, 7, 8, 9, 10, 11, 12]), (14, [0, 1, 2, 3, 4, 5, 6, 7, 8, 9, 10, 11, 12]), (15, [0, 1, 2, 3, 4, 5, 6]), (16, []), (17, [])]
  | _ => []
noncomputable def D160 (ann : Nat → LAnn) : FnD := ⟨f160.body.getD .skip, f160.ntmps, f160.results.toList, pl160, ann⟩
theorem fnok160 (ann : Nat → LAnn) : FnOk prog 160 (D160 ann) := ⟨f160, at160, by kernel_rfl, by kernel_rfl, rfl, rfl, by kernel_rfl⟩
theorem at161 : prog.funcs[161]? = some f161 := by kernel_rfl
def pl161 : Nat → Plan
  | 2 => [(0, []), (1, []), (2, []), (3, []), (4, [0, 1, 2, 3]), (5, [0, 1, 2, 3]), (6, [0, 1, 2, 3, 4, 5]), (7, [0, 1, 2, 3, 4, 5]), (8, [0, 1, 2, 3, 4, 5]), (9, [0, 1, 2, 3, 4, 5]), (10, [0, 1, 2, 3, 4, 5, 6, 7, 8, 9]), (11, [0, 1, 2, 3, 4, 5, 6, 7, 8, 9]), (12, [0, 1, 2, 3, 4, 5, 6, 7, 8, 9]), (13, [0, 1, 2, 3, 4, 5]), (14, [0, 1, 2, 3, 4, 5]), (15, []), (16, [])]
  | 3 => [(0, []), (1, [0]), (2, [0]), (3, [0]), (4, [0]), (5, [0, 1, 2, 3, 4]), (6, [0, 1, 2, 3, 4]), (7, [0, 1, 2, 3, 4, 5, 6]), (8, [0, 1, 2, 3, 4, 5, 6]), (9, [0, 1, 2, 3, 4, 5, 6]), (10, [0, 1, 2, 3, 4, 5, 6]), (11, [0, 1, 2, 3, 4, 5, 6, 7, 8, 9, 10]), (12, [0, 1, 2, 3, 4, 5, 6, 7, 8, 9, 10]), (13, [0, 1, 2, 3, 4, 5, 6, 7, 8, 9, 10]), (14, [0, 1, 2, 3, 4, 5, 6]), (15, [0, 1, 2, 3, 4, 5, 6]), (16, [0, 1, 2, 3, 4]), (17, [0, 1, 2, 3, 4]), (18, [0]), (19, []), (20, []), (21, [])]
  | _ => []
noncomputable def D161 (ann : Nat → LAnn) : FnD := ⟨f161.body.getD .skip, f161.ntmps, f161.results.toList, pl161, ann⟩
theorem fnok161 (ann : Nat → LAnn) : FnOk prog 161 (D161 ann) := ⟨f161, at161, by kernel_rfl, by kernel_rfl, rfl, rfl, by kernel_rfl⟩
theorem at162 : prog.funcs[162]? = some f162 := by kernel_rfl
def pl162 : Nat → Plan
  | 1 => [(0, []), (1, []), (2, []), (3, []), (4, [0, 1, 2, 3]), (5, [0, 1, 2, 3]), (6, []), (7, []), (8, [0, 1, 2, 3, 4, 5, 6, 7]), (9, [0, 1, 2, 3, 4, 5, 6, 7]), (10, [0, 1, 2, 3, 4, 5, 6, 7]), (11, [0, 1, 2, 3, 4, 5, 6, 7]), (12, [0, 1, 2, 3, 4, 5, 6, 7, 8, 9, 10, 11]), (13, [0, 1, 2, 3, 4, 5, 6, 7, 8, 9, 10, 11]), (14, [0, 1, 2, 3, 4, 5, 6, 7, 8, 9, 10, 11]), (15, [0, 1, 2, 3, 4, 5, 6, 7]), (16, [0, 1, 2, 3, 4, 5, 6, 7]), (17, []), (18, [])]
  | 3 => [(0, []), (1, []), (2, []), (3, []), (4, [0, 1, 2, 3]), (5, [0, 1, 2, 3]), (6, [0, 1, 2, 3, 4, 5]), (7, [0, 1, 2, 3, 4, 5]), (8, [0, 1, 2, 3, 4, 5]), (9, [0, 1, 2, 3, 4, 5]), (10, [0, 1, 2, 3, 4, 5, 6, 7, 8, 9]), (11, [0, 1, 2, 3, 4, 5, 6, 7, 8, 9]), (12, [0, 1, 2, 3, 4, 5, 6, 7, 8, 9]), (13, [0, 1, 2, 3, 4, 5]), (14, [0, 1, 2, 3, 4, 5]), (15, []), (16, [])]
  | 4 => [(0, []), (1, []), (2, []), (3, []), (4, [0, 1, 2, 3]), (5, [0, 1, 2, 3]), (6, [0, 1, 2, 3]), (7, [0, 1, 2, 3, 4, 5, 6]), (8, [0, 1, 2, 3, 4, 5, 6]), (9, []), (10, [])]
  | _ => []
noncomputable def D162 (ann : Nat → LAnn) : FnD := ⟨f162.body.getD .skip, f162.ntmps, f162.results.toList, pl162, ann⟩
theorem fnok162 (ann : Nat → LAnn) : FnOk prog 162 (D162 ann) := ⟨f162, at162, by kernel_rfl, by kernel_rfl, rfl, rfl, by kernel_rfl⟩
theorem at163 : prog.funcs[163]? = some f163 := by kernel_rfl
def pl163 : Nat → Plan
  | _ => []
noncomputable def D163 (ann : Nat → LAnn) : FnD := ⟨f163.body.getD .skip, f163.ntmps, f163.results.toList, pl163, ann⟩
theorem fnok163 (ann : Nat → LAnn) : FnOk prog 163 (D163 ann) := ⟨f163, at163, by kernel_rfl, by kernel_rfl, rfl, rfl, by kernel_rfl⟩
theorem at158 : prog.funcs[158]? = some f158 := by kernel_rfl
def pl158 : Nat → Plan
  | _ => []
noncomputable def D158 (ann : Nat → LAnn) : FnD := ⟨f158.body.getD .skip, f158.ntmps, f158.results.toList, pl158, ann⟩
theorem fnok158 (ann : Nat → LAnn) : FnOk prog 158 (D158 ann) := ⟨f158, at158, by kernel_rfl, by kernel_rfl, rfl, rfl, by kernel_rfl⟩
theorem at159 : prog.funcs[159]? = some f159 := by kernel_rfl
def pl159 : Nat → Plan
  | _ => []
noncomputable def D159 (ann : Nat → LAnn) : FnD := ⟨f159.body.getD .skip, f159.ntmps, f159.results.toList, pl159, ann⟩
theorem fnok159 (ann : Nat → LAnn) : FnOk prog 159 (D159 ann) := ⟨f159, at159, by kernel_rfl, by kernel_rfl, rfl, rfl, by kernel_rfl⟩
end Go.Proofs.Tryz
