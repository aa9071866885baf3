/- What each function of the lexer computes, proved through the condition generator. No condition of ours. -/
import Derived.Test.YthmlejcfgbpcbaaDoorProg
import Derived.Test.YthmlejcfgbpcbaaDoorV1
import Derived.Lib.Bytealg
import Derived.Lib.AtoiAllCases
import Derived.Lib.ItoaNum
import Derived.Shelf.RegionOpenPlain
import Derived.Lib.Strings
import Derived.Lib.Slices
import Derived.Lib.Walk
import Derived.Lib.Builder
import Derived.Lib.UnsafeStr
import Derived.WalkKit
import Derived.Laws.Externs
import Derived.Laws.IdiomCopy
import Derived.Shelf.Strconv.Itoa3
import Derived.Shelf.Strconv.AtoiAll
set_option autoImplicit false
set_option linter.all false
namespace Go.Proofs.Tryd
open Go Go.VM
def T01 : TT := (.node (.node (.node (.node (.node (.node (.node (.node .leaf 1 ⟨.fn, 1, 8, [.fn], .bool⟩ .leaf) 2 ⟨.int .i64, 1, 8, [.int .i64], .int .i64⟩ .leaf) 3 ⟨.int .i64, 1, 8, [.int .i64], .int .i64⟩ (.node .leaf 4 ⟨.bool, 1, 1, [.bool], .bool⟩ .leaf)) 5 ⟨.int .u8, 1, 1, [.int .u8], .int .u8⟩ (.node (.node .leaf 6 ⟨.int .u8, 1, 1, [.int .u8], .int .u8⟩ .leaf) 7 ⟨.st [(0, 2), (1, 3), (2, 4), (3, 6)], 4, 24, [.int .i64, .int .i64, .bool, .int .u8], .pair (.int .i64) (.pair (.int .i64) (.pair (.bool) (.int .u8)))⟩ (.node .leaf 8 ⟨.st [(0, 2), (1, 3), (2, 4), (3, 6)], 4, 24, [.int .i64, .int .i64, .bool, .int .u8], .pair (.int .i64) (.pair (.int .i64) (.pair (.bool) (.int .u8)))⟩ .leaf))) 9 ⟨.str, 1, 16, [.str], .str⟩ (.node (.node (.node (.node .leaf 10 ⟨.str, 1, 16, [.str], .str⟩ .leaf) 11 ⟨.str, 1, 16, [.str], .str⟩ .leaf) 12 ⟨.int .u64, 1, 8, [.int .u64], .int .u64⟩ (.node .leaf 15 ⟨.ptr 176, 1, 8, [.ptr], .bool⟩ .leaf)) 16 ⟨.ptr 179, 1, 8, [.ptr], .bool⟩ (.node (.node .leaf 17 ⟨.ptr 186, 1, 8, [.ptr], .bool⟩ .leaf) 21 ⟨.int .i32, 1, 4, [.int .i32], .int .i32⟩ (.node .leaf 22 ⟨.fn, 1, 8, [.fn], .bool⟩ .leaf)))) 23 ⟨.fn, 1, 8, [.fn], .bool⟩ (.node (.node (.node (.node (.node .leaf 24 ⟨.sl 48, 1, 24, [.sl], .sl (.pair (.int .u8) (.pair (.str) (.int .i64)))⟩ .leaf) 25 ⟨.int .i64, 1, 8, [.int .i64], .int .i64⟩ .leaf) 27 ⟨.fn, 1, 8, [.fn], .bool⟩ (.node .leaf 28 ⟨.fn, 1, 8, [.fn], .bool⟩ .leaf)) 30 ⟨.fn, 1, 8, [.fn], .bool⟩ (.node (.node .leaf 31 ⟨.fn, 1, 8, [.fn], .bool⟩ .leaf) 33 ⟨.fn, 1, 8, [.fn], .bool⟩ (.node .leaf 34 ⟨.st [(0, 3), (1, 3), (2, 9)], 3, 32, [.int .i64, .int .i64, .str], .pair (.int .i64) (.pair (.int .i64) (.str))⟩ .leaf))) 35 ⟨.st [(0, 3), (1, 3), (2, 9)], 3, 32, [.int .i64, .int .i64, .str], .pair (.int .i64) (.pair (.int .i64) (.str))⟩ (.node (.node (.node (.node .leaf 37 ⟨.fn, 1, 8, [.fn], .bool⟩ .leaf) 38 ⟨.fn, 1, 8, [.fn], .bool⟩ .leaf) 39 ⟨.st [(0, 3), (1, 3), (2, 24)], 3, 40, [.int .i64, .int .i64, .sl], .pair (.int .i64) (.pair (.int .i64) (.sl (.pair (.int .u8) (.pair (.str) (.int .i64)))))⟩ (.node .leaf 40 ⟨.st [(0, 3), (1, 3), (2, 24)], 3, 40, [.int .i64, .int .i64, .sl], .pair (.int .i64) (.pair (.int .i64) (.sl (.pair (.int .u8) (.pair (.str) (.int .i64)))))⟩ .leaf)) 42 ⟨.fn, 1, 8, [.fn], .bool⟩ (.node (.node .leaf 43 ⟨.fn, 1, 8, [.fn], .bool⟩ .leaf) 44 ⟨.fn, 1, 8, [.fn], .bool⟩ (.node .leaf 45 ⟨.sl 9, 1, 24, [.sl], .sl (.str)⟩ .leaf))))) 46 ⟨.fn, 1, 8, [.fn], .bool⟩ (.node (.node (.node (.node (.node (.node .leaf 47 ⟨.st [(0, 5), (1, 9), (2, 3)], 3, 32, [.int .u8, .str, .int .i64], .pair (.int .u8) (.pair (.str) (.int .i64))⟩ .leaf) 48 ⟨.st [(0, 5), (1, 9), (2, 3)], 3, 32, [.int .u8, .str, .int .i64], .pair (.int .u8) (.pair (.str) (.int .i64))⟩ .leaf) 49 ⟨.fn, 1, 8, [.fn], .bool⟩ (.node .leaf 51 ⟨.fn, 1, 8, [.fn], .bool⟩ .leaf)) 52 ⟨.fn, 1, 8, [.fn], .bool⟩ (.node (.node .leaf 53 ⟨.fn, 1, 8, [.fn], .bool⟩ .leaf) 54 ⟨.fn, 1, 8, [.fn], .bool⟩ (.node .leaf 55 ⟨.fn, 1, 8, [.fn], .bool⟩ .leaf))) 57 ⟨.fn, 1, 8, [.fn], .bool⟩ (.node (.node (.node (.node .leaf 58 ⟨.sl 93, 1, 24, [.sl], .sl (.pair (.int .i64) (.int .i64))⟩ .leaf) 60 ⟨.fn, 1, 8, [.fn], .bool⟩ .leaf) 61 ⟨.fn, 1, 8, [.fn], .bool⟩ (.node .leaf 62 ⟨.st [(0, 3), (1, 3)], 2, 16, [.int .i64, .int .i64], .pair (.int .i64) (.int .i64)⟩ .leaf)) 63 ⟨.st [(0, 3), (1, 3)], 2, 16, [.int .i64, .int .i64], .pair (.int .i64) (.int .i64)⟩ (.node (.node .leaf 65 ⟨.fn, 1, 8, [.fn], .bool⟩ .leaf) 67 ⟨.fn, 1, 8, [.fn], .bool⟩ (.node .leaf 68 ⟨.fn, 1, 8, [.fn], .bool⟩ .leaf)))) 69 ⟨.fn, 1, 8, [.fn], .bool⟩ (.node (.node (.node (.node (.node .leaf 70 ⟨.fn, 1, 8, [.fn], .bool⟩ .leaf) 72 ⟨.fn, 1, 8, [.fn], .bool⟩ .leaf) 73 ⟨.fn, 1, 8, [.fn], .bool⟩ (.node .leaf 74 ⟨.fn, 1, 8, [.fn], .bool⟩ .leaf)) 75 ⟨.fn, 1, 8, [.fn], .bool⟩ (.node (.node .leaf 76 ⟨.fn, 1, 8, [.fn], .bool⟩ .leaf) 77 ⟨.fn, 1, 8, [.fn], .bool⟩ (.node .leaf 78 ⟨.fn, 1, 8, [.fn], .bool⟩ .leaf))) 79 ⟨.fn, 1, 8, [.fn], .bool⟩ (.node (.node (.node (.node .leaf 80 ⟨.fn, 1, 8, [.fn], .bool⟩ .leaf) 81 ⟨.fn, 1, 8, [.fn], .bool⟩ .leaf) 82 ⟨.fn, 1, 8, [.fn], .bool⟩ (.node .leaf 83 ⟨.st [(0, 35), (3, 9), (4, 9)], 5, 64, [.int .i64, .int .i64, .str, .str, .str], .pair (.pair (.int .i64) (.pair (.int .i64) (.str))) (.pair (.str) (.str))⟩ .leaf)) 84 ⟨.st [(0, 35), (3, 9), (4, 9)], 5, 64, [.int .i64, .int .i64, .str, .str, .str], .pair (.pair (.int .i64) (.pair (.int .i64) (.str))) (.pair (.str) (.str))⟩ (.node (.node .leaf 86 ⟨.fn, 1, 8, [.fn], .bool⟩ .leaf) 87 ⟨.fn, 1, 8, [.fn], .bool⟩ (.node .leaf 88 ⟨.fn, 1, 8, [.fn], .bool⟩ .leaf)))))) 89 ⟨.fn, 1, 8, [.fn], .bool⟩ (.node (.node (.node (.node (.node (.node (.node .leaf 90 ⟨.fn, 1, 8, [.fn], .bool⟩ .leaf) 91 ⟨.fn, 1, 8, [.fn], .bool⟩ .leaf) 92 ⟨.st [(0, 3), (1, 3)], 2, 16, [.int .i64, .int .i64], .pair (.int .i64) (.int .i64)⟩ (.node .leaf 93 ⟨.st [(0, 3), (1, 3)], 2, 16, [.int .i64, .int .i64], .pair (.int .i64) (.int .i64)⟩ .leaf)) 94 ⟨.fn, 1, 8, [.fn], .bool⟩ (.node (.node .leaf 95 ⟨.fn, 1, 8, [.fn], .bool⟩ .leaf) 96 ⟨.fn, 1, 8, [.fn], .bool⟩ (.node .leaf 97 ⟨.fn, 1, 8, [.fn], .bool⟩ .leaf))) 98 ⟨.fn, 1, 8, [.fn], .bool⟩ (.node (.node (.node (.node .leaf 99 ⟨.fn, 1, 8, [.fn], .bool⟩ .leaf) 100 ⟨.map 9 4, 1, 8, [.map], .bool⟩ .leaf) 101 ⟨.fn, 1, 8, [.fn], .bool⟩ (.node .leaf 102 ⟨.fn, 1, 8, [.fn], .bool⟩ .leaf)) 103 ⟨.fn, 1, 8, [.fn], .bool⟩ (.node (.node .leaf 104 ⟨.fn, 1, 8, [.fn], .bool⟩ .leaf) 105 ⟨.ptr 108, 1, 8, [.ptr], .bool⟩ (.node .leaf 106 ⟨.sl 5, 1, 24, [.sl], .sl (.int .u8)⟩ .leaf)))) 107 ⟨.st [(0, 105), (1, 106)], 2, 32, [.ptr, .sl], .bool⟩ (.node (.node (.node (.node (.node .leaf 108 ⟨.st [(0, 105), (1, 106)], 2, 32, [.slf, .sl], .bool⟩ .leaf) 110 ⟨.ifc [142], 1, 16, [.ifc], .bool⟩ .leaf) 111 ⟨.fn, 1, 8, [.fn], .bool⟩ (.node .leaf 113 ⟨.fn, 1, 8, [.fn], .bool⟩ .leaf)) 114 ⟨.fn, 1, 8, [.fn], .bool⟩ (.node (.node .leaf 115 ⟨.fn, 1, 8, [.fn], .bool⟩ .leaf) 116 ⟨.int .u64, 1, 8, [.int .u64], .int .u64⟩ (.node .leaf 118 ⟨.fn, 1, 8, [.fn], .bool⟩ .leaf))) 119 ⟨.fn, 1, 8, [.fn], .bool⟩ (.node (.node (.node (.node .leaf 120 ⟨.fn, 1, 8, [.fn], .bool⟩ .leaf) 121 ⟨.fn, 1, 8, [.fn], .bool⟩ .leaf) 122 ⟨.sl 3, 1, 24, [.sl], .sl (.int .i64)⟩ (.node .leaf 123 ⟨.fn, 1, 8, [.fn], .bool⟩ .leaf)) 124 ⟨.fn, 1, 8, [.fn], .bool⟩ (.node (.node .leaf 125 ⟨.fn, 1, 8, [.fn], .bool⟩ .leaf) 126 ⟨.ptr 5, 1, 8, [.ptr], .bool⟩ (.node .leaf 127 ⟨.int .u32, 1, 4, [.int .u32], .int .u32⟩ .leaf))))) 129 ⟨.fn, 1, 8, [.fn], .bool⟩ (.node (.node (.node (.node (.node (.node .leaf 130 ⟨.int .u64, 1, 8, [.int .u64], .int .u64⟩ .leaf) 132 ⟨.fn, 1, 8, [.fn], .bool⟩ .leaf) 133 ⟨.fn, 1, 8, [.fn], .bool⟩ (.node .leaf 134 ⟨.fn, 1, 8, [.fn], .bool⟩ .leaf)) 135 ⟨.fn, 1, 8, [.fn], .bool⟩ (.node (.node .leaf 137 ⟨.fn, 1, 8, [.fn], .bool⟩ .leaf) 138 ⟨.fn, 1, 8, [.fn], .bool⟩ (.node .leaf 139 ⟨.fn, 1, 8, [.fn], .bool⟩ .leaf))) 141 ⟨.fn, 1, 8, [.fn], .bool⟩ (.node (.node (.node (.node .leaf 142 ⟨.int .i64, 1, 8, [.int .i64], .int .i64⟩ .leaf) 144 ⟨.fn, 1, 8, [.fn], .bool⟩ .leaf) 145 ⟨.ptr 153, 1, 8, [.ptr], .bool⟩ (.node .leaf 146 ⟨.fn, 1, 8, [.fn], .bool⟩ .leaf)) 147 ⟨.fn, 1, 8, [.fn], .bool⟩ (.node (.node .leaf 148 ⟨.fn, 1, 8, [.fn], .bool⟩ .leaf) 149 ⟨.fn, 1, 8, [.fn], .bool⟩ (.node .leaf 151 ⟨.fn, 1, 8, [.fn], .bool⟩ .leaf)))) 154 ⟨.fn, 1, 8, [.fn], .bool⟩ (.node (.node (.node (.node (.node .leaf 156 ⟨.fn, 1, 8, [.fn], .bool⟩ .leaf) 157 ⟨.fn, 1, 8, [.fn], .bool⟩ .leaf) 159 ⟨.fn, 1, 8, [.fn], .bool⟩ (.node .leaf 161 ⟨.st [(0, 5), (1, 5)], 2, 2, [.int .u8, .int .u8], .pair (.int .u8) (.int .u8)⟩ .leaf)) 162 ⟨.st [(0, 5), (1, 5)], 2, 2, [.int .u8, .int .u8], .pair (.int .u8) (.int .u8)⟩ (.node (.node .leaf 164 ⟨.fn, 1, 8, [.fn], .bool⟩ .leaf) 165 ⟨.ptr 167, 1, 8, [.ptr], .bool⟩ (.node .leaf 166 ⟨.st [(0, 9)], 1, 16, [.str], .wrap (.str)⟩ .leaf))) 167 ⟨.st [(0, 9)], 1, 16, [.str], .wrap (.str)⟩ (.node (.node (.node (.node .leaf 168 ⟨.fn, 1, 8, [.fn], .bool⟩ .leaf) 171 ⟨.fn, 1, 8, [.fn], .bool⟩ .leaf) 172 ⟨.fn, 1, 8, [.fn], .bool⟩ (.node .leaf 180 ⟨.int .u8, 1, 1, [.int .u8], .int .u8⟩ .leaf)) 181 ⟨.int .u8, 1, 1, [.int .u8], .int .u8⟩ (.node (.node .leaf 182 ⟨.fn, 1, 8, [.fn], .bool⟩ .leaf) 183 ⟨.int .i32, 1, 4, [.int .i32], .int .i32⟩ (.node .leaf 184 ⟨.int .i32, 1, 4, [.int .i32], .int .i32⟩ .leaf)))))))
theorem T01ok : T01.ok prog = true := by kernel_rfl
def E01 : Ev := fun t => T01.look t
theorem hE : ∀ t i, E01 t = some i → TIok prog t i := fun t i h => TT.ok_look T01 t i T01ok h
theorem hm : prog.follows .mixedOrders = true := by kernel_rfl
end Go.Proofs.Tryd
set_option autoImplicit false
set_option linter.all false
namespace Go.Proofs.Tryd
open Go Go.VM
set_option maxRecDepth 100000
theorem at3 : prog.funcs[3]? = some f3 := by kernel_rfl
def pl3 : Nat → Plan
  | _ => []
noncomputable def D3 (ann : Nat → LAnn) : FnD := ⟨f3.body.getD .skip, f3.ntmps, f3.results.toList, pl3, ann⟩
theorem fnok3 (ann : Nat → LAnn) : FnOk prog 3 (D3 ann) := ⟨f3, at3, by kernel_rfl, by kernel_rfl, rfl, rfl, by kernel_rfl⟩  -- dripstone/dripstonelaw01.LexScans
theorem at4 : prog.funcs[4]? = some f4 := by kernel_rfl
def pl4 : Nat → Plan
  | _ => []
noncomputable def D4 (ann : Nat → LAnn) : FnD := ⟨f4.body.getD .skip, f4.ntmps, f4.results.toList, pl4, ann⟩
theorem fnok4 (ann : Nat → LAnn) : FnOk prog 4 (D4 ann) := ⟨f4, at4, by kernel_rfl, by kernel_rfl, rfl, rfl, by kernel_rfl⟩  -- dripstone/dripstonelaw01.LexKinds
theorem at5 : prog.funcs[5]? = some f5 := by kernel_rfl
def pl5 : Nat → Plan
  | _ => []
noncomputable def D5 (ann : Nat → LAnn) : FnD := ⟨f5.body.getD .skip, f5.ntmps, f5.results.toList, pl5, ann⟩
theorem fnok5 (ann : Nat → LAnn) : FnOk prog 5 (D5 ann) := ⟨f5, at5, by kernel_rfl, by kernel_rfl, rfl, rfl, by kernel_rfl⟩  -- dripstone/dripstonelaw01.LexJoins
theorem at6 : prog.funcs[6]? = some f6 := by kernel_rfl
def pl6 : Nat → Plan
  | _ => []
noncomputable def D6 (ann : Nat → LAnn) : FnD := ⟨f6.body.getD .skip, f6.ntmps, f6.results.toList, pl6, ann⟩
theorem fnok6 (ann : Nat → LAnn) : FnOk prog 6 (D6 ann) := ⟨f6, at6, by kernel_rfl, by kernel_rfl, rfl, rfl, by kernel_rfl⟩  -- dripstone/dripstonelaw01.LexDiffs
theorem at7 : prog.funcs[7]? = some f7 := by kernel_rfl
def pl7 : Nat → Plan
  | _ => []
noncomputable def D7 (ann : Nat → LAnn) : FnD := ⟨f7.body.getD .skip, f7.ntmps, f7.results.toList, pl7, ann⟩
theorem fnok7 (ann : Nat → LAnn) : FnOk prog 7 (D7 ann) := ⟨f7, at7, by kernel_rfl, by kernel_rfl, rfl, rfl, by kernel_rfl⟩  -- dripstone/dripstonelaw01.LexRescans
theorem at8 : prog.funcs[8]? = some f8 := by kernel_rfl
def pl8 : Nat → Plan
  | 14 => [(0, []), (1, [0]), (2, []), (3, [0, 1, 2]), (4, [0, 1, 2, 3]), (5, [0, 1, 2, 3]), (6, [0, 1, 2]), (7, []), (8, []), (9, []), (10, []), (11, [10]), (12, [10, 11]), (13, [11, 12]), (14, [12]), (15, [])]
  | _ => []
noncomputable def D8 (ann : Nat → LAnn) : FnD := ⟨f8.body.getD .skip, f8.ntmps, f8.results.toList, pl8, ann⟩
theorem fnok8 (ann : Nat → LAnn) : FnOk prog 8 (D8 ann) := ⟨f8, at8, by kernel_rfl, by kernel_rfl, rfl, rfl, by kernel_rfl⟩  -- dripstone/dripstonelaw01.LexAgain
theorem at9 : prog.funcs[9]? = some f9 := by kernel_rfl
def pl9 : Nat → Plan
  | 7 => [(0, []), (1, []), (2, []), (3, []), (4, []), (5, []), (6, []), (7, []), (8, []), (9, []), (10, []), (11, []), (12, []), (13, []), (14, []), (15, []), (16, []), (17, []), (18, []), (19, []), (20, [16, 17, 18, 19]), (21, [16, 17, 18, 19, 20]), (22, [16, 17, 18, 19]), (23, [16, 17, 18, 19]), (24, []), (25, [])]
  | _ => []
noncomputable def D9 (ann : Nat → LAnn) : FnD := ⟨f9.body.getD .skip, f9.ntmps, f9.results.toList, pl9, ann⟩
theorem fnok9 (ann : Nat → LAnn) : FnOk prog 9 (D9 ann) := ⟨f9, at9, by kernel_rfl, by kernel_rfl, rfl, rfl, by kernel_rfl⟩  -- dripstone/dripstonelaw01.LexSigns
theorem at10 : prog.funcs[10]? = some f10 := by kernel_rfl
def pl10 : Nat → Plan
  | 8 => [(0, []), (1, [0]), (2, [0]), (3, []), (4, []), (5, []), (6, [5]), (7, [5]), (8, []), (9, []), (10, []), (11, []), (12, [11]), (13, []), (14, [11, 12, 13]), (15, [11, 12, 13, 14]), (16, [11, 12, 13]), (17, []), (18, [])]
  | 11 => [(0, []), (1, [0]), (2, []), (3, [0, 1, 2]), (4, [0, 1, 2]), (5, []), (6, []), (7, []), (8, [7]), (9, []), (10, [7, 8, 9]), (11, [7, 8, 9]), (12, []), (13, []), (14, []), (15, []), (16, [15]), (17, [15]), (18, [15, 16, 17]), (19, [15]), (20, []), (21, [15, 16, 17, 18, 19, 20]), (22, [15, 16, 17, 18, 19, 20, 21]), (23, [15, 16, 17, 18, 19, 20, 21]), (24, [15, 16, 17, 18, 19, 20, 21, 22, 23]), (25, [15, 16, 17, 18, 19, 20, 21]), (26, [15, 16, 17, 18, 19, 20]), (27, []), (28, [])]
  | _ => []
noncomputable def D10 (ann : Nat → LAnn) : FnD := ⟨f10.body.getD .skip, f10.ntmps, f10.results.toList, pl10, ann⟩
theorem fnok10 (ann : Nat → LAnn) : FnOk prog 10 (D10 ann) := ⟨f10, at10, by kernel_rfl, by kernel_rfl, rfl, rfl, by kernel_rfl⟩  -- dripstone/dripstonelaw01.LexDiffed
theorem at11 : prog.funcs[11]? = some f11 := by kernel_rfl
def pl11 : Nat → Plan
  | 3 => [(0, []), (1, []), (2, [0, 1]), (3, [0, 1]), (4, []), (5, []), (6, [])]
  | 4 => [(7, []), (8, [])]
  | _ => []
noncomputable def D11 (ann : Nat → LAnn) : FnD := ⟨f11.body.getD .skip, f11.ntmps, f11.results.toList, pl11, ann⟩
theorem fnok11 (ann : Nat → LAnn) : FnOk prog 11 (D11 ann) := ⟨f11, at11, by kernel_rfl, by kernel_rfl, rfl, rfl, by kernel_rfl⟩  -- dripstone/dripstonelaw01.LexPatches
theorem at12 : prog.funcs[12]? = some f12 := by kernel_rfl
def pl12 : Nat → Plan
  | _ => []
noncomputable def D12 (ann : Nat → LAnn) : FnD := ⟨f12.body.getD .skip, f12.ntmps, f12.results.toList, pl12, ann⟩
theorem fnok12 (ann : Nat → LAnn) : FnOk prog 12 (D12 ann) := ⟨f12, at12, by kernel_rfl, by kernel_rfl, rfl, rfl, by kernel_rfl⟩  -- dripstone/dripstonelaw01.LexEdits
theorem at13 : prog.funcs[13]? = some f13 := by kernel_rfl
def pl13 : Nat → Plan
  | _ => []
noncomputable def D13 (ann : Nat → LAnn) : FnD := ⟨f13.body.getD .skip, f13.ntmps, f13.results.toList, pl13, ann⟩
theorem fnok13 (ann : Nat → LAnn) : FnOk prog 13 (D13 ann) := ⟨f13, at13, by kernel_rfl, by kernel_rfl, rfl, rfl, by kernel_rfl⟩  -- dripstone/dripstonelaw01.LexUndone
theorem at14 : prog.funcs[14]? = some f14 := by kernel_rfl
def pl14 : Nat → Plan
  | _ => []
noncomputable def D14 (ann : Nat → LAnn) : FnD := ⟨f14.body.getD .skip, f14.ntmps, f14.results.toList, pl14, ann⟩
theorem fnok14 (ann : Nat → LAnn) : FnOk prog 14 (D14 ann) := ⟨f14, at14, by kernel_rfl, by kernel_rfl, rfl, rfl, by kernel_rfl⟩  -- dripstone/dripstonelaw01.LexBoths
theorem at15 : prog.funcs[15]? = some f15 := by kernel_rfl
def pl15 : Nat → Plan
  | _ => []
noncomputable def D15 (ann : Nat → LAnn) : FnD := ⟨f15.body.getD .skip, f15.ntmps, f15.results.toList, pl15, ann⟩
theorem fnok15 (ann : Nat → LAnn) : FnOk prog 15 (D15 ann) := ⟨f15, at15, by kernel_rfl, by kernel_rfl, rfl, rfl, by kernel_rfl⟩  -- dripstone/dripstonelaw01.LexTwo
theorem at16 : prog.funcs[16]? = some f16 := by kernel_rfl
def pl16 : Nat → Plan
  | 9 => [(0, []), (1, []), (2, [0, 1]), (3, [0, 1, 2]), (4, []), (5, []), (6, []), (7, [6]), (8, [7]), (9, [])]
  | 18 => [(0, []), (1, [0]), (2, []), (3, []), (4, []), (5, [0, 1, 2, 3, 4]), (6, [0, 1, 2, 3, 4, 5]), (7, [0, 1, 2, 3, 4]), (8, [0, 1, 2, 3, 4]), (9, [0, 1, 2, 3, 4]), (10, [0, 1, 2, 3, 4]), (11, []), (12, [0, 1, 2, 3, 4, 5, 6, 7, 8, 9, 10, 11]), (13, [0, 1, 2, 3, 4, 5, 6, 7, 8, 9, 10, 11]), (14, []), (15, []), (16, []), (17, [16]), (18, [16]), (19, []), (20, []), (21, []), (22, []), (23, [22]), (24, []), (25, []), (26, []), (27, [22, 23, 24, 25, 26]), (28, []), (29, []), (30, []), (31, [30]), (32, [30]), (33, [30, 31, 32]), (34, [30, 31, 32]), (35, [30]), (36, []), (37, []), (38, [])]
  | _ => []
noncomputable def D16 (ann : Nat → LAnn) : FnD := ⟨f16.body.getD .skip, f16.ntmps, f16.results.toList, pl16, ann⟩
theorem fnok16 (ann : Nat → LAnn) : FnOk prog 16 (D16 ann) := ⟨f16, at16, by kernel_rfl, by kernel_rfl, rfl, rfl, by kernel_rfl⟩  -- dripstone/dripstonelaw01.LexKept
theorem at17 : prog.funcs[17]? = some f17 := by kernel_rfl
def pl17 : Nat → Plan
  | 11 => [(0, []), (1, [0]), (2, []), (3, []), (4, [0, 1, 2, 3]), (5, [0, 1, 2, 3, 4]), (6, [0, 1, 2, 3]), (7, [0, 1, 2, 3]), (8, []), (9, []), (10, []), (11, [10]), (12, []), (13, []), (14, []), (15, []), (16, []), (17, [16]), (18, []), (19, [16, 17, 18]), (20, [16, 17, 18, 19]), (21, [16, 17, 18]), (22, []), (23, []), (24, []), (25, [24]), (26, []), (27, []), (28, []), (29, [])]
  | _ => []
noncomputable def D17 (ann : Nat → LAnn) : FnD := ⟨f17.body.getD .skip, f17.ntmps, f17.results.toList, pl17, ann⟩
theorem fnok17 (ann : Nat → LAnn) : FnOk prog 17 (D17 ann) := ⟨f17, at17, by kernel_rfl, by kernel_rfl, rfl, rfl, by kernel_rfl⟩  -- dripstone/dripstonelaw01.LexBlanks
theorem at18 : prog.funcs[18]? = some f18 := by kernel_rfl
def pl18 : Nat → Plan
  | _ => []
noncomputable def D18 (ann : Nat → LAnn) : FnD := ⟨f18.body.getD .skip, f18.ntmps, f18.results.toList, pl18, ann⟩
theorem fnok18 (ann : Nat → LAnn) : FnOk prog 18 (D18 ann) := ⟨f18, at18, by kernel_rfl, by kernel_rfl, rfl, rfl, by kernel_rfl⟩  -- dripstone/dripstonelaw01.LexComments
theorem at19 : prog.funcs[19]? = some f19 := by kernel_rfl
def pl19 : Nat → Plan
  | _ => []
noncomputable def D19 (ann : Nat → LAnn) : FnD := ⟨f19.body.getD .skip, f19.ntmps, f19.results.toList, pl19, ann⟩
theorem fnok19 (ann : Nat → LAnn) : FnOk prog 19 (D19 ann) := ⟨f19, at19, by kernel_rfl, by kernel_rfl, rfl, rfl, by kernel_rfl⟩  -- dripstone/dripstonelaw01.LexPlaces
theorem at20 : prog.funcs[20]? = some f20 := by kernel_rfl
def pl20 : Nat → Plan
  | _ => []
noncomputable def D20 (ann : Nat → LAnn) : FnD := ⟨f20.body.getD .skip, f20.ntmps, f20.results.toList, pl20, ann⟩
theorem fnok20 (ann : Nat → LAnn) : FnOk prog 20 (D20 ann) := ⟨f20, at20, by kernel_rfl, by kernel_rfl, rfl, rfl, by kernel_rfl⟩  -- dripstone/dripstonelaw01.LexPlaced
theorem at21 : prog.funcs[21]? = some f21 := by kernel_rfl
def pl21 : Nat → Plan
  | _ => []
noncomputable def D21 (ann : Nat → LAnn) : FnD := ⟨f21.body.getD .skip, f21.ntmps, f21.results.toList, pl21, ann⟩
theorem fnok21 (ann : Nat → LAnn) : FnOk prog 21 (D21 ann) := ⟨f21, at21, by kernel_rfl, by kernel_rfl, rfl, rfl, by kernel_rfl⟩  -- dripstone/dripstonelaw01.Short
theorem at22 : prog.funcs[22]? = some f22 := by kernel_rfl
def pl22 : Nat → Plan
  | _ => []
noncomputable def D22 (ann : Nat → LAnn) : FnD := ⟨f22.body.getD .skip, f22.ntmps, f22.results.toList, pl22, ann⟩
theorem fnok22 (ann : Nat → LAnn) : FnOk prog 22 (D22 ann) := ⟨f22, at22, by kernel_rfl, by kernel_rfl, rfl, rfl, by kernel_rfl⟩  -- dripstone/dripstonelaw01.awake
theorem at23 : prog.funcs[23]? = some f23 := by kernel_rfl
def pl23 : Nat → Plan
  | _ => []
noncomputable def D23 (ann : Nat → LAnn) : FnD := ⟨f23.body.getD .skip, f23.ntmps, f23.results.toList, pl23, ann⟩
theorem fnok23 (ann : Nat → LAnn) : FnOk prog 23 (D23 ann) := ⟨f23, at23, by kernel_rfl, by kernel_rfl, rfl, rfl, by kernel_rfl⟩  -- dripstone/lex.Scan
theorem at24 : prog.funcs[24]? = some f24 := by kernel_rfl
def pl24 : Nat → Plan
  | _ => []
noncomputable def D24 (ann : Nat → LAnn) : FnD := ⟨f24.body.getD .skip, f24.ntmps, f24.results.toList, pl24, ann⟩
theorem fnok24 (ann : Nat → LAnn) : FnOk prog 24 (D24 ann) := ⟨f24, at24, by kernel_rfl, by kernel_rfl, rfl, rfl, by kernel_rfl⟩  -- dripstone/dripstoneref01.Scan
theorem at25 : prog.funcs[25]? = some f25 := by kernel_rfl
def pl25 : Nat → Plan
  | 6 => [(0, []), (1, [0]), (2, []), (3, []), (4, [0, 1, 2, 3]), (5, [0, 1, 2, 3, 4]), (6, [0, 1, 2, 3]), (7, [0, 1, 2, 3]), (8, [])]
  | _ => []
noncomputable def D25 (ann : Nat → LAnn) : FnD := ⟨f25.body.getD .skip, f25.ntmps, f25.results.toList, pl25, ann⟩
theorem fnok25 (ann : Nat → LAnn) : FnOk prog 25 (D25 ann) := ⟨f25, at25, by kernel_rfl, by kernel_rfl, rfl, rfl, by kernel_rfl⟩  -- dripstone/dripstoneref01.SameTokens
theorem at26 : prog.funcs[26]? = some f26 := by kernel_rfl
def pl26 : Nat → Plan
  | _ => []
noncomputable def D26 (ann : Nat → LAnn) : FnD := ⟨f26.body.getD .skip, f26.ntmps, f26.results.toList, pl26, ann⟩
theorem fnok26 (ann : Nat → LAnn) : FnOk prog 26 (D26 ann) := ⟨f26, at26, by kernel_rfl, by kernel_rfl, rfl, rfl, by kernel_rfl⟩  -- dripstone/lex.Kind
theorem at27 : prog.funcs[27]? = some f27 := by kernel_rfl
def pl27 : Nat → Plan
  | _ => []
noncomputable def D27 (ann : Nat → LAnn) : FnD := ⟨f27.body.getD .skip, f27.ntmps, f27.results.toList, pl27, ann⟩
theorem fnok27 (ann : Nat → LAnn) : FnOk prog 27 (D27 ann) := ⟨f27, at27, by kernel_rfl, by kernel_rfl, rfl, rfl, by kernel_rfl⟩  -- dripstone/dripstoneref01.Kind
theorem at28 : prog.funcs[28]? = some f28 := by kernel_rfl
def pl28 : Nat → Plan
  | _ => []
noncomputable def D28 (ann : Nat → LAnn) : FnD := ⟨f28.body.getD .skip, f28.ntmps, f28.results.toList, pl28, ann⟩
theorem fnok28 (ann : Nat → LAnn) : FnOk prog 28 (D28 ann) := ⟨f28, at28, by kernel_rfl, by kernel_rfl, rfl, rfl, by kernel_rfl⟩  -- dripstone/dripstonelaw01.thin
theorem at29 : prog.funcs[29]? = some f29 := by kernel_rfl
def pl29 : Nat → Plan
  | _ => []
noncomputable def D29 (ann : Nat → LAnn) : FnD := ⟨f29.body.getD .skip, f29.ntmps, f29.results.toList, pl29, ann⟩
theorem fnok29 (ann : Nat → LAnn) : FnOk prog 29 (D29 ann) := ⟨f29, at29, by kernel_rfl, by kernel_rfl, rfl, rfl, by kernel_rfl⟩  -- dripstone/lex.Join
theorem at30 : prog.funcs[30]? = some f30 := by kernel_rfl
def pl30 : Nat → Plan
  | 13 => [(0, []), (1, []), (2, []), (3, []), (4, [3]), (5, [3]), (6, []), (7, []), (8, [3, 4, 5, 6, 7]), (9, [3, 4, 5, 6, 7, 8]), (10, [3, 4, 5, 6, 7]), (11, [3, 4, 5, 6, 7]), (12, []), (13, [])]
  | _ => []
noncomputable def D30 (ann : Nat → LAnn) : FnD := ⟨f30.body.getD .skip, f30.ntmps, f30.results.toList, pl30, ann⟩
theorem fnok30 (ann : Nat → LAnn) : FnOk prog 30 (D30 ann) := ⟨f30, at30, by kernel_rfl, by kernel_rfl, rfl, rfl, by kernel_rfl⟩  -- dripstone/dripstoneref01.Join
theorem at31 : prog.funcs[31]? = some f31 := by kernel_rfl
def pl31 : Nat → Plan
  | 9 => [(0, []), (1, [0]), (2, []), (3, [0, 1, 2]), (4, [0, 1, 2, 3]), (5, [0, 1, 2]), (6, [3, 4, 5]), (7, [])]
  | _ => []
noncomputable def D31 (ann : Nat → LAnn) : FnD := ⟨f31.body.getD .skip, f31.ntmps, f31.results.toList, pl31, ann⟩
theorem fnok31 (ann : Nat → LAnn) : FnOk prog 31 (D31 ann) := ⟨f31, at31, by kernel_rfl, by kernel_rfl, rfl, rfl, by kernel_rfl⟩  -- dripstone/lex.Diff
theorem at32 : prog.funcs[32]? = some f32 := by kernel_rfl
def pl32 : Nat → Plan
  | 8 => [(0, []), (1, [0]), (2, [0]), (3, []), (4, []), (5, []), (6, [5]), (7, [5]), (8, []), (9, []), (10, []), (11, []), (12, [11]), (13, []), (14, [11, 12, 13]), (15, [11, 12, 13, 14]), (16, [11, 12, 13]), (17, []), (18, [])]
  | 11 => [(0, []), (1, [0]), (2, []), (3, [0, 1, 2]), (4, [0, 1, 2]), (5, []), (6, []), (7, []), (8, [7]), (9, []), (10, [7, 8, 9]), (11, [7, 8, 9]), (12, []), (13, []), (14, []), (15, []), (16, [15]), (17, [15]), (18, [15]), (19, [15, 16, 17, 18]), (20, [15]), (21, []), (22, [15, 16, 17, 18, 19, 20, 21]), (23, [15, 16, 17, 18, 19, 20, 21, 22]), (24, [15, 16, 17, 18, 19, 20, 21, 22]), (25, [15, 16, 17, 18, 19, 20, 21, 22]), (26, [15, 16, 17, 18, 19, 20, 21, 22, 23, 24, 25]), (27, [15, 16, 17, 18, 19, 20, 21, 22]), (28, [15, 16, 17, 18, 19, 20, 21]), (29, []), (30, [])]
  | _ => []
noncomputable def D32 (ann : Nat → LAnn) : FnD := ⟨f32.body.getD .skip, f32.ntmps, f32.results.toList, pl32, ann⟩
theorem fnok32 (ann : Nat → LAnn) : FnOk prog 32 (D32 ann) := ⟨f32, at32, by kernel_rfl, by kernel_rfl, rfl, rfl, by kernel_rfl⟩  -- dripstone/dripstoneref01.Diff
theorem at33 : prog.funcs[33]? = some f33 := by kernel_rfl
def pl33 : Nat → Plan
  | 6 => [(0, []), (1, [0]), (2, [0]), (3, []), (4, [0, 1, 2, 3]), (5, [0, 1, 2, 3]), (6, []), (7, [0, 1, 2, 3, 4, 5, 6]), (8, [0, 1, 2, 3, 4, 5, 6, 7]), (9, [0, 1, 2, 3, 4, 5, 6, 7]), (10, [0, 1, 2, 3, 4, 5, 6]), (11, []), (12, []), (13, []), (14, []), (15, [14]), (16, [14, 15]), (17, [15, 16]), (18, [16]), (19, [])]
  | 10 => [(0, []), (1, []), (2, [0, 1]), (3, [0, 1]), (4, [0, 1, 2, 3]), (5, [0, 1, 2, 3]), (6, [0, 1]), (7, []), (8, []), (9, []), (10, [9]), (11, [9]), (12, []), (13, []), (14, []), (15, [9, 10, 11, 12, 13, 14]), (16, [9, 10, 11, 12, 13, 14]), (17, []), (18, []), (19, []), (20, []), (21, [20]), (22, [20]), (23, []), (24, []), (25, [20, 21, 22, 23, 24]), (26, [20, 21, 22, 23, 24, 25]), (27, [20, 21, 22, 23, 24, 25]), (28, [20, 21, 22, 23, 24]), (29, [20, 21, 22, 23, 24]), (30, []), (31, [])]
  | 13 => [(0, []), (1, []), (2, [0, 1]), (3, [0, 1]), (4, [0, 1, 2, 3]), (5, [0, 1, 2, 3]), (6, [0, 1]), (7, [0, 1, 2, 3, 4, 5, 6]), (8, [0, 1, 2, 3, 4, 5, 6]), (9, [0, 1]), (10, []), (11, []), (12, []), (13, [12]), (14, []), (15, []), (16, [12, 13, 14, 15]), (17, [12, 13, 14, 15]), (18, []), (19, []), (20, []), (21, []), (22, [21]), (23, []), (24, [21, 22, 23]), (25, [21, 22, 23, 24]), (26, []), (27, [21, 22, 23, 24, 25, 26]), (28, []), (29, [])]
  | 15 => [(0, []), (1, []), (2, [0, 1]), (3, [0, 1, 2]), (4, [0, 1, 2]), (5, [0, 1, 2, 3, 4]), (6, [0, 1, 2, 3, 4]), (7, [0, 1, 2, 3, 4, 5, 6]), (8, [0, 1, 2, 3, 4, 5, 6]), (9, [0, 1, 2, 3, 4]), (10, [0, 1]), (11, []), (12, []), (13, [])]
  | _ => []
noncomputable def D33 (ann : Nat → LAnn) : FnD := ⟨f33.body.getD .skip, f33.ntmps, f33.results.toList, pl33, ann⟩
theorem fnok33 (ann : Nat → LAnn) : FnOk prog 33 (D33 ann) := ⟨f33, at33, by kernel_rfl, by kernel_rfl, rfl, rfl, by kernel_rfl⟩  -- dripstone/lex.Rescan
theorem at34 : prog.funcs[34]? = some f34 := by kernel_rfl
def pl34 : Nat → Plan
  | 6 => [(0, []), (1, [0]), (2, [0]), (3, []), (4, [0, 1, 2, 3]), (5, [0, 1, 2, 3]), (6, []), (7, [0, 1, 2, 3, 4, 5, 6]), (8, [0, 1, 2, 3, 4, 5, 6, 7]), (9, [0, 1, 2, 3, 4, 5, 6, 7]), (10, [0, 1, 2, 3, 4, 5, 6]), (11, []), (12, [])]
  | 11 => [(0, []), (1, []), (2, [0, 1]), (3, [0, 1]), (4, []), (5, []), (6, []), (7, []), (8, [6, 7]), (9, [6, 7]), (10, []), (11, []), (12, []), (13, []), (14, [13]), (15, [13]), (16, []), (17, []), (18, []), (19, [13, 14, 15, 16, 17, 18]), (20, [13, 14, 15, 16, 17, 18]), (21, []), (22, []), (23, []), (24, []), (25, [24]), (26, [24]), (27, []), (28, []), (29, [24, 25, 26, 27, 28]), (30, [24, 25, 26, 27, 28, 29]), (31, [24, 25, 26, 27, 28, 29]), (32, [24, 25, 26, 27, 28]), (33, [24, 25, 26, 27, 28]), (34, []), (35, [])]
  | 14 => [(18, []), (19, [18]), (0, [18, 19]), (1, [18, 19, 0]), (2, [18, 19, 0]), (3, [18, 19, 0]), (4, [18, 19, 0, 1, 2, 3]), (5, [18, 19, 0, 1, 2, 3]), (6, [18, 19, 0]), (7, [18, 19]), (8, [18, 19]), (9, [18, 19, 0, 1, 2, 3, 4, 5, 6, 7, 8]), (10, [18, 19, 0, 1, 2, 3, 4, 5, 6, 7, 8, 9]), (11, [18, 19, 0, 1, 2, 3, 4, 5, 6, 7, 8, 9]), (12, [18, 19, 0, 1, 2, 3, 4, 5, 6, 7, 8, 9]), (13, [18, 19, 0, 1, 2, 3, 4, 5, 6, 7, 8, 9, 10, 11, 12]), (14, [18, 19, 0, 1, 2, 3, 4, 5, 6, 7, 8, 9, 10, 11, 12]), (15, [18, 19, 0, 1, 2, 3, 4, 5, 6, 7, 8, 9]), (16, [18, 19, 0, 1, 2, 3, 4, 5, 6, 7, 8]), (17, [18, 19, 0, 1, 2, 3, 4, 5, 6, 7, 8]), (20, [9, 10, 11, 12, 13, 14, 15, 16, 17]), (21, [])]
  | 17 => [(0, []), (1, []), (2, [0, 1]), (3, [0, 1, 2]), (4, [0, 1, 2]), (5, [0, 1, 2, 3, 4]), (6, [0, 1, 2, 3, 4]), (7, [0, 1, 2, 3, 4, 5, 6]), (8, [0, 1, 2, 3, 4, 5, 6]), (9, [0, 1, 2, 3, 4]), (10, [0, 1]), (11, []), (12, []), (13, [])]
  | _ => []
noncomputable def D34 (ann : Nat → LAnn) : FnD := ⟨f34.body.getD .skip, f34.ntmps, f34.results.toList, pl34, ann⟩
theorem fnok34 (ann : Nat → LAnn) : FnOk prog 34 (D34 ann) := ⟨f34, at34, by kernel_rfl, by kernel_rfl, rfl, rfl, by kernel_rfl⟩  -- dripstone/dripstoneref01.Rescan
theorem at35 : prog.funcs[35]? = some f35 := by kernel_rfl
def pl35 : Nat → Plan
  | _ => []
noncomputable def D35 (ann : Nat → LAnn) : FnD := ⟨f35.body.getD .skip, f35.ntmps, f35.results.toList, pl35, ann⟩
theorem fnok35 (ann : Nat → LAnn) : FnOk prog 35 (D35 ann) := ⟨f35, at35, by kernel_rfl, by kernel_rfl, rfl, rfl, by kernel_rfl⟩  -- dripstone/dripstonelaw01.SameChange
theorem at36 : prog.funcs[36]? = some f36 := by kernel_rfl
def pl36 : Nat → Plan
  | 6 => [(0, []), (1, [0]), (2, []), (3, []), (4, []), (5, [0, 1, 2, 3, 4]), (6, [0, 1, 2, 3, 4, 5]), (7, [0, 1, 2, 3, 4]), (8, [0, 1, 2, 3, 4]), (9, [0, 1, 2, 3, 4]), (10, []), (11, []), (12, []), (13, [12]), (14, []), (15, []), (16, []), (17, [12, 13, 14, 15, 16]), (18, [12, 13, 14, 15, 16, 17]), (19, [12, 13, 14, 15, 16]), (20, [12, 13, 14, 15, 16]), (21, [12, 13, 14, 15, 16]), (22, []), (23, [])]
  | _ => []
noncomputable def D36 (ann : Nat → LAnn) : FnD := ⟨f36.body.getD .skip, f36.ntmps, f36.results.toList, pl36, ann⟩
theorem fnok36 (ann : Nat → LAnn) : FnOk prog 36 (D36 ann) := ⟨f36, at36, by kernel_rfl, by kernel_rfl, rfl, rfl, by kernel_rfl⟩  -- dripstone/dripstoneref01.Alike
theorem at37 : prog.funcs[37]? = some f37 := by kernel_rfl
def pl37 : Nat → Plan
  | _ => []
noncomputable def D37 (ann : Nat → LAnn) : FnD := ⟨f37.body.getD .skip, f37.ntmps, f37.results.toList, pl37, ann⟩
theorem fnok37 (ann : Nat → LAnn) : FnOk prog 37 (D37 ann) := ⟨f37, at37, by kernel_rfl, by kernel_rfl, rfl, rfl, by kernel_rfl⟩  -- dripstone/api.Signs
theorem at38 : prog.funcs[38]? = some f38 := by kernel_rfl
def pl38 : Nat → Plan
  | _ => []
noncomputable def D38 (ann : Nat → LAnn) : FnD := ⟨f38.body.getD .skip, f38.ntmps, f38.results.toList, pl38, ann⟩
theorem fnok38 (ann : Nat → LAnn) : FnOk prog 38 (D38 ann) := ⟨f38, at38, by kernel_rfl, by kernel_rfl, rfl, rfl, by kernel_rfl⟩  -- dripstone/api.Keywords
theorem at39 : prog.funcs[39]? = some f39 := by kernel_rfl
def pl39 : Nat → Plan
  | _ => []
noncomputable def D39 (ann : Nat → LAnn) : FnD := ⟨f39.body.getD .skip, f39.ntmps, f39.results.toList, pl39, ann⟩
theorem fnok39 (ann : Nat → LAnn) : FnOk prog 39 (D39 ann) := ⟨f39, at39, by kernel_rfl, by kernel_rfl, rfl, rfl, by kernel_rfl⟩  -- dripstone/lex.Apply
theorem at40 : prog.funcs[40]? = some f40 := by kernel_rfl
def pl40 : Nat → Plan
  | 11 => [(0, []), (1, [0]), (2, [0]), (3, []), (4, []), (5, [0, 1, 2, 3, 4]), (6, [0, 1, 2, 3, 4]), (7, []), (8, [])]
  | _ => []
noncomputable def D40 (ann : Nat → LAnn) : FnD := ⟨f40.body.getD .skip, f40.ntmps, f40.results.toList, pl40, ann⟩
theorem fnok40 (ann : Nat → LAnn) : FnOk prog 40 (D40 ann) := ⟨f40, at40, by kernel_rfl, by kernel_rfl, rfl, rfl, by kernel_rfl⟩  -- dripstone/lex.Patch
theorem at41 : prog.funcs[41]? = some f41 := by kernel_rfl
def pl41 : Nat → Plan
  | 7 => [(0, []), (1, [0]), (2, [0]), (3, []), (4, []), (5, [0, 1, 2, 3, 4]), (6, [0, 1, 2, 3, 4]), (7, []), (8, [])]
  | _ => []
noncomputable def D41 (ann : Nat → LAnn) : FnD := ⟨f41.body.getD .skip, f41.ntmps, f41.results.toList, pl41, ann⟩
theorem fnok41 (ann : Nat → LAnn) : FnOk prog 41 (D41 ann) := ⟨f41, at41, by kernel_rfl, by kernel_rfl, rfl, rfl, by kernel_rfl⟩  -- dripstone/dripstoneref01.Patch
theorem at42 : prog.funcs[42]? = some f42 := by kernel_rfl
def pl42 : Nat → Plan
  | 4 => [(0, []), (1, []), (2, []), (3, [0, 1, 2]), (4, [0, 1, 2]), (5, [0, 1, 2, 3, 4]), (6, [0, 1, 2, 3, 4, 5]), (7, [0, 1, 2, 3, 4, 5]), (8, [0, 1, 2, 3, 4, 5]), (9, [0, 1, 2, 3, 4, 5, 6, 7, 8]), (10, [0, 1, 2, 3, 4, 5, 6, 7, 8]), (11, [0, 1, 2, 3, 4, 5, 6, 7, 8]), (12, [0, 1, 2, 3, 4]), (13, []), (14, []), (15, [])]
  | _ => []
noncomputable def D42 (ann : Nat → LAnn) : FnD := ⟨f42.body.getD .skip, f42.ntmps, f42.results.toList, pl42, ann⟩
theorem fnok42 (ann : Nat → LAnn) : FnOk prog 42 (D42 ann) := ⟨f42, at42, by kernel_rfl, by kernel_rfl, rfl, rfl, by kernel_rfl⟩  -- dripstone/lex.Undo
theorem at43 : prog.funcs[43]? = some f43 := by kernel_rfl
def pl43 : Nat → Plan
  | 6 => [(0, []), (1, [0]), (2, [0]), (3, []), (4, [0, 1, 2, 3]), (5, [0, 1, 2, 3]), (6, []), (7, [0, 1, 2, 3, 4, 5, 6]), (8, [0, 1, 2, 3, 4, 5, 6, 7]), (9, [0, 1, 2, 3, 4, 5, 6, 7]), (10, [0, 1, 2, 3, 4, 5, 6]), (11, []), (12, [])]
  | _ => []
noncomputable def D43 (ann : Nat → LAnn) : FnD := ⟨f43.body.getD .skip, f43.ntmps, f43.results.toList, pl43, ann⟩
theorem fnok43 (ann : Nat → LAnn) : FnOk prog 43 (D43 ann) := ⟨f43, at43, by kernel_rfl, by kernel_rfl, rfl, rfl, by kernel_rfl⟩  -- dripstone/dripstoneref01.Apply
theorem at44 : prog.funcs[44]? = some f44 := by kernel_rfl
def pl44 : Nat → Plan
  | 4 => [(0, []), (1, []), (2, [0, 1]), (3, [0, 1]), (4, [0, 1, 2, 3]), (5, [0, 1, 2, 3]), (6, [0, 1, 2, 3]), (7, [0, 1]), (8, [0, 1, 2, 3, 4, 5, 6, 7]), (9, [0, 1, 2, 3, 4, 5, 6, 7, 8]), (10, [0, 1, 2, 3, 4, 5, 6, 7, 8]), (11, [0, 1, 2, 3, 4, 5, 6, 7, 8, 9, 10]), (12, [0, 1, 2, 3, 4, 5, 6, 7, 8, 9, 10]), (13, [0, 1, 2, 3, 4, 5, 6, 7]), (14, []), (15, []), (16, [])]
  | _ => []
noncomputable def D44 (ann : Nat → LAnn) : FnD := ⟨f44.body.getD .skip, f44.ntmps, f44.results.toList, pl44, ann⟩
theorem fnok44 (ann : Nat → LAnn) : FnOk prog 44 (D44 ann) := ⟨f44, at44, by kernel_rfl, by kernel_rfl, rfl, rfl, by kernel_rfl⟩  -- dripstone/dripstoneref01.Undo
theorem at45 : prog.funcs[45]? = some f45 := by kernel_rfl
def pl45 : Nat → Plan
  | 8 => [(0, []), (1, []), (2, [0, 1]), (3, [0, 1]), (4, [])]
  | 9 => [(0, []), (1, []), (2, [0, 1]), (3, [0, 1]), (4, [0, 1, 2, 3]), (5, [0, 1, 2, 3]), (6, [0, 1]), (7, []), (8, []), (9, [])]
  | _ => []
noncomputable def D45 (ann : Nat → LAnn) : FnD := ⟨f45.body.getD .skip, f45.ntmps, f45.results.toList, pl45, ann⟩
theorem fnok45 (ann : Nat → LAnn) : FnOk prog 45 (D45 ann) := ⟨f45, at45, by kernel_rfl, by kernel_rfl, rfl, rfl, by kernel_rfl⟩  -- dripstone/lex.Both
theorem at46 : prog.funcs[46]? = some f46 := by kernel_rfl
def pl46 : Nat → Plan
  | _ => []
noncomputable def D46 (ann : Nat → LAnn) : FnD := ⟨f46.body.getD .skip, f46.ntmps, f46.results.toList, pl46, ann⟩
theorem fnok46 (ann : Nat → LAnn) : FnOk prog 46 (D46 ann) := ⟨f46, at46, by kernel_rfl, by kernel_rfl, rfl, rfl, by kernel_rfl⟩  -- dripstone/dripstoneref01.Both
theorem at47 : prog.funcs[47]? = some f47 := by kernel_rfl
def pl47 : Nat → Plan
  | 7 => [(0, []), (1, [0]), (2, []), (3, [0, 1, 2]), (4, [0, 1, 2, 3]), (5, [0, 1, 2]), (6, [0, 1, 2]), (7, []), (8, [0, 1, 2, 3, 4, 5, 6, 7]), (9, [0, 1, 2, 3, 4, 5, 6, 7, 8]), (10, [0, 1, 2, 3, 4, 5, 6, 7]), (11, []), (12, [])]
  | _ => []
noncomputable def D47 (ann : Nat → LAnn) : FnD := ⟨f47.body.getD .skip, f47.ntmps, f47.results.toList, pl47, ann⟩
theorem fnok47 (ann : Nat → LAnn) : FnOk prog 47 (D47 ann) := ⟨f47, at47, by kernel_rfl, by kernel_rfl, rfl, rfl, by kernel_rfl⟩  -- dripstone/lex.Blank
theorem at48 : prog.funcs[48]? = some f48 := by kernel_rfl
def pl48 : Nat → Plan
  | _ => []
noncomputable def D48 (ann : Nat → LAnn) : FnD := ⟨f48.body.getD .skip, f48.ntmps, f48.results.toList, pl48, ann⟩
theorem fnok48 (ann : Nat → LAnn) : FnOk prog 48 (D48 ann) := ⟨f48, at48, by kernel_rfl, by kernel_rfl, rfl, rfl, by kernel_rfl⟩  -- dripstone/lex.Comments
theorem at49 : prog.funcs[49]? = some f49 := by kernel_rfl
def pl49 : Nat → Plan
  | _ => []
noncomputable def D49 (ann : Nat → LAnn) : FnD := ⟨f49.body.getD .skip, f49.ntmps, f49.results.toList, pl49, ann⟩
theorem fnok49 (ann : Nat → LAnn) : FnOk prog 49 (D49 ann) := ⟨f49, at49, by kernel_rfl, by kernel_rfl, rfl, rfl, by kernel_rfl⟩  -- dripstone/dripstoneref01.Comments
theorem at50 : prog.funcs[50]? = some f50 := by kernel_rfl
def pl50 : Nat → Plan
  | _ => []
noncomputable def D50 (ann : Nat → LAnn) : FnD := ⟨f50.body.getD .skip, f50.ntmps, f50.results.toList, pl50, ann⟩
theorem fnok50 (ann : Nat → LAnn) : FnOk prog 50 (D50 ann) := ⟨f50, at50, by kernel_rfl, by kernel_rfl, rfl, rfl, by kernel_rfl⟩  -- dripstone/dripstoneref01.Blank
theorem at51 : prog.funcs[51]? = some f51 := by kernel_rfl
def pl51 : Nat → Plan
  | 6 => [(0, []), (1, [0]), (2, []), (3, []), (4, [0, 1, 2, 3]), (5, [0, 1, 2, 3, 4]), (6, [0, 1, 2, 3]), (7, [0, 1, 2, 3]), (8, [])]
  | _ => []
noncomputable def D51 (ann : Nat → LAnn) : FnD := ⟨f51.body.getD .skip, f51.ntmps, f51.results.toList, pl51, ann⟩
theorem fnok51 (ann : Nat → LAnn) : FnOk prog 51 (D51 ann) := ⟨f51, at51, by kernel_rfl, by kernel_rfl, rfl, rfl, by kernel_rfl⟩  -- dripstone/dripstonelaw01.same
theorem at52 : prog.funcs[52]? = some f52 := by kernel_rfl
def pl52 : Nat → Plan
  | _ => []
noncomputable def D52 (ann : Nat → LAnn) : FnD := ⟨f52.body.getD .skip, f52.ntmps, f52.results.toList, pl52, ann⟩
theorem fnok52 (ann : Nat → LAnn) : FnOk prog 52 (D52 ann) := ⟨f52, at52, by kernel_rfl, by kernel_rfl, rfl, rfl, by kernel_rfl⟩  -- dripstone/lex.Where
theorem at53 : prog.funcs[53]? = some f53 := by kernel_rfl
def pl53 : Nat → Plan
  | 5 => [(0, []), (1, []), (2, []), (3, []), (4, []), (5, []), (6, [4, 5]), (7, [4, 5]), (8, []), (9, []), (10, []), (11, []), (12, []), (13, []), (14, []), (15, []), (16, []), (17, []), (18, [16, 17]), (19, [16, 17, 18]), (20, [16, 17, 18]), (21, [16, 17, 18]), (22, [16, 17]), (23, [16, 17]), (24, [16, 17]), (25, [16, 17]), (26, []), (27, [])]
  | _ => []
noncomputable def D53 (ann : Nat → LAnn) : FnD := ⟨f53.body.getD .skip, f53.ntmps, f53.results.toList, pl53, ann⟩
theorem fnok53 (ann : Nat → LAnn) : FnOk prog 53 (D53 ann) := ⟨f53, at53, by kernel_rfl, by kernel_rfl, rfl, rfl, by kernel_rfl⟩  -- dripstone/lex.At
theorem at54 : prog.funcs[54]? = some f54 := by kernel_rfl
def pl54 : Nat → Plan
  | _ => []
noncomputable def D54 (ann : Nat → LAnn) : FnD := ⟨f54.body.getD .skip, f54.ntmps, f54.results.toList, pl54, ann⟩
theorem fnok54 (ann : Nat → LAnn) : FnOk prog 54 (D54 ann) := ⟨f54, at54, by kernel_rfl, by kernel_rfl, rfl, rfl, by kernel_rfl⟩  -- dripstone/dripstoneref01.Where
theorem at55 : prog.funcs[55]? = some f55 := by kernel_rfl
def pl55 : Nat → Plan
  | _ => []
noncomputable def D55 (ann : Nat → LAnn) : FnD := ⟨f55.body.getD .skip, f55.ntmps, f55.results.toList, pl55, ann⟩
theorem fnok55 (ann : Nat → LAnn) : FnOk prog 55 (D55 ann) := ⟨f55, at55, by kernel_rfl, by kernel_rfl, rfl, rfl, by kernel_rfl⟩  -- dripstone/dripstoneref01.At
theorem at56 : prog.funcs[56]? = some f56 := by kernel_rfl
def pl56 : Nat → Plan
  | _ => []
noncomputable def D56 (ann : Nat → LAnn) : FnD := ⟨f56.body.getD .skip, f56.ntmps, f56.results.toList, pl56, ann⟩
theorem fnok56 (ann : Nat → LAnn) : FnOk prog 56 (D56 ann) := ⟨f56, at56, by kernel_rfl, by kernel_rfl, rfl, rfl, by kernel_rfl⟩  -- dripstone/lex.check
theorem at57 : prog.funcs[57]? = some f57 := by kernel_rfl
def pl57 : Nat → Plan
  | _ => []
noncomputable def D57 (ann : Nat → LAnn) : FnD := ⟨f57.body.getD .skip, f57.ntmps, f57.results.toList, pl57, ann⟩
theorem fnok57 (ann : Nat → LAnn) : FnOk prog 57 (D57 ann) := ⟨f57, at57, by kernel_rfl, by kernel_rfl, rfl, rfl, by kernel_rfl⟩  -- dripstone/lex.gap
theorem at58 : prog.funcs[58]? = some f58 := by kernel_rfl
def pl58 : Nat → Plan
  | 6 => [(0, []), (1, [0]), (2, [0]), (3, [])]
  | 12 => [(0, []), (1, [0]), (2, [0]), (3, [0]), (4, []), (5, [])]
  | _ => []
noncomputable def D58 (ann : Nat → LAnn) : FnD := ⟨f58.body.getD .skip, f58.ntmps, f58.results.toList, pl58, ann⟩
theorem fnok58 (ann : Nat → LAnn) : FnOk prog 58 (D58 ann) := ⟨f58, at58, by kernel_rfl, by kernel_rfl, rfl, rfl, by kernel_rfl⟩  -- dripstone/lex.token
theorem at59 : prog.funcs[59]? = some f59 := by kernel_rfl
def pl59 : Nat → Plan
  | _ => []
noncomputable def D59 (ann : Nat → LAnn) : FnD := ⟨f59.body.getD .skip, f59.ntmps, f59.results.toList, pl59, ann⟩
theorem fnok59 (ann : Nat → LAnn) : FnOk prog 59 (D59 ann) := ⟨f59, at59, by kernel_rfl, by kernel_rfl, rfl, rfl, by kernel_rfl⟩  -- dripstone/dripstoneref01.Check
theorem at60 : prog.funcs[60]? = some f60 := by kernel_rfl
def pl60 : Nat → Plan
  | _ => []
noncomputable def D60 (ann : Nat → LAnn) : FnD := ⟨f60.body.getD .skip, f60.ntmps, f60.results.toList, pl60, ann⟩
theorem fnok60 (ann : Nat → LAnn) : FnOk prog 60 (D60 ann) := ⟨f60, at60, by kernel_rfl, by kernel_rfl, rfl, rfl, by kernel_rfl⟩  -- dripstone/dripstoneref01.Gap
theorem at61 : prog.funcs[61]? = some f61 := by kernel_rfl
def pl61 : Nat → Plan
  | 6 => [(0, []), (1, [0]), (2, []), (3, []), (4, []), (5, [0, 1, 2, 3, 4]), (6, [0, 1, 2, 3, 4]), (7, [0, 1, 2, 3, 4]), (8, []), (9, []), (10, []), (11, [10]), (12, [10, 11]), (13, [10]), (14, [10]), (15, [10]), (16, []), (17, [10, 11, 12, 13, 14, 15, 16]), (18, [10, 11, 12, 13, 14, 15, 16]), (19, []), (20, []), (21, []), (22, []), (23, [22]), (24, [22, 23]), (25, [22, 23, 24]), (26, [22, 23, 24, 25]), (27, [22, 23, 24]), (28, [22, 23, 24]), (29, [22, 23, 24]), (30, [22, 23]), (31, []), (32, [22, 23, 24, 25, 26, 27, 28, 29, 30, 31]), (33, [22, 23, 24, 25, 26, 27, 28, 29, 30, 31, 32]), (34, [22, 23, 24, 25, 26, 27, 28, 29, 30, 31]), (35, [22, 23, 24, 25, 26, 27, 28, 29, 30, 31]), (36, []), (37, [])]
  | 7 => [(0, []), (1, [0]), (2, []), (3, []), (4, [0, 1, 2, 3]), (5, [0, 1, 2, 3]), (6, []), (7, [])]
  | _ => []
noncomputable def D61 (ann : Nat → LAnn) : FnD := ⟨f61.body.getD .skip, f61.ntmps, f61.results.toList, pl61, ann⟩
theorem fnok61 (ann : Nat → LAnn) : FnOk prog 61 (D61 ann) := ⟨f61, at61, by kernel_rfl, by kernel_rfl, rfl, rfl, by kernel_rfl⟩  -- dripstone/dripstoneref01.Token
theorem at62 : prog.funcs[62]? = some f62 := by kernel_rfl
def pl62 : Nat → Plan
  | _ => []
noncomputable def D62 (ann : Nat → LAnn) : FnD := ⟨f62.body.getD .skip, f62.ntmps, f62.results.toList, pl62, ann⟩
theorem fnok62 (ann : Nat → LAnn) : FnOk prog 62 (D62 ann) := ⟨f62, at62, by kernel_rfl, by kernel_rfl, rfl, rfl, by kernel_rfl⟩  -- dripstone/lex.all[dripstone/api.Lexeme]
theorem at63 : prog.funcs[63]? = some f63 := by kernel_rfl
def pl63 : Nat → Plan
  | _ => []
noncomputable def D63 (ann : Nat → LAnn) : FnD := ⟨f63.body.getD .skip, f63.ntmps, f63.results.toList, pl63, ann⟩
theorem fnok63 (ann : Nat → LAnn) : FnOk prog 63 (D63 ann) := ⟨f63, at63, by kernel_rfl, by kernel_rfl, rfl, rfl, by kernel_rfl⟩  -- dripstone/lex.isRight
theorem at65 : prog.funcs[65]? = some f65 := by kernel_rfl
def pl65 : Nat → Plan
  | _ => []
noncomputable def D65 (ann : Nat → LAnn) : FnD := ⟨f65.body.getD .skip, f65.ntmps, f65.results.toList, pl65, ann⟩
theorem fnok65 (ann : Nat → LAnn) : FnOk prog 65 (D65 ann) := ⟨f65, at65, by kernel_rfl, by kernel_rfl, rfl, rfl, by kernel_rfl⟩  -- dripstone/dripstoneref01.Apart
theorem at66 : prog.funcs[66]? = some f66 := by kernel_rfl
def pl66 : Nat → Plan
  | _ => []
noncomputable def D66 (ann : Nat → LAnn) : FnD := ⟨f66.body.getD .skip, f66.ntmps, f66.results.toList, pl66, ann⟩
theorem fnok66 (ann : Nat → LAnn) : FnOk prog 66 (D66 ann) := ⟨f66, at66, by kernel_rfl, by kernel_rfl, rfl, rfl, by kernel_rfl⟩  -- dripstone/lex.alike
theorem at67 : prog.funcs[67]? = some f67 := by kernel_rfl
def pl67 : Nat → Plan
  | _ => []
noncomputable def D67 (ann : Nat → LAnn) : FnD := ⟨f67.body.getD .skip, f67.ntmps, f67.results.toList, pl67, ann⟩
theorem fnok67 (ann : Nat → LAnn) : FnOk prog 67 (D67 ann) := ⟨f67, at67, by kernel_rfl, by kernel_rfl, rfl, rfl, by kernel_rfl⟩  -- dripstone/lex.fromFront
theorem at68 : prog.funcs[68]? = some f68 := by kernel_rfl
def pl68 : Nat → Plan
  | _ => []
noncomputable def D68 (ann : Nat → LAnn) : FnD := ⟨f68.body.getD .skip, f68.ntmps, f68.results.toList, pl68, ann⟩
theorem fnok68 (ann : Nat → LAnn) : FnOk prog 68 (D68 ann) := ⟨f68, at68, by kernel_rfl, by kernel_rfl, rfl, rfl, by kernel_rfl⟩  -- dripstone/lex.fromBack
theorem at69 : prog.funcs[69]? = some f69 := by kernel_rfl
def pl69 : Nat → Plan
  | _ => []
noncomputable def D69 (ann : Nat → LAnn) : FnD := ⟨f69.body.getD .skip, f69.ntmps, f69.results.toList, pl69, ann⟩
theorem fnok69 (ann : Nat → LAnn) : FnOk prog 69 (D69 ann) := ⟨f69, at69, by kernel_rfl, by kernel_rfl, rfl, rfl, by kernel_rfl⟩  -- dripstone/lex.Rescan$1
theorem at70 : prog.funcs[70]? = some f70 := by kernel_rfl
def pl70 : Nat → Plan
  | _ => []
noncomputable def D70 (ann : Nat → LAnn) : FnD := ⟨f70.body.getD .skip, f70.ntmps, f70.results.toList, pl70, ann⟩
theorem fnok70 (ann : Nat → LAnn) : FnOk prog 70 (D70 ann) := ⟨f70, at70, by kernel_rfl, by kernel_rfl, rfl, rfl, by kernel_rfl⟩  -- dripstone/lex.isSame
theorem at71 : prog.funcs[71]? = some f71 := by kernel_rfl
def pl71 : Nat → Plan
  | _ => []
noncomputable def D71 (ann : Nat → LAnn) : FnD := ⟨f71.body.getD .skip, f71.ntmps, f71.results.toList, pl71, ann⟩
theorem fnok71 (ann : Nat → LAnn) : FnOk prog 71 (D71 ann) := ⟨f71, at71, by kernel_rfl, by kernel_rfl, rfl, rfl, by kernel_rfl⟩  -- dripstone/dripstoneref01.IsEdit
theorem at72 : prog.funcs[72]? = some f72 := by kernel_rfl
def pl72 : Nat → Plan
  | 6 => [(0, []), (1, [0]), (2, [0, 1]), (3, [0, 1, 2]), (4, [0, 1, 2]), (5, [0, 1]), (6, [0, 1, 2, 3, 4, 5]), (7, [0, 1, 2, 3, 4, 5]), (8, [0, 1]), (9, [0, 1, 2, 3, 4, 5, 6, 7, 8]), (10, [0, 1, 2, 3, 4, 5, 6, 7, 8, 9]), (11, [0, 1, 2, 3, 4, 5, 6, 7, 8, 9]), (12, [0, 1, 2, 3, 4, 5, 6, 7, 8]), (13, [0, 1]), (14, []), (15, [])]
  | _ => []
noncomputable def D72 (ann : Nat → LAnn) : FnD := ⟨f72.body.getD .skip, f72.ntmps, f72.results.toList, pl72, ann⟩
theorem fnok72 (ann : Nat → LAnn) : FnOk prog 72 (D72 ann) := ⟨f72, at72, by kernel_rfl, by kernel_rfl, rfl, rfl, by kernel_rfl⟩  -- dripstone/lex.edit
theorem at73 : prog.funcs[73]? = some f73 := by kernel_rfl
def pl73 : Nat → Plan
  | _ => []
noncomputable def D73 (ann : Nat → LAnn) : FnD := ⟨f73.body.getD .skip, f73.ntmps, f73.results.toList, pl73, ann⟩
theorem fnok73 (ann : Nat → LAnn) : FnOk prog 73 (D73 ann) := ⟨f73, at73, by kernel_rfl, by kernel_rfl, rfl, rfl, by kernel_rfl⟩  -- dripstone/lex.isPlace
theorem at74 : prog.funcs[74]? = some f74 := by kernel_rfl
def pl74 : Nat → Plan
  | _ => []
noncomputable def D74 (ann : Nat → LAnn) : FnD := ⟨f74.body.getD .skip, f74.ntmps, f74.results.toList, pl74, ann⟩
theorem fnok74 (ann : Nat → LAnn) : FnOk prog 74 (D74 ann) := ⟨f74, at74, by kernel_rfl, by kernel_rfl, rfl, rfl, by kernel_rfl⟩  -- dripstone/lex.isPlaced
theorem at75 : prog.funcs[75]? = some f75 := by kernel_rfl
def pl75 : Nat → Plan
  | _ => []
noncomputable def D75 (ann : Nat → LAnn) : FnD := ⟨f75.body.getD .skip, f75.ntmps, f75.results.toList, pl75, ann⟩
theorem fnok75 (ann : Nat → LAnn) : FnOk prog 75 (D75 ann) := ⟨f75, at75, by kernel_rfl, by kernel_rfl, rfl, rfl, by kernel_rfl⟩  -- dripstone/dripstoneref01.ArePlaces
theorem at76 : prog.funcs[76]? = some f76 := by kernel_rfl
def pl76 : Nat → Plan
  | _ => []
noncomputable def D76 (ann : Nat → LAnn) : FnD := ⟨f76.body.getD .skip, f76.ntmps, f76.results.toList, pl76, ann⟩
theorem fnok76 (ann : Nat → LAnn) : FnOk prog 76 (D76 ann) := ⟨f76, at76, by kernel_rfl, by kernel_rfl, rfl, rfl, by kernel_rfl⟩  -- (dripstone/lex.edited).end
theorem at77 : prog.funcs[77]? = some f77 := by kernel_rfl
def pl77 : Nat → Plan
  | _ => []
noncomputable def D77 (ann : Nat → LAnn) : FnD := ⟨f77.body.getD .skip, f77.ntmps, f77.results.toList, pl77, ann⟩
theorem fnok77 (ann : Nat → LAnn) : FnOk prog 77 (D77 ann) := ⟨f77, at77, by kernel_rfl, by kernel_rfl, rfl, rfl, by kernel_rfl⟩  -- (dripstone/lex.edited).more
theorem at83 : prog.funcs[83]? = some f83 := by kernel_rfl
def pl83 : Nat → Plan
  | _ => []
noncomputable def D83 (ann : Nat → LAnn) : FnD := ⟨f83.body.getD .skip, f83.ntmps, f83.results.toList, pl83, ann⟩
theorem fnok83 (ann : Nat → LAnn) : FnOk prog 83 (D83 ann) := ⟨f83, at83, by kernel_rfl, by kernel_rfl, rfl, rfl, by kernel_rfl⟩  -- dripstone/lex.isOf
theorem at84 : prog.funcs[84]? = some f84 := by kernel_rfl
def pl84 : Nat → Plan
  | _ => []
noncomputable def D84 (ann : Nat → LAnn) : FnD := ⟨f84.body.getD .skip, f84.ntmps, f84.results.toList, pl84, ann⟩
theorem fnok84 (ann : Nat → LAnn) : FnOk prog 84 (D84 ann) := ⟨f84, at84, by kernel_rfl, by kernel_rfl, rfl, rfl, by kernel_rfl⟩  -- dripstone/lex.comment
theorem at85 : prog.funcs[85]? = some f85 := by kernel_rfl
def pl85 : Nat → Plan
  | _ => []
noncomputable def D85 (ann : Nat → LAnn) : FnD := ⟨f85.body.getD .skip, f85.ntmps, f85.results.toList, pl85, ann⟩
theorem fnok85 (ann : Nat → LAnn) : FnOk prog 85 (D85 ann) := ⟨f85, at85, by kernel_rfl, by kernel_rfl, rfl, rfl, by kernel_rfl⟩  -- dripstone/lex.class
theorem at86 : prog.funcs[86]? = some f86 := by kernel_rfl
def pl86 : Nat → Plan
  | _ => []
noncomputable def D86 (ann : Nat → LAnn) : FnD := ⟨f86.body.getD .skip, f86.ntmps, f86.results.toList, pl86, ann⟩
theorem fnok86 (ann : Nat → LAnn) : FnOk prog 86 (D86 ann) := ⟨f86, at86, by kernel_rfl, by kernel_rfl, rfl, rfl, by kernel_rfl⟩  -- dripstone/lex.while
theorem at87 : prog.funcs[87]? = some f87 := by kernel_rfl
def pl87 : Nat → Plan
  | _ => []
noncomputable def D87 (ann : Nat → LAnn) : FnD := ⟨f87.body.getD .skip, f87.ntmps, f87.results.toList, pl87, ann⟩
theorem fnok87 (ann : Nat → LAnn) : FnOk prog 87 (D87 ann) := ⟨f87, at87, by kernel_rfl, by kernel_rfl, rfl, rfl, by kernel_rfl⟩  -- dripstone/lex.keywords
theorem at89 : prog.funcs[89]? = some f89 := by kernel_rfl
def pl89 : Nat → Plan
  | _ => []
noncomputable def D89 (ann : Nat → LAnn) : FnD := ⟨f89.body.getD .skip, f89.ntmps, f89.results.toList, pl89, ann⟩
theorem fnok89 (ann : Nat → LAnn) : FnOk prog 89 (D89 ann) := ⟨f89, at89, by kernel_rfl, by kernel_rfl, rfl, rfl, by kernel_rfl⟩  -- dripstone/lex.sign
theorem at90 : prog.funcs[90]? = some f90 := by kernel_rfl
def pl90 : Nat → Plan
  | _ => []
noncomputable def D90 (ann : Nat → LAnn) : FnD := ⟨f90.body.getD .skip, f90.ntmps, f90.results.toList, pl90, ann⟩
theorem fnok90 (ann : Nat → LAnn) : FnOk prog 90 (D90 ann) := ⟨f90, at90, by kernel_rfl, by kernel_rfl, rfl, rfl, by kernel_rfl⟩  -- dripstone/dripstoneref01.IsLetter
theorem at91 : prog.funcs[91]? = some f91 := by kernel_rfl
def pl91 : Nat → Plan
  | _ => []
noncomputable def D91 (ann : Nat → LAnn) : FnD := ⟨f91.body.getD .skip, f91.ntmps, f91.results.toList, pl91, ann⟩
theorem fnok91 (ann : Nat → LAnn) : FnOk prog 91 (D91 ann) := ⟨f91, at91, by kernel_rfl, by kernel_rfl, rfl, rfl, by kernel_rfl⟩  -- dripstone/dripstoneref01.Run
theorem at92 : prog.funcs[92]? = some f92 := by kernel_rfl
def pl92 : Nat → Plan
  | _ => []
noncomputable def D92 (ann : Nat → LAnn) : FnD := ⟨f92.body.getD .skip, f92.ntmps, f92.results.toList, pl92, ann⟩
theorem fnok92 (ann : Nat → LAnn) : FnOk prog 92 (D92 ann) := ⟨f92, at92, by kernel_rfl, by kernel_rfl, rfl, rfl, by kernel_rfl⟩  -- dripstone/dripstoneref01.IsKeyword
theorem at93 : prog.funcs[93]? = some f93 := by kernel_rfl
def pl93 : Nat → Plan
  | _ => []
noncomputable def D93 (ann : Nat → LAnn) : FnD := ⟨f93.body.getD .skip, f93.ntmps, f93.results.toList, pl93, ann⟩
theorem fnok93 (ann : Nat → LAnn) : FnOk prog 93 (D93 ann) := ⟨f93, at93, by kernel_rfl, by kernel_rfl, rfl, rfl, by kernel_rfl⟩  -- dripstone/dripstoneref01.IsDigit
theorem at94 : prog.funcs[94]? = some f94 := by kernel_rfl
def pl94 : Nat → Plan
  | _ => []
noncomputable def D94 (ann : Nat → LAnn) : FnD := ⟨f94.body.getD .skip, f94.ntmps, f94.results.toList, pl94, ann⟩
theorem fnok94 (ann : Nat → LAnn) : FnOk prog 94 (D94 ann) := ⟨f94, at94, by kernel_rfl, by kernel_rfl, rfl, rfl, by kernel_rfl⟩  -- dripstone/dripstoneref01.IsNumber
theorem at95 : prog.funcs[95]? = some f95 := by kernel_rfl
def pl95 : Nat → Plan
  | _ => []
noncomputable def D95 (ann : Nat → LAnn) : FnD := ⟨f95.body.getD .skip, f95.ntmps, f95.results.toList, pl95, ann⟩
theorem fnok95 (ann : Nat → LAnn) : FnOk prog 95 (D95 ann) := ⟨f95, at95, by kernel_rfl, by kernel_rfl, rfl, rfl, by kernel_rfl⟩  -- slices.ContainsFunc[[]dripstone/api.Lexeme,dripstone/api.Lexeme]
theorem at96 : prog.funcs[96]? = some f96 := by kernel_rfl
def pl96 : Nat → Plan
  | _ => []
noncomputable def D96 (ann : Nat → LAnn) : FnD := ⟨f96.body.getD .skip, f96.ntmps, f96.results.toList, pl96, ann⟩
theorem fnok96 (ann : Nat → LAnn) : FnOk prog 96 (D96 ann) := ⟨f96, at96, by kernel_rfl, by kernel_rfl, rfl, rfl, by kernel_rfl⟩  -- dripstone/lex.all[dripstone/api.Lexeme]$1
theorem at97 : prog.funcs[97]? = some f97 := by kernel_rfl
def pl97 : Nat → Plan
  | _ => []
noncomputable def D97 (ann : Nat → LAnn) : FnD := ⟨f97.body.getD .skip, f97.ntmps, f97.results.toList, pl97, ann⟩
theorem fnok97 (ann : Nat → LAnn) : FnOk prog 97 (D97 ann) := ⟨f97, at97, by kernel_rfl, by kernel_rfl, rfl, rfl, by kernel_rfl⟩  -- dripstone/lex.needBlank
theorem at101 : prog.funcs[101]? = some f101 := by kernel_rfl
def pl101 : Nat → Plan
  | _ => []
noncomputable def D101 (ann : Nat → LAnn) : FnD := ⟨f101.body.getD .skip, f101.ntmps, f101.results.toList, pl101, ann⟩
theorem fnok101 (ann : Nat → LAnn) : FnOk prog 101 (D101 ann) := ⟨f101, at101, by kernel_rfl, by kernel_rfl, rfl, rfl, by kernel_rfl⟩  -- dripstone/lex.fromFront$1
theorem at102 : prog.funcs[102]? = some f102 := by kernel_rfl
def pl102 : Nat → Plan
  | _ => []
noncomputable def D102 (ann : Nat → LAnn) : FnD := ⟨f102.body.getD .skip, f102.ntmps, f102.results.toList, pl102, ann⟩
theorem fnok102 (ann : Nat → LAnn) : FnOk prog 102 (D102 ann) := ⟨f102, at102, by kernel_rfl, by kernel_rfl, rfl, rfl, by kernel_rfl⟩  -- dripstone/lex.fromBack$1
theorem at104 : prog.funcs[104]? = some f104 := by kernel_rfl
def pl104 : Nat → Plan
  | _ => []
noncomputable def D104 (ann : Nat → LAnn) : FnD := ⟨f104.body.getD .skip, f104.ntmps, f104.results.toList, pl104, ann⟩
theorem fnok104 (ann : Nat → LAnn) : FnOk prog 104 (D104 ann) := ⟨f104, at104, by kernel_rfl, by kernel_rfl, rfl, rfl, by kernel_rfl⟩  -- strings.IndexByte
theorem at106 : prog.funcs[106]? = some f106 := by kernel_rfl
def pl106 : Nat → Plan
  | _ => []
noncomputable def D106 (ann : Nat → LAnn) : FnD := ⟨f106.body.getD .skip, f106.ntmps, f106.results.toList, pl106, ann⟩
theorem fnok106 (ann : Nat → LAnn) : FnOk prog 106 (D106 ann) := ⟨f106, at106, by kernel_rfl, by kernel_rfl, rfl, rfl, by kernel_rfl⟩  -- strings.HasPrefix
theorem at114 : prog.funcs[114]? = some f114 := by kernel_rfl
def pl114 : Nat → Plan
  | _ => []
noncomputable def D114 (ann : Nat → LAnn) : FnD := ⟨f114.body.getD .skip, f114.ntmps, f114.results.toList, pl114, ann⟩
theorem fnok114 (ann : Nat → LAnn) : FnOk prog 114 (D114 ann) := ⟨f114, at114, by kernel_rfl, by kernel_rfl, rfl, rfl, by kernel_rfl⟩  -- slices.Contains[[]int,int]
theorem at117 : prog.funcs[117]? = some f117 := by kernel_rfl
def pl117 : Nat → Plan
  | _ => []
noncomputable def D117 (ann : Nat → LAnn) : FnD := ⟨f117.body.getD .skip, f117.ntmps, f117.results.toList, pl117, ann⟩
theorem fnok117 (ann : Nat → LAnn) : FnOk prog 117 (D117 ann) := ⟨f117, at117, by kernel_rfl, by kernel_rfl, rfl, rfl, by kernel_rfl⟩  -- slices.IndexFunc[[]dripstone/api.Lexeme,dripstone/api.Lexeme]
theorem at119 : prog.funcs[119]? = some f119 := by kernel_rfl
def pl119 : Nat → Plan
  | _ => []
noncomputable def D119 (ann : Nat → LAnn) : FnD := ⟨f119.body.getD .skip, f119.ntmps, f119.results.toList, pl119, ann⟩
theorem fnok119 (ann : Nat → LAnn) : FnOk prog 119 (D119 ann) := ⟨f119, at119, by kernel_rfl, by kernel_rfl, rfl, rfl, by kernel_rfl⟩  -- internal/stringslite.IndexByte
theorem at122 : prog.funcs[122]? = some f122 := by kernel_rfl
def pl122 : Nat → Plan
  | _ => []
noncomputable def D122 (ann : Nat → LAnn) : FnD := ⟨f122.body.getD .skip, f122.ntmps, f122.results.toList, pl122, ann⟩
theorem fnok122 (ann : Nat → LAnn) : FnOk prog 122 (D122 ann) := ⟨f122, at122, by kernel_rfl, by kernel_rfl, rfl, rfl, by kernel_rfl⟩  -- internal/stringslite.HasPrefix
theorem at126 : prog.funcs[126]? = some f126 := by kernel_rfl
def pl126 : Nat → Plan
  | _ => []
noncomputable def D126 (ann : Nat → LAnn) : FnD := ⟨f126.body.getD .skip, f126.ntmps, f126.results.toList, pl126, ann⟩
theorem fnok126 (ann : Nat → LAnn) : FnOk prog 126 (D126 ann) := ⟨f126, at126, by kernel_rfl, by kernel_rfl, rfl, rfl, by kernel_rfl⟩  -- slices.Index[[]int,int]
end Go.Proofs.Tryd
set_option autoImplicit false
set_option linter.all false
namespace Go.Proofs.Tryd
open Go Go.VM
abbrev Lx := Int × ByteArray × Int
abbrev Ed := Int × Int × ByteArray
abbrev Ch := Int × Int × List Lx
abbrev Lt : Ty := .pair (.int .u8) (.pair .str (.int .i64))
abbrev Et : Ty := .pair (.int .i64) (.pair (.int .i64) .str)
abbrev Ct : Ty := .pair (.int .i64) (.pair (.int .i64) (.sl Lt))
abbrev Dt : Ty := .pair Et (.pair .str .str)
abbrev It : Ty := .int .i64
structure LexF where
  pS : ByteArray → Prop
  pB : ByteArray → Prop
  pI : List Int → Prop
  pL : List Lx → Prop
  pAt : ByteArray → Int → Prop
  pLt : ByteArray → Int → Prop
  pDig : ByteArray → Prop
  pLx : Lx → Prop
  pLx2 : Lx → Lx → Prop
  pTs : List Lx → Prop
  chk : ByteArray → Int × Int
  cls : Int → Int
  index : List Int → Int → Int
  cont : List Int → Int → Bool
  isOf : Int → List Int → Bool
  indexByte : ByteArray → Int → Int
  comment : ByteArray → Int → Int
  gap : ByteArray → Int → Int
  hasPrefix : ByteArray → ByteArray → Bool
  signs : List ByteArray
  keywords : List ByteArray
  kwm : List (ByteArray × Bool)
  isNum : ByteArray → Bool
  atoiOk : ByteArray → Bool
  atoiVal : ByteArray → Int
  itoa : Int → ByteArray
  sign : ByteArray → ByteArray
  whil : ByteArray → List Int → ByteArray
  token : ByteArray → Int → Lx × Bool
  scan : ByteArray → List Lx × Int × Int
  kind : ByteArray → Int × Int
  isRight : Lx → Bool
  needBlank : Lx → Lx → Bool
  bare : List Lx → ByteArray
  join : List Lx → ByteArray × Int
  diff : ByteArray → ByteArray → Ed × Int
  isSame : Lx → Lx → Int → Bool
  rescan : ByteArray → Ed → Ch × Int × Int
  isPlace : Int → Bool
  isPlaced : Lx → Bool
  edit : ByteArray → Ed → (Ed × ByteArray × ByteArray) × Int
  apply : ByteArray → Ed → ByteArray × Int
  undo : ByteArray → Ed → Ed × Int
  both : ByteArray → Ed → Ed → Ed × Int
  patch : List Lx → Ed → Ch → List Lx × Int
  -- the reference
  rIsLetter : Int → Bool
  rIsDigit : Int → Bool
  rGap : ByteArray → Int → Int
  rRun : ByteArray → Int → Bool → Int
  rIsKeyword : ByteArray → Bool
  rIsNumber : ByteArray → Bool
  rToken : ByteArray → Int → Lx
  rScan : ByteArray → List Lx × Int × Int
  rKind : ByteArray → Int × Int
  rApart : Lx → Lx → Bool
  rJoin : List Lx → ByteArray × Int
  rDiff : ByteArray → ByteArray → Ed × Int
  rIsEdit : ByteArray → Ed → Bool
  rRescan : ByteArray → Ed → Ch × Int × Int
  rApply : ByteArray → Ed → ByteArray × Int
  rUndo : ByteArray → Ed → Ed × Int
  rBoth : ByteArray → Ed → Ed → Ed × Int
  rArePlaces : List Lx → Bool
  rPatch : List Lx → Ed → Ch → List Lx × Int
  same : List Lx → List Lx → Bool
  alike : List Lx → List Lx → Bool
  sameChange : Ch → Ch → Bool
  thin : List Lx → Bool
  short : ByteArray → Bool
  dEnd : Ed × ByteArray × ByteArray → Int
  dMore : Ed × ByteArray × ByteArray → Int
  awake : Bool

section
variable (F : LexF)
def S56 : VM.Spec := ⟨[.str], [It, It], fun _ => True, fun x => ((F.chk x.1).1, (F.chk x.1).2, ())⟩
def S59 : VM.Spec := ⟨[.str], [It, It], fun _ => True, fun x => ((F.chk x.1).1, (F.chk x.1).2, ())⟩
def S85 : VM.Spec := ⟨[.int .u8], [It], fun _ => True, fun x => (F.cls x.1, ())⟩
def S126 : VM.Spec := ⟨[.sl It, It], [It], fun x => F.pI x.1, fun x => (F.index x.1 x.2.1, ())⟩
def S114 : VM.Spec := ⟨[.sl It, It], [.bool], fun x => F.pI x.1, fun x => (F.cont x.1 x.2.1, ())⟩
def S83 : VM.Spec := ⟨[.int .u8, .sl It], [.bool], fun x => F.pI x.2.1, fun x => (F.isOf x.1 x.2.1, ())⟩
def S104 : VM.Spec := ⟨[.str, .int .u8], [It], fun _ => True, fun x => (F.indexByte x.1 x.2.1, ())⟩
def S84 : VM.Spec := ⟨[.str, It], [It], fun x => F.pAt x.1 x.2.1 ∧ F.pS x.1, fun x => (F.comment x.1 x.2.1, ())⟩
def S57 : VM.Spec := ⟨[.str, It], [It], fun x => F.pAt x.1 x.2.1 ∧ F.pS x.1, fun x => (F.gap x.1 x.2.1, ())⟩
def S106 : VM.Spec := ⟨[.str, .str], [.bool], fun _ => True, fun x => (F.hasPrefix x.1 x.2.1, ())⟩
def S37 : VM.Spec := ⟨[], [.sl .str], fun _ => True, fun _ => (F.signs, ())⟩
def S38 : VM.Spec := ⟨[], [.sl .str], fun _ => True, fun _ => (F.keywords, ())⟩
def S88 : VM.Spec := ⟨[.str], [.bool], fun x => F.pDig x.1, fun x => (F.isNum x.1, ())⟩
def S89 : VM.Spec := ⟨[.str], [.str], fun _ => True, fun x => (F.sign x.1, ())⟩
def S86 : VM.Spec := ⟨[.str, .sl It], [.str], fun x => F.pS x.1 ∧ F.pI x.2.1, fun x => (F.whil x.1 x.2.1, ())⟩
def S58 : VM.Spec := ⟨[.str, It], [Lt, .bool], fun x => F.pLt x.1 x.2.1 ∧ F.pS x.1, fun x => ((F.token x.1 x.2.1).1, (F.token x.1 x.2.1).2, ())⟩
def S23 : VM.Spec := ⟨[.str], [.sl Lt, It, It], fun x => True, fun x => ((F.scan x.1).1, (F.scan x.1).2.1, (F.scan x.1).2.2, ())⟩
def S26 : VM.Spec := ⟨[.str], [.int .u8, It], fun x => F.pS x.1, fun x => ((F.kind x.1).1, (F.kind x.1).2, ())⟩
def S63 : VM.Spec := ⟨[Lt], [.bool], fun x => F.pLx x.1, fun x => (F.isRight x.1, ())⟩
def S97 : VM.Spec := ⟨[Lt, Lt], [.bool], fun x => F.pLx2 x.1 x.2.1, fun x => (F.needBlank x.1 x.2.1, ())⟩
def S64 : VM.Spec := ⟨[.sl Lt], [.str], fun x => F.pTs x.1, fun x => (F.bare x.1, ())⟩
def S29 : VM.Spec := ⟨[.sl Lt], [.str, It], fun x => F.pL x.1, fun x => ((F.join x.1).1, (F.join x.1).2, ())⟩
def S31 : VM.Spec := ⟨[.str, .str], [Et, It], fun x => True, fun x => ((F.diff x.1 x.2.1).1, (F.diff x.1 x.2.1).2, ())⟩
def S70 : VM.Spec := ⟨[Lt, Lt, It], [.bool], fun x => True, fun x => (F.isSame x.1 x.2.1 x.2.2.1, ())⟩
def S33 : VM.Spec := ⟨[.str, Et], [Ct, It, It], fun x => F.pB x.2.1.2.2, fun x => ((F.rescan x.1 x.2.1).1, (F.rescan x.1 x.2.1).2.1, (F.rescan x.1 x.2.1).2.2, ())⟩
def S73 : VM.Spec := ⟨[It], [.bool], fun x => True, fun x => (F.isPlace x.1, ())⟩
def S74 : VM.Spec := ⟨[Lt], [.bool], fun x => True, fun x => (F.isPlaced x.1, ())⟩
def S90 : VM.Spec := ⟨[.int .u8], [.bool], fun x => True, fun x => (F.rIsLetter x.1, ())⟩
def S93 : VM.Spec := ⟨[.int .u8], [.bool], fun x => True, fun x => (F.rIsDigit x.1, ())⟩
def S60 : VM.Spec := ⟨[.str, It], [It], fun x => F.pAt x.1 x.2.1 ∧ F.pS x.1, fun x => (F.rGap x.1 x.2.1, ())⟩
def S91 : VM.Spec := ⟨[.str, It, .bool], [It], fun x => F.pAt x.1 x.2.1 ∧ F.pS x.1, fun x => (F.rRun x.1 x.2.1 x.2.2.1, ())⟩
def S92 : VM.Spec := ⟨[.str], [.bool], fun x => True, fun x => (F.rIsKeyword x.1, ())⟩
def S94 : VM.Spec := ⟨[.str], [.bool], fun x => True, fun x => (F.rIsNumber x.1, ())⟩
def S61 : VM.Spec := ⟨[.str, It], [Lt], fun x => F.pLt x.1 x.2.1 ∧ F.pS x.1, fun x => (F.rToken x.1 x.2.1, ())⟩
def S24 : VM.Spec := ⟨[.str], [.sl Lt, It, It], fun x => True, fun x => ((F.rScan x.1).1, (F.rScan x.1).2.1, (F.rScan x.1).2.2, ())⟩
def S27 : VM.Spec := ⟨[.str], [.int .u8, It], fun x => F.pS x.1, fun x => ((F.rKind x.1).1, (F.rKind x.1).2, ())⟩
def S65 : VM.Spec := ⟨[Lt, Lt], [.bool], fun x => F.pLx2 x.1 x.2.1, fun x => (F.rApart x.1 x.2.1, ())⟩
def S30 : VM.Spec := ⟨[.sl Lt], [.str, It], fun x => F.pL x.1, fun x => ((F.rJoin x.1).1, (F.rJoin x.1).2, ())⟩
def S32 : VM.Spec := ⟨[.str, .str], [Et, It], fun x => True, fun x => ((F.rDiff x.1 x.2.1).1, (F.rDiff x.1 x.2.1).2, ())⟩
def S71 : VM.Spec := ⟨[.str, Et], [.bool], fun x => True, fun x => (F.rIsEdit x.1 x.2.1, ())⟩
def S34 : VM.Spec := ⟨[.str, Et], [Ct, It, It], fun x => F.pB x.2.1.2.2, fun x => ((F.rRescan x.1 x.2.1).1, (F.rRescan x.1 x.2.1).2.1, (F.rRescan x.1 x.2.1).2.2, ())⟩
def S75 : VM.Spec := ⟨[.sl Lt], [.bool], fun x => F.pL x.1, fun x => (F.rArePlaces x.1, ())⟩
def S25 : VM.Spec := ⟨[.sl Lt, .sl Lt], [.bool], fun x => F.pL x.1, fun x => (F.same x.1 x.2.1, ())⟩
def S36 : VM.Spec := ⟨[.sl Lt, .sl Lt], [.bool], fun x => F.pL x.1, fun x => (F.alike x.1 x.2.1, ())⟩
def S35 : VM.Spec := ⟨[Ct, Ct], [.bool], fun x => F.pL x.1.2.2, fun x => (F.sameChange x.1 x.2.1, ())⟩
def S28 : VM.Spec := ⟨[.sl Lt], [.bool], fun x => True, fun x => (F.thin x.1, ())⟩
def S22 : VM.Spec := ⟨[], [.bool], fun x => True, fun x => (F.awake, ())⟩
def S116 : VM.Spec := ⟨[It], [.str], fun x => -9223372036854775808 ≤ x.1 ∧ x.1 ≤ 9223372036854775807, fun x => (F.itoa x.1, ())⟩
def S21 : VM.Spec := ⟨[.str], [.bool], fun x => True, fun x => (F.short x.1, ())⟩
def S72 : VM.Spec := ⟨[.str, Et], [Dt, It], fun x => F.pB x.2.1.2.2, fun x => ((F.edit x.1 x.2.1).1, (F.edit x.1 x.2.1).2, ())⟩
def S39 : VM.Spec := ⟨[.str, Et], [.str, It], fun x => F.pB x.2.1.2.2, fun x => ((F.apply x.1 x.2.1).1, (F.apply x.1 x.2.1).2, ())⟩
def S42 : VM.Spec := ⟨[.str, Et], [Et, It], fun x => F.pB x.2.1.2.2, fun x => ((F.undo x.1 x.2.1).1, (F.undo x.1 x.2.1).2, ())⟩
def S45 : VM.Spec := ⟨[.str, Et, Et], [Et, It], fun x => F.pB x.2.1.2.2 ∧ F.pB x.2.2.1.2.2, fun x => ((F.both x.1 x.2.1 x.2.2.1).1, (F.both x.1 x.2.1 x.2.2.1).2, ())⟩
def S43 : VM.Spec := ⟨[.str, Et], [.str, It], fun x => F.pB x.2.1.2.2, fun x => ((F.rApply x.1 x.2.1).1, (F.rApply x.1 x.2.1).2, ())⟩
def S44 : VM.Spec := ⟨[.str, Et], [Et, It], fun x => F.pB x.2.1.2.2, fun x => ((F.rUndo x.1 x.2.1).1, (F.rUndo x.1 x.2.1).2, ())⟩
def S46 : VM.Spec := ⟨[.str, Et, Et], [Et, It], fun x => F.pB x.2.1.2.2 ∧ F.pB x.2.2.1.2.2, fun x => ((F.rBoth x.1 x.2.1 x.2.2.1).1, (F.rBoth x.1 x.2.1 x.2.2.1).2, ())⟩
def S40 : VM.Spec := ⟨[.sl Lt, Et, Ct], [.sl Lt, It], fun x => F.pL x.1 ∧ F.pS x.2.1.2.2 ∧ F.pL x.2.2.1.2.2, fun x => ((F.patch x.1 x.2.1 x.2.2.1).1, (F.patch x.1 x.2.1 x.2.2.1).2, ())⟩
def S41 : VM.Spec := ⟨[.sl Lt, Et, Ct], [.sl Lt, It], fun x => F.pL x.1 ∧ F.pS x.2.1.2.2 ∧ F.pL x.2.2.1.2.2, fun x => ((F.rPatch x.1 x.2.1 x.2.2.1).1, (F.rPatch x.1 x.2.1 x.2.2.1).2, ())⟩
def S76 : VM.Spec := ⟨[Dt], [It], fun x => True, fun x => (F.dEnd x.1, ())⟩
def S77 : VM.Spec := ⟨[Dt], [It], fun x => True, fun x => (F.dMore x.1, ())⟩
/-- The token that many behind the last: the closure of Rescan. -/
def r69 : RdX where
  T := 40
  t := .sl Lt
  outs := [Lt]
  X := Int × Int
  sel := fun cs => match cs with
    | [.int .i64 a, .int .i64 b, .nils] => some (a, b)
    | _ => none
  box := fun p => [.int .i64 p.1, .int .i64 p.2, .nils]
  pre := fun L p l => L.inR (L.ar .sub .i64 (L.ar .sub .i64 (L.cast (L.llen Lt l)) 1) p.2) (L.llen Lt l)
  fn := fun L p l => (L.get Lt l (L.toN (L.ar .sub .i64 (L.ar .sub .i64 (L.cast (L.llen Lt l)) 1) p.2)), ())
/-- All contracts of the lexer. -/
def fT : FuncId → FT
  | 22 => .spec (S22 F) | 23 => .spec (S23 F) | 24 => .spec (S24 F) | 25 => .spec (S25 F) | 26 => .spec (S26 F) | 27 => .spec (S27 F) | 28 => .spec (S28 F) | 29 => .spec (S29 F) | 30 => .spec (S30 F)
  | 31 => .spec (S31 F) | 32 => .spec (S32 F) | 33 => .spec (S33 F) | 34 => .spec (S34 F) | 35 => .spec (S35 F) | 36 => .spec (S36 F) | 37 => .spec (S37 F) | 38 => .spec (S38 F)
  | 87 => .ext (mapX .str .bool F.kwm)
  | 115 => .ext (atoiX F.pDig F.atoiOk F.atoiVal) | 116 => .spec (S116 F)
  | 118 => .ext (ckX 108) | 100 => .ext (sbX 108 5) | 69 => .ext r69.x
  | 21 => .spec (S21 F) | 72 => .spec (S72 F) | 39 => .spec (S39 F) | 42 => .spec (S42 F) | 45 => .spec (S45 F) | 43 => .spec (S43 F) | 44 => .spec (S44 F) | 46 => .spec (S46 F) | 40 => .spec (S40 F) | 41 => .spec (S41 F) | 76 => .spec (S76 F) | 77 => .spec (S77 F)
  | 56 => .spec (S56 F) | 57 => .spec (S57 F) | 58 => .spec (S58 F) | 59 => .spec (S59 F) | 60 => .spec (S60 F) | 61 => .spec (S61 F) | 63 => .spec (S63 F) | 64 => .spec (S64 F) | 65 => .spec (S65 F) | 70 => .spec (S70 F) | 71 => .spec (S71 F)
  | 73 => .spec (S73 F) | 74 => .spec (S74 F) | 75 => .spec (S75 F) | 83 => .spec (S83 F) | 84 => .spec (S84 F) | 85 => .spec (S85 F) | 86 => .spec (S86 F) | 88 => .spec (S88 F) | 89 => .spec (S89 F) | 90 => .spec (S90 F) | 91 => .spec (S91 F)
  | 92 => .spec (S92 F) | 93 => .spec (S93 F) | 94 => .spec (S94 F) | 97 => .spec (S97 F) | 104 => .spec (S104 F) | 106 => .spec (S106 F) | 114 => .spec (S114 F) | 126 => .spec (S126 F)
  | _ => .no
end
/-- Those among them that are named, by contract; no other. -/
def fOnly (F : LexF) (l : List Nat) : FuncId → FT := fun g => match memN g l with
  | true => fT F g
  | false => .no
end Go.Proofs.Tryd
set_option autoImplicit false
set_option linter.all false
namespace Go.Proofs.Tryd
open Go Go.VM
set_option maxRecDepth 100000
theorem at64 : prog.funcs[64]? = some f64 := by kernel_rfl
def pl64 : Nat → Plan
  | 5 => [(0, []), (1, []), (2, []), (3, []), (4, [3]), (5, [3]), (6, []), (7, []), (8, [3, 4, 5, 6, 7]), (9, []), (10, [])]
  | _ => []
noncomputable def D64 (ann : Nat → LAnn) : FnD := ⟨f64.body.getD .skip, f64.ntmps, f64.results.toList, pl64, ann⟩
theorem fnok64 (ann : Nat → LAnn) : FnOk prog 64 (D64 ann) := ⟨f64, at64, by kernel_rfl, by kernel_rfl, rfl, rfl, by kernel_rfl⟩  -- dripstone/lex.bare
theorem at98 : prog.funcs[98]? = some f98 := by kernel_rfl
def pl98 : Nat → Plan
  | _ => []
noncomputable def D98 (ann : Nat → LAnn) : FnD := ⟨f98.body.getD .skip, f98.ntmps, f98.results.toList, pl98, ann⟩
theorem fnok98 (ann : Nat → LAnn) : FnOk prog 98 (D98 ann) := ⟨f98, at98, by kernel_rfl, by kernel_rfl, rfl, rfl, by kernel_rfl⟩  -- (*strings.Builder).WriteByte
theorem at99 : prog.funcs[99]? = some f99 := by kernel_rfl
def pl99 : Nat → Plan
  | _ => []
noncomputable def D99 (ann : Nat → LAnn) : FnD := ⟨f99.body.getD .skip, f99.ntmps, f99.results.toList, pl99, ann⟩
theorem fnok99 (ann : Nat → LAnn) : FnOk prog 99 (D99 ann) := ⟨f99, at99, by kernel_rfl, by kernel_rfl, rfl, rfl, by kernel_rfl⟩  -- (*strings.Builder).WriteString
theorem at88 : prog.funcs[88]? = some f88 := by kernel_rfl
def pl88 : Nat → Plan
  | _ => []
noncomputable def D88 (ann : Nat → LAnn) : FnD := ⟨f88.body.getD .skip, f88.ntmps, f88.results.toList, pl88, ann⟩
theorem fnok88 (ann : Nat → LAnn) : FnOk prog 88 (D88 ann) := ⟨f88, at88, by kernel_rfl, by kernel_rfl, rfl, rfl, by kernel_rfl⟩  -- dripstone/lex.isNumber
theorem at115 : prog.funcs[115]? = some f115 := by kernel_rfl
def pl115 : Nat → Plan
  | _ => []
noncomputable def D115 (ann : Nat → LAnn) : FnD := ⟨f115.body.getD .skip, f115.ntmps, f115.results.toList, pl115, ann⟩
theorem fnok115 (ann : Nat → LAnn) : FnOk prog 115 (D115 ann) := ⟨f115, at115, by kernel_rfl, by kernel_rfl, rfl, rfl, by kernel_rfl⟩  -- strconv.Atoi
theorem at127 : prog.funcs[127]? = some f127 := by kernel_rfl
def pl127 : Nat → Plan
  | _ => []
noncomputable def D127 (ann : Nat → LAnn) : FnD := ⟨f127.body.getD .skip, f127.ntmps, f127.results.toList, pl127, ann⟩
theorem fnok127 (ann : Nat → LAnn) : FnOk prog 127 (D127 ann) := ⟨f127, at127, by kernel_rfl, by kernel_rfl, rfl, rfl, by kernel_rfl⟩  -- internal/strconv.Atoi
theorem at128 : prog.funcs[128]? = some f128 := by kernel_rfl
def pl128 : Nat → Plan
  | _ => []
noncomputable def D128 (ann : Nat → LAnn) : FnD := ⟨f128.body.getD .skip, f128.ntmps, f128.results.toList, pl128, ann⟩
theorem fnok128 (ann : Nat → LAnn) : FnOk prog 128 (D128 ann) := ⟨f128, at128, by kernel_rfl, by kernel_rfl, rfl, rfl, by kernel_rfl⟩  -- strconv.toError
theorem at137 : prog.funcs[137]? = some f137 := by kernel_rfl
def pl137 : Nat → Plan
  | _ => []
noncomputable def D137 (ann : Nat → LAnn) : FnD := ⟨f137.body.getD .skip, f137.ntmps, f137.results.toList, pl137, ann⟩
theorem fnok137 (ann : Nat → LAnn) : FnOk prog 137 (D137 ann) := ⟨f137, at137, by kernel_rfl, by kernel_rfl, rfl, rfl, by kernel_rfl⟩  -- internal/strconv.ParseInt
theorem at145 : prog.funcs[145]? = some f145 := by kernel_rfl
def pl145 : Nat → Plan
  | _ => []
noncomputable def D145 (ann : Nat → LAnn) : FnD := ⟨f145.body.getD .skip, f145.ntmps, f145.results.toList, pl145, ann⟩
theorem fnok145 (ann : Nat → LAnn) : FnOk prog 145 (D145 ann) := ⟨f145, at145, by kernel_rfl, by kernel_rfl, rfl, rfl, by kernel_rfl⟩  -- internal/strconv.ParseUint
theorem at152 : prog.funcs[152]? = some f152 := by kernel_rfl
def pl152 : Nat → Plan
  | _ => []
noncomputable def D152 (ann : Nat → LAnn) : FnD := ⟨f152.body.getD .skip, f152.ntmps, f152.results.toList, pl152, ann⟩
theorem fnok152 (ann : Nat → LAnn) : FnOk prog 152 (D152 ann) := ⟨f152, at152, by kernel_rfl, by kernel_rfl, rfl, rfl, by kernel_rfl⟩  -- internal/strconv.lower
end Go.Proofs.Tryd
set_option autoImplicit false
set_option linter.all false
namespace Go.Proofs.Tryd
open Go Go.VM

/-! ### bytes -/
theorem ext_size (s : ByteArray) (a b : Nat) : (s.extract a b).size = min b s.size - a := ByteArray.size_extract
theorem app_size (s t : ByteArray) : (s ++ t).size = s.size + t.size := ByteArray.size_append
theorem byteAt_lt {s : ByteArray} {i : Int} (h : i.toNat < s.size) : byteAt s i = ((s[i.toNat]'h).toNat : Int) := by unfold byteAt; rw [dif_pos h]
theorem byteAt_ge {s : ByteArray} {i : Int} (h : s.size ≤ i.toNat) : byteAt s i = 0 := by unfold byteAt; rw [dif_neg (by omega)]
theorem byteAt_range (s : ByteArray) (i : Int) : 0 ≤ byteAt s i ∧ byteAt s i ≤ 255 := by
  unfold byteAt
  split
  · have := UInt8.toNat_lt s[i.toNat]; omega
  · omega
theorem byteAt_ext {s : ByteArray} {a b : Nat} {i : Int} (h0 : 0 ≤ i) (h1 : i < (min b s.size : Nat) - (a : Int)) : byteAt (s.extract a b) i = byteAt s (a + i) := by
  have h2 : i.toNat < (s.extract a b).size := by rw [ext_size]; omega
  have h3 : ((a : Int) + i).toNat = a + i.toNat := by omega
  rw [byteAt_lt h2, byteAt_lt (by rw [h3]; omega)]
  congr 2
  rw [ByteArray.getElem_extract]
  congr 1
  exact h3.symm
theorem byteAt_app_l {s t : ByteArray} {i : Int} (h0 : 0 ≤ i) (h1 : i < s.size) : byteAt (s ++ t) i = byteAt s i := by
  have h2 : i.toNat < s.size := by omega
  rw [byteAt_lt h2, byteAt_lt (by rw [app_size]; omega)]
  congr 2
  exact ByteArray.getElem_append_left h2
theorem byteAt_app_r {s t : ByteArray} {i : Int} (h0 : s.size ≤ i) (h1 : i < s.size + t.size) : byteAt (s ++ t) i = byteAt t (i - s.size) := by
  have h2 : (i - s.size).toNat < t.size := by omega
  have h3 : i.toNat < (s ++ t).size := by rw [app_size]; omega
  rw [byteAt_lt h2, byteAt_lt h3]
  congr 2
  rw [ByteArray.getElem_append_right (by omega)]
  congr 1
  omega
theorem ba_ext2 {s t : ByteArray} (h : s.size = t.size) (hb : ∀ i : Int, 0 ≤ i → i < s.size → byteAt s i = byteAt t i) : s = t := by
  apply ByteArray.ext
  apply Array.ext
  · exact h
  · intro i h1 h2
    have h1' : i < s.size := h1
    have h2' : i < t.size := h2
    have := hb i (by omega) (by omega)
    rw [byteAt_lt (i := (i : Int)) (s := s) (by simpa using h1'), byteAt_lt (i := (i : Int)) (s := t) (by simpa using h2')] at this
    have h4 : (s[i]'h1').toNat = (t[i]'h2').toNat := by
      simp only [Int.toNat_natCast] at this
      omega
    exact UInt8.toNat.inj h4

/-! ### classes -/
def badB (b : Int) : Bool := decide (b ≠ 10) && (decide (b < 32) || decide (126 < b))
def ckF (s : ByteArray) : Nat → Int × Int
  | 0 => (0, 0)
  | n + 1 => if badB (byteAt s ((s.size : Int) - (n + 1 : Nat))) then ((s.size : Int) - (n + 1 : Nat), 4) else ckF s n
def chk (s : ByteArray) : Int × Int := if 2500 < s.size then (0, 5) else ckF s s.size

def isLet (b : Int) : Bool := decide (97 ≤ b) && decide (b ≤ 122)
def isDig (b : Int) : Bool := decide (48 ≤ b) && decide (b ≤ 57)
def cls (b : Int) : Int := if b = 32 then 1 else if b = 10 then 2 else if b = 37 then 3 else if isLet b then 4 else if isDig b then 5 else 0
def indexL : List Int → Int → Int
  | [], _ => -1
  | y :: l, x => if x = y then 0 else if indexL l x = -1 then -1 else indexL l x + 1
def contL (l : List Int) (x : Int) : Bool := decide (0 ≤ indexL l x)
def isOfL (b : Int) (l : List Int) : Bool := contL l (cls b)
def idxB (s : ByteArray) (c : Int) : Int := Lib.indexByte s.data.toList c.toNat.toUInt8
def commentF (s : ByteArray) (at_ : Int) : Int := let n := idxB (s.extract at_.toNat s.size) 10; if 0 ≤ n then at_ + n else s.size
/-- The gap, from a place on; 'fuel' bytes are left. -/
def gapF (s : ByteArray) : Nat → Bool → Int
  | 0, _ => s.size
  | n + 1, inside =>
    let i := (s.size : Int) - (n + 1 : Nat)
    let b := byteAt s i
    if b = 10 then gapF s n false else if inside then gapF s n true else if b = 32 then gapF s n false else if b = 37 then gapF s n true else i
def gap (s : ByteArray) (i : Int) : Int := gapF s (s.size - i).toNat false

def bs (l : List UInt8) : ByteArray := ⟨l.toArray⟩
def signsL : List ByteArray := [bs [61, 61], bs [33, 61], bs [60, 61], bs [62, 61], bs [60], bs [62], bs [61], bs [43], bs [45], bs [42], bs [47], bs [33], bs [35], bs [40], bs [41], bs [91], bs [93], bs [123], bs [125], bs [44], bs [59], bs [58]]
def keywordsL : List ByteArray := [bs [97, 108, 108], bs [97, 115], bs [101, 97, 99, 104], bs [101, 108, 115, 101], bs [102, 97, 105, 108], bs [102, 108, 97, 103], bs [102, 114, 101, 101, 122, 101], bs [104, 97, 115], bs [105, 102], bs [105, 110, 116],
  bs [108, 97, 116, 116, 105, 99, 101], bs [108, 101, 116], bs [109, 97, 112], bs [109, 97, 120], bs [110, 101, 119], bs [111, 110], bs [111, 110, 99, 101], bs [111, 114], bs [112, 97, 105, 114], bs [112, 117, 116], bs [115, 101, 116],
  bs [115, 104, 97, 114, 101], bs [115, 105, 122, 101], bs [115, 112, 97, 119, 110], bs [116, 97, 115, 107], bs [117, 115, 101], bs [118, 97, 108, 117, 101], bs [119, 104, 101, 110]]
def hasPre (s p : ByteArray) : Bool := decide (p.size ≤ s.size) && decide (s.extract 0 p.size = p)
def signGo (s : ByteArray) : List ByteArray → ByteArray → ByteArray
  | [], best => best
  | x :: l, best => signGo s l (if hasPre s x = true ∧ best.size < x.size then x else best)
def signF (s : ByteArray) : ByteArray := signGo s signsL ByteArray.empty
def isKeyF (s : ByteArray) : Bool := keywordsL.any fun k => decide (s = k)
def isNumF (s : ByteArray) : Bool := decide (s = bs [48]) || (decide (s.size ≠ 0) && decide (byteAt s 0 ≠ 48) && (decide (s.size < 10) || decide (s = bs [49, 48, 48, 48, 48, 48, 48, 48, 48, 48])))
/-- How many bytes at the beginning are of some classes: from the end, 'fuel' bytes are left. -/
def whN (s : ByteArray) (l : List Int) : Nat → Int
  | 0 => s.size
  | n + 1 => if isOfL (byteAt s ((s.size : Int) - (n + 1 : Nat))) l then whN s l n else (s.size : Int) - (n + 1 : Nat)
def whilF (s : ByteArray) (l : List Int) : ByteArray := s.extract 0 (whN s l s.size).toNat
def runN (s : ByteArray) (b : Bool) : Nat → Int
  | 0 => s.size
  | n + 1 => let c := byteAt s ((s.size : Int) - (n + 1 : Nat)); if isDig c || (b && isLet c) then runN s b n else (s.size : Int) - (n + 1 : Nat)
def runF (s : ByteArray) (i : Int) (b : Bool) : Int := runN s b (s.size - i).toNat
def isPlaceF (n : Int) : Bool := decide (0 ≤ n) && decide (n ≤ 2500)
def isSameF (a b : Lx) (by_ : Int) : Bool := decide (a.1 = b.1) && (decide (a.2.1 = b.2.1) && decide (IntKind.i64.wrap (a.2.2 + by_) = b.2.2))
def isEditF (s : ByteArray) (x : Ed) : Bool := decide (0 ≤ x.1) && decide (x.1 ≤ x.2.1) && decide (x.2.1 ≤ s.size)
end Go.Proofs.Tryd
set_option autoImplicit false
set_option linter.all false
namespace Go.Proofs.Tryd
open Go Go.VM

def tokF (s : ByteArray) (i : Int) : Lx × Bool :=
  let rest := s.extract i.toNat s.size
  let c := cls (byteAt rest 0)
  if c = 4 then let t := whilF rest [4, 5]; if isKeyF t then ((3, t, i), true) else ((1, t, i), decide (t.size ≤ 12))
  else if c = 5 then let t := whilF rest [5]; ((2, t, i), isNumF t)
  else let t := signF rest; ((4, t, i), decide (t.size ≠ 0))
def rTokF (s : ByteArray) (i : Int) : Lx := let p := tokF s i; (if p.2 then p.1.1 else 0, p.1.2.1, p.1.2.2)
def scanGo (s : ByteArray) : Nat → Int → List Lx → List Lx × Int × Int
  | 0, _, acc => (acc, 0, 0)
  | n + 1, i, acc => if i < s.size then
      let p := tokF s i
      if p.2 = false then ([], i, 4) else if acc.length = 900 then ([], i, 5) else scanGo s n (gap s (i + p.1.2.1.size)) (acc ++ [p.1])
    else (acc, 0, 0)
def scanF (s : ByteArray) : List Lx × Int × Int := let c := chk s; if c.2 ≠ 0 then ([], c.1, c.2) else scanGo s (s.size + 1) (gap s 0) []
def kindF (s : ByteArray) : Int × Int := if s.size = 0 ∨ 0 < gap s 0 then (0, 4) else let p := tokF s 0; if p.2 = false ∨ p.1.2.1 ≠ s then (0, 4) else (p.1.1, 0)
def isRightF (x : Lx) : Bool := decide ((kindF x.2.1).2 = 0) && decide ((kindF x.2.1).1 = x.1)
def needF (a b : Lx) : Bool := let p := tokF (a.2.1 ++ b.2.1) 0; (!p.2) || decide (p.1.2.1 ≠ a.2.1)
def apartF (a b : Lx) : Bool := let p := rTokF (a.2.1 ++ b.2.1) 0; decide (p.2.1 ≠ a.2.1) || decide (p.1 ≠ a.1)
/-- Are all pairs of neighbours? (Tokens whose texts are not empty.) -/
def pTsF (l : List Lx) : Prop := l.length ≤ 1000 ∧ ∀ x ∈ l, 0 < x.2.1.size ∧ x.2.1.size ≤ 3000
def blank : ByteArray := bs [32]
def bareGo : Option Lx → List Lx → ByteArray → ByteArray
  | _, [], acc => acc
  | none, t :: r, acc => bareGo (some t) r (acc ++ t.2.1)
  | some p, t :: r, acc => bareGo (some t) r ((if needF p t then acc ++ blank else acc) ++ t.2.1)
def bareF (l : List Lx) : ByteArray := bareGo none l ByteArray.empty
def joinF (l : List Lx) : ByteArray × Int := if 900 < l.length then (ByteArray.empty, 5) else if l.all isRightF = false then (ByteArray.empty, 4) else let s := bareF l; if 2500 < s.size then (ByteArray.empty, 5) else (s, 0)
end Go.Proofs.Tryd
set_option autoImplicit false
set_option linter.all false
namespace Go.Proofs.Tryd
open Go Go.VM

/-- How many bytes at the beginning are alike; of m bytes, 'fuel' are left. -/
def hdN (a b : ByteArray) (m : Nat) : Nat → Int
  | 0 => m
  | n + 1 => let i := (m : Int) - (n + 1 : Nat); if byteAt a i = byteAt b i then hdN a b m n else i
/-- .. at the end. -/
def tlN (a b : ByteArray) (m : Nat) : Nat → Int
  | 0 => m
  | n + 1 => let i := (m : Int) - (n + 1 : Nat); if byteAt a ((a.size : Int) - 1 - i) = byteAt b ((b.size : Int) - 1 - i) then tlN a b m n else i
def hdF (a b : ByteArray) : Int := hdN a b (min a.size b.size) (min a.size b.size)
def tlF (a b : ByteArray) : Int := let h := (hdF a b).toNat; let m := min (a.size - h) (b.size - h); tlN a b m m
def noEd : Ed := (0, 0, ByteArray.empty)
def diffF (a b : ByteArray) : Ed × Int :=
  if (chk a).2 ≠ 0 then (noEd, (chk a).2) else if (chk b).2 ≠ 0 then (noEd, (chk b).2)
  else ((hdF a b, a.size - tlF a b, b.extract (hdF a b).toNat (b.size - tlF a b).toNat), 0)

/-- Tokens that are the same at the beginning, and stand ahead of a place. -/
def hdT (fr : Int) : List Lx → List Lx → Nat
  | x :: l, y :: m => if x.2.2 < fr ∧ x = y then hdT fr l m + 1 else 0
  | _, _ => 0
/-- .. in reversed lists: the same but for places, from a place on. -/
def tlT (to by_ : Int) : List Lx → List Lx → Nat
  | x :: l, y :: m => if to ≤ x.2.2 ∧ x.1 = y.1 ∧ x.2.1 = y.2.1 ∧ y.2.2 = x.2.2 + by_ then tlT to by_ l m + 1 else 0
  | _, _ => 0
def nowF (s : ByteArray) (x : Ed) : ByteArray := s.extract 0 x.1.toNat ++ x.2.2 ++ s.extract x.2.1.toNat s.size
def rescanF (s : ByteArray) (x : Ed) : Ch × Int × Int :=
  let l := scanF s
  if l.2.2 ≠ 0 then ((0, 0, []), l.2.1, l.2.2)
  else if isEditF s x = false then ((0, 0, []), 0, 3)
  else
    let m := scanF (nowF s x)
    if m.2.2 ≠ 0 then ((0, 0, []), m.2.1, m.2.2)
    else
      let h := hdT x.1 l.1 m.1
      let t := tlT x.2.1 ((x.2.2.size : Int) - (x.2.1 - x.1)) l.1.reverse m.1.reverse
      ((h, t, (m.1.take (m.1.length - t)).drop h), 0, 0)
def sameF (a b : List Lx) : Bool := decide (a = b)
def sameChF (a b : Ch) : Bool := decide (a.1 = b.1) && decide (a.2.1 = b.2.1) && sameF a.2.2 b.2.2
end Go.Proofs.Tryd
set_option autoImplicit false
set_option linter.all false
namespace Go.Proofs.Tryd
open Go Go.VM

def atoiOkF (s : ByteArray) : Bool := match Lib.atoiAll s.data.toList with | .ok _ => true | _ => false
def atoiValF (s : ByteArray) : Int := match Lib.atoiAll s.data.toList with | .ok v => v | _ => 0
def itoaF (n : Int) : ByteArray := ⟨(Lib.itoa n).toArray⟩

def digB (c : UInt8) : Prop := 48 ≤ c.toNat ∧ c.toNat ≤ 57
def valF (acc : Nat) (l : List UInt8) : Nat := l.foldl (fun a c => a * 10 + (c.toNat - 48)) acc
theorem valF_nil (acc : Nat) : valF acc [] = acc := by unfold valF; rw [List.foldl_nil]
theorem valF_cons (acc : Nat) (c : UInt8) (r : List UInt8) : valF acc (c :: r) = valF (acc * 10 + (c.toNat - 48)) r := by unfold valF; rw [List.foldl_cons]
theorem valF_ge : ∀ (l : List UInt8) (acc : Nat), acc ≤ valF acc l
  | [], acc => by rw [valF_nil]; exact Nat.le_refl _
  | c :: r, acc => by rw [valF_cons]; exact Nat.le_trans (by omega) (valF_ge r (acc * 10 + (c.toNat - 48)))
theorem parse_cons (acc : Nat) (c : UInt8) (r : List UInt8) (h : digB c) : Lib.parseUint10 acc (c :: r) = if 1844674407370955162 ≤ acc then .range else if 18446744073709551616 ≤ acc * 10 + (c.toNat - 48) then .range else Lib.parseUint10 (acc * 10 + (c.toNat - 48)) r := by
  rw [Lib.parseUint10, if_pos ⟨h.1, h.2⟩]
def two64 : Nat := 18446744073709551616
theorem parse_nil (acc : Nat) : Lib.parseUint10 acc [] = .ok acc := by simp only [Lib.parseUint10]
theorem parse_val (N : Nat) (hN : N = 18446744073709551616) (l : List UInt8) : ∀ acc : Nat, (∀ c ∈ l, digB c) → (valF acc l < N → Lib.parseUint10 acc l = .ok (valF acc l)) ∧ (¬ valF acc l < N → l ≠ [] → Lib.parseUint10 acc l = .range) := by
  induction l with
  | nil =>
    intro acc _
    exact And.intro (fun _ => by rw [valF_nil]; exact parse_nil acc) (fun _ h => absurd rfl h)
  | cons c r ih =>
    intro acc h
    have hc := h c (by simp)
    obtain ⟨i1, i2⟩ := ih (acc * 10 + (c.toNat - 48)) (fun d hd => h d (by simp [hd]))
    have hge := valF_ge r (acc * 10 + (c.toNat - 48))
    have hnil : r = [] → valF (acc * 10 + (c.toNat - 48)) r = acc * 10 + (c.toNat - 48) := fun h => by subst h; rw [valF_nil]
    have hV : valF acc (c :: r) = valF (acc * 10 + (c.toNat - 48)) r := valF_cons acc c r
    rw [parse_cons acc c r hc, hV]
    generalize valF (acc * 10 + (c.toNat - 48)) r = V at i1 i2 hge hnil ⊢
    refine ⟨fun hv => ?_, fun hv _ => ?_⟩
    · rw [if_neg (by omega), if_neg (by omega)]; exact i1 hv
    · by_cases h1 : 1844674407370955162 ≤ acc
      · rw [if_pos h1]
      · rw [if_neg h1]
        by_cases h2 : 18446744073709551616 ≤ acc * 10 + (c.toNat - 48)
        · rw [if_pos h2]
        · rw [if_neg h2]
          by_cases h4 : r = []
          · have := hnil h4; omega
          · exact i2 hv h4
theorem atoi_val (l : List UInt8) (h0 : l ≠ []) (h : ∀ c ∈ l, digB c) : Lib.atoiAll l = if valF 0 l < 9223372036854775808 then .ok (valF 0 l : Int) else .range := by
  obtain ⟨c, r, rfl⟩ : ∃ c r, l = c :: r := by cases l with | nil => exact absurd rfl h0 | cons c r => exact ⟨c, r, rfl⟩
  have hc := h c (by simp)
  unfold digB at hc
  rw [Lib.atoiAll_plain c r (by omega) (by omega)]
  unfold Lib.parseMag
  rw [if_neg (by simp)]
  obtain ⟨p1, p2⟩ := parse_val _ rfl (c :: r) 0 h
  by_cases h1 : valF 0 (c :: r) < 18446744073709551616
  · rw [p1 h1]
    by_cases h2 : valF 0 (c :: r) < 9223372036854775808
    · rw [if_pos h2]; simp only [Lib.signless]; rw [if_neg (by omega)]
    · rw [if_neg h2]; simp only [Lib.signless]; rw [if_pos (by omega)]
  · rw [p2 h1 (by simp), if_neg (by omega)]; rfl
theorem dec_snoc (u d : Nat) (hu : 1 ≤ u) (hd : d < 10) : Lib.decDigits (u * 10 + d) = Lib.decDigits u ++ [UInt8.ofNat (48 + d)] := by
  rw [Lib.decDigits, dif_neg (by omega)]
  congr 2
  · omega
  · congr 1; congr 1; omega
theorem dig_of (c : UInt8) (h : digB c) : UInt8.ofNat (48 + (c.toNat - 48)) = c := by
  unfold digB at h
  rw [show 48 + (c.toNat - 48) = c.toNat by omega]
  simp
theorem dec_val : ∀ (l : List UInt8) (acc : Nat), 1 ≤ acc → (∀ c ∈ l, digB c) → Lib.decDigits (valF acc l) = Lib.decDigits acc ++ l
  | [], acc, _, _ => by rw [valF_nil, List.append_nil]
  | c :: r, acc, h1, h => by
    have hc := h c (by simp)
    rw [valF_cons]
    have hc' := hc
    unfold digB at hc'
    rw [dec_val r _ (by omega) (fun d hd => h d (by simp [hd])), dec_snoc acc _ h1 (by omega), dig_of c hc]
    simp
theorem dec_lead (c : UInt8) (r : List UInt8) (hc : c.toNat ≠ 48) (h : ∀ d ∈ c :: r, digB d) : Lib.decDigits (valF 0 (c :: r)) = c :: r := by
  have hd := h c (by simp)
  have hd' := hd
  unfold digB at hd'
  rw [valF_cons, Nat.zero_mul, Nat.zero_add]
  rw [dec_val r _ (by omega) (fun d hd => h d (by simp [hd])), Lib.decDigits, dif_pos (by omega), dig_of c hd]
  rfl
theorem dec_ne : ∀ u : Nat, Lib.decDigits u ≠ [] := fun u h => by
  have h1 := Lib.decDigits_length u
  have := Lib.nDigits_pos u
  rw [h] at h1
  simp at h1
  omega
theorem dec_head (u : Nat) : 1 ≤ u → ∀ c r, Lib.decDigits u = c :: r → c.toNat ≠ 48 := by
  induction u using Nat.strongRecOn with
  | _ u ih =>
    intro hu c r h
    rw [Lib.decDigits] at h
    by_cases h1 : u < 10
    · rw [dif_pos h1] at h
      simp only [List.cons.injEq] at h
      rw [← h.1]
      simp only [UInt8.toNat_ofNat']
      omega
    · rw [dif_neg h1] at h
      obtain ⟨d, q, hq⟩ : ∃ d q, Lib.decDigits (u / 10) = d :: q := by
        cases hx : Lib.decDigits (u / 10) with
        | nil => exact absurd hx (dec_ne _)
        | cons d q => exact ⟨d, q, rfl⟩
      rw [hq] at h
      simp only [List.cons_append, List.cons.injEq] at h
      rw [← h.1]
      exact ih (u / 10) (by omega) (by omega) d q hq
theorem itoa_nat (u : Nat) : Lib.itoa (u : Int) = Lib.decDigits u := by
  unfold Lib.itoa
  rw [if_neg (by omega)]
  rfl
/-- 10^(k) ≤ value of a numeral of k + 1 digits without a zero ahead, and less than 10^(k+1). -/
theorem val_bounds (c : UInt8) (r : List UInt8) (hc : c.toNat ≠ 48) (h : ∀ d ∈ c :: r, digB d) : Lib.nDigits (valF 0 (c :: r)) = r.length + 1 := by
  have := Lib.decDigits_length (valF 0 (c :: r))
  rw [dec_lead c r hc h] at this
  simpa using this.symm
theorem nd_lt (u k : Nat) (h : Lib.nDigits u = k) : u < 10 ^ k := by rw [← h]; exact Lib.lt_pow_nDigits u
theorem nd_ge : ∀ (u k : Nat), Lib.nDigits u = k + 2 → 10 ^ (k + 1) ≤ u := fun u k h => by
  refine Classical.byContradiction fun hn => ?_
  -- u < 10^(k+1): then at most k + 1 digits
  have hle : ∀ (j v : Nat), v < 10 ^ (j + 1) → Lib.nDigits v ≤ j + 1 := by
    intro j
    induction j with
    | zero => intro v hv; rw [Lib.nDigits_small (by simpa using hv)]; exact Nat.le_refl _
    | succ j ih =>
      intro v hv
      by_cases h10 : v < 10
      · rw [Lib.nDigits_small h10]; omega
      · rw [Lib.nDigits_big h10]
        have := ih (v / 10) (by rw [Nat.pow_succ] at hv; omega)
        omega
  have := hle k u (by omega)
  omega

theorem bytes_dig {s : ByteArray} (h : ∀ j : Int, 0 ≤ j → j < s.size → isDig (byteAt s j) = true) : ∀ c ∈ s.data.toList, digB c := fun c hc => by
  obtain ⟨i, hi, rfl⟩ := List.getElem_of_mem hc
  have hi' : i < s.size := by rw [Array.length_toList] at hi; exact hi
  have := h i (by omega) (by omega)
  rw [byteAt_lt (i := (i : Int)) (by simpa using hi')] at this
  simp only [Int.toNat_natCast, isDig, Bool.and_eq_true, decide_eq_true_eq] at this
  unfold digB
  rw [Array.getElem_toList]
  have e : (s[i]'hi') = s.data[i] := rfl
  rw [e] at this
  omega
theorem data_eq {s t : ByteArray} : s = t ↔ s.data.toList = t.data.toList := ⟨fun h => by rw [h], fun h => ByteArray.ext (Array.toList_inj.1 h)⟩

theorem isNum_law (s : ByteArray) (h0 : 0 < s.size) (hd : ∀ j : Int, 0 ≤ j → j < s.size → isDig (byteAt s j) = true) :
    isNumF s = (atoiOkF s && (decide (atoiValF s ≤ 1000000000) && decide (itoaF (atoiValF s) = s))) := by
  have hb := bytes_dig hd
  have hsz : s.data.toList.length = s.size := by rw [Array.length_toList]; rfl
  obtain ⟨c, r, hl⟩ : ∃ c r, s.data.toList = c :: r := by
    cases hx : s.data.toList with
    | nil => rw [hx] at hsz; simp at hsz; omega
    | cons c r => exact ⟨c, r, rfl⟩
  have hlen : s.size = r.length + 1 := by rw [← hsz, hl]; rfl
  have hb0 : byteAt s 0 = (c.toNat : Int) := by
    rw [byteAt_lt (by simpa using h0)]
    have : s.data.toList[0]? = some c := by rw [hl]; rfl
    rw [Array.getElem?_toList, Array.getElem?_eq_getElem (show 0 < s.data.size from h0)] at this
    have h3 := Option.some.inj this
    show ((s.data[0]'h0).toNat : Int) = _
    rw [h3]
  have hA := atoi_val s.data.toList (by rw [hl]; simp) hb
  have e1 : (s = bs [48]) ↔ c :: r = [48] := by rw [data_eq, hl]; rfl
  have e2 : (s = bs [49, 48, 48, 48, 48, 48, 48, 48, 48, 48]) ↔ c :: r = [49, 48, 48, 48, 48, 48, 48, 48, 48, 48] := by rw [data_eq, hl]; rfl
  have e3 : ∀ n : Int, (itoaF n = s) ↔ Lib.itoa n = c :: r := fun n => by rw [data_eq, hl]; simp [itoaF]
  have hval : valF 0 [(49 : UInt8), 48, 48, 48, 48, 48, 48, 48, 48, 48] = 1000000000 := by decide
  unfold isNumF atoiOkF atoiValF
  rw [hA, hl]
  rw [hl] at hb
  simp only [e1, e2, e3, hb0, hlen]
  by_cases h48 : c.toNat = 48
  · -- a zero ahead
    have hc : c = 48 := UInt8.toNat.inj h48
    have z2 : ¬ ((c.toNat : Int) ≠ 48) := by omega
    rw [decide_eq_false z2]
    simp only [Bool.and_false, Bool.false_and, Bool.or_false]
    by_cases hr : r = []
    · subst hr; subst hc
      have hv : valF 0 [(48 : UInt8)] = 0 := by decide
      rw [hv, if_pos (by decide)]
      simp [Lib.itoa, Lib.decDigits]
    · rw [decide_eq_false (fun h => hr (by simpa using (List.cons.inj h).2))]
      by_cases hv : valF 0 (c :: r) < 9223372036854775808
      · rw [if_pos hv]
        simp only [Bool.true_and]
        rw [decide_eq_false (p := Lib.itoa _ = _), Bool.and_false]
        intro h
        rw [itoa_nat] at h
        by_cases hz : valF 0 (c :: r) = 0
        · rw [hz, Lib.decDigits, dif_pos (by decide)] at h
          exact hr (by simpa using (List.cons.inj h).2.symm)
        · exact dec_head _ (by omega) c r h h48
      · rw [if_neg hv]; rfl
  · have hn := val_bounds c r h48 hb
    have hdl := dec_lead c r h48 hb
    have z1 : ¬ (c :: r = [48]) := fun h => h48 (by rw [(List.cons.inj h).1]; rfl)
    have z2 : ((c.toNat : Int) ≠ 48) := by omega
    rw [decide_eq_false z1, decide_eq_true z2, decide_eq_true (p := r.length + 1 ≠ 0) (by omega)]
    simp only [Bool.false_or, Bool.true_and]
    by_cases hv : valF 0 (c :: r) < 9223372036854775808
    · rw [if_pos hv]
      simp only [Bool.true_and]
      rw [decide_eq_true (p := Lib.itoa _ = _) (by rw [itoa_nat]; exact hdl), Bool.and_true]
      by_cases h9 : r.length + 1 < 10
      · have hlt := nd_lt _ _ hn
        have hp : (10 : Nat) ^ (r.length + 1) ≤ 10 ^ 9 := Nat.pow_le_pow_right (by decide) (by omega)
        have e9 : (10 : Nat) ^ 9 = 1000000000 := by decide
        rw [decide_eq_true h9, Bool.true_or, decide_eq_true (by omega)]
      · rw [decide_eq_false h9, Bool.false_or]
        obtain ⟨k, hk⟩ : ∃ k, r.length + 1 = k + 2 := ⟨r.length - 1, by omega⟩
        have hge := nd_ge _ k (by rw [hn, hk])
        have hp : (10 : Nat) ^ 9 ≤ 10 ^ (k + 1) := Nat.pow_le_pow_right (by decide) (by omega)
        have e9 : (10 : Nat) ^ 9 = 1000000000 := by decide
        by_cases heq : c :: r = [49, 48, 48, 48, 48, 48, 48, 48, 48, 48]
        · rw [decide_eq_true heq, heq, hval]; rfl
        · rw [decide_eq_false heq, decide_eq_false]
          intro hle
          refine heq ?_
          have hv9 : valF 0 (c :: r) = 1000000000 := by omega
          rw [← hdl, hv9, ← hval]
          exact dec_lead 49 [48, 48, 48, 48, 48, 48, 48, 48, 48] (by decide) (fun d hd => by simp only [List.mem_cons, List.not_mem_nil, or_false] at hd; unfold digB; rcases hd with rfl | rfl | rfl | rfl | rfl | rfl | rfl | rfl | rfl | rfl <;> decide)
    · rw [if_neg hv]
      have h10 : ¬ (r.length + 1 < 10) := fun h9 => by
        have hlt := nd_lt _ _ hn
        have hp : (10 : Nat) ^ (r.length + 1) ≤ 10 ^ 9 := Nat.pow_le_pow_right (by decide) (by omega)
        have e9 : (10 : Nat) ^ 9 = 1000000000 := by decide
        omega
      have hne : ¬ (c :: r = [49, 48, 48, 48, 48, 48, 48, 48, 48, 48]) := fun h => by rw [h, hval] at hv; omega
      rw [decide_eq_false h10, decide_eq_false hne]; rfl
end Go.Proofs.Tryd
set_option autoImplicit false
set_option linter.all false
namespace Go.Proofs.Tryd
open Go Go.VM

def tkind (c : Int) (t : ByteArray) : Int := if c = 4 then (if isKeyF t then 3 else 1) else if c = 5 then 2 else 4
theorem tok_kind2 (s : ByteArray) (i : Int) : (tokF s i).1.1 = tkind (cls (byteAt (s.extract i.toNat s.size) 0)) (tokF s i).1.2.1 := by
  unfold tokF tkind
  simp only
  by_cases h4 : cls (byteAt (s.extract i.toNat s.size) 0) = 4
  · rw [if_pos h4]
    by_cases hk : isKeyF (whilF (s.extract i.toNat s.size) [4, 5]) = true
    · rw [if_pos hk]; simp only [if_pos h4, if_pos hk]
    · rw [if_neg hk]; simp only [if_pos h4, if_neg hk]
  · rw [if_neg h4]
    by_cases h5 : cls (byteAt (s.extract i.toNat s.size) 0) = 5
    · rw [if_pos h5]; simp only [if_neg h4, if_pos h5]
    · rw [if_neg h5]; simp only [if_neg h4, if_neg h5]
theorem tkind_pos (c : Int) (t : ByteArray) : tkind c t ≠ 0 := by
  unfold tkind
  split
  · split <;> omega
  · split <;> omega
theorem right_tok {a : Lx} (h : isRightF a = true) : 0 < a.2.1.size ∧ (tokF a.2.1 0).2 = true ∧ (tokF a.2.1 0).1.2.1 = a.2.1 ∧ (tokF a.2.1 0).1.1 = a.1 := by
  unfold isRightF at h
  simp only [Bool.and_eq_true, decide_eq_true_eq] at h
  obtain ⟨h1, h2⟩ := h
  unfold kindF at h1 h2
  split at h1
  · simp at h1
  · rename_i hn
    rw [if_neg hn] at h2
    simp only at h1 h2
    split at h1
    · simp at h1
    · rename_i hm
      rw [if_neg hm] at h2
      refine ⟨by have := fun e => hn (.inl e); omega, ?_, ?_, h2⟩
      · exact Classical.byContradiction fun e => hm (.inl (by simpa using e))
      · exact Classical.byContradiction fun e => hm (.inr e)
theorem ext_all (s : ByteArray) : s.extract (0 : Int).toNat s.size = s := by simp
theorem apart_need {a : Lx} (b : Lx) (h : isRightF a = true) : apartF a b = needF a b := by
  obtain ⟨h1, h2, h3, h4⟩ := right_tok h
  unfold apartF needF rTokF
  simp only
  by_cases ht : (tokF (a.2.1 ++ b.2.1) 0).1.2.1 = a.2.1
  · rw [decide_eq_false (p := (tokF (a.2.1 ++ b.2.1) 0).1.2.1 ≠ a.2.1) (fun e => e ht)]
    simp only [Bool.false_or, Bool.or_false]
    have hk := tok_kind2 (a.2.1 ++ b.2.1) 0
    have hk2 := tok_kind2 a.2.1 0
    rw [ext_all] at hk hk2
    rw [byteAt_app_l (by omega) (by omega), ht] at hk
    rw [h3, h4] at hk2
    by_cases hp : (tokF (a.2.1 ++ b.2.1) 0).2 = true
    · have e : (if (tokF (a.2.1 ++ b.2.1) 0).2 = true then (tokF (a.2.1 ++ b.2.1) 0).1.1 else 0) = a.1 := by rw [if_pos hp, hk, ← hk2]
      refine (decide_eq_false (fun h => h e)).trans ?_; rw [hp]; rfl
    · have e : (if (tokF (a.2.1 ++ b.2.1) 0).2 = true then (tokF (a.2.1 ++ b.2.1) 0).1.1 else 0) ≠ a.1 := by rw [if_neg hp, hk2]; exact (tkind_pos _ _).symm
      simp only [Bool.not_eq_true] at hp
      refine (decide_eq_true e).trans ?_; rw [hp]; rfl
  · rw [decide_eq_true (p := (tokF (a.2.1 ++ b.2.1) 0).1.2.1 ≠ a.2.1) ht]; simp

/-! ### bare texts -/
theorem bare_snoc (t : Lx) : ∀ (r : List Lx) (o : Option Lx) (acc : ByteArray), bareGo o (r ++ [t]) acc =
    (match (match r.getLast? with | some p => some p | none => o) with
    | none => bareGo o r acc ++ t.2.1
    | some p => (if needF p t then bareGo o r acc ++ blank else bareGo o r acc) ++ t.2.1)
  | [], none, acc => rfl
  | [], some p, acc => rfl
  | x :: r, o, acc => by
    have ih := bare_snoc t r (some x) (match o with | none => acc ++ x.2.1 | some p => (if needF p x then acc ++ blank else acc) ++ x.2.1)
    have hl : (x :: r).getLast? = (match r.getLast? with | some p => some p | none => some x) := by
      cases r with
      | nil => rfl
      | cons y r => rw [List.getLast?_cons_cons]; cases hg : (y :: r).getLast? with
        | none => simp at hg
        | some p => rfl
    rw [hl]
    cases o with
    | none =>
      show bareGo (some x) (r ++ [t]) (acc ++ x.2.1) = _
      rw [ih]
      cases hg : r.getLast? <;> rfl
    | some p =>
      show bareGo (some x) (r ++ [t]) ((if needF p x then acc ++ blank else acc) ++ x.2.1) = _
      rw [ih]
      cases hg : r.getLast? <;> rfl
theorem take_snoc {α : Type} (l : List α) (i : Nat) (h : i < l.length) : l.take (i + 1) = l.take i ++ [l[i]] := by
  rw [List.take_succ, List.getElem?_eq_getElem h]; rfl
theorem take_last {α : Type} (l : List α) (i : Nat) (h : i < l.length) : (l.take (i + 1)).getLast? = some l[i] := by
  rw [take_snoc l i h, List.getLast?_append]; rfl
theorem bare_0 (l : List Lx) : bareF (l.take 0) = ByteArray.empty := rfl
theorem bare_1 (l : List Lx) (h : 0 < l.length) : bareF (l.take 1) = ByteArray.empty ++ l[0].2.1 := by
  unfold bareF
  rw [take_snoc l 0 h, bare_snoc]; rfl
theorem bare_step (l : List Lx) (i : Nat) (h : i + 1 < l.length) : bareF (l.take (i + 2)) = (if needF l[i] l[i + 1] then bareF (l.take (i + 1)) ++ blank else bareF (l.take (i + 1))) ++ l[i + 1].2.1 := by
  unfold bareF
  rw [take_snoc l (i + 1) h, bare_snoc, take_last l i (by omega)]
theorem bare_size (l : List Lx) (hl : ∀ x ∈ l, x.2.1.size ≤ 3000) : ∀ i : Nat, i ≤ l.length → (bareF (l.take i)).size ≤ i * 3001
  | 0, _ => by rw [bare_0]; simp
  | 1, h => by
    rw [bare_1 l h, app_size]
    have := hl l[0] (List.getElem_mem _)
    simp; omega
  | i + 2, h => by
    have ih := bare_size l hl (i + 1) (by omega)
    have := hl l[i + 1] (List.getElem_mem _)
    rw [bare_step l i h, app_size]
    split
    · rw [app_size, show blank.size = 1 from rfl]; omega
    · omega
theorem bare_mono (l : List Lx) : ∀ i : Nat, i < l.length → (bareF (l.take i)).size ≤ (bareF (l.take (i + 1))).size
  | 0, h => by rw [bare_0]; simp
  | i + 1, h => by
    rw [bare_step l i h, app_size]
    split
    · rw [app_size]; omega
    · omega
theorem bare_le (l : List Lx) (i : Nat) : ∀ k : Nat, i + k ≤ l.length → (bareF (l.take i)).size ≤ (bareF (l.take (i + k))).size
  | 0, _ => Nat.le_refl _
  | k + 1, h => Nat.le_trans (bare_le l i k (by omega)) (bare_mono l (i + k) (by omega))
theorem bare_all (l : List Lx) : bareF (l.take l.length) = bareF l := by rw [List.take_length]
theorem bare_pos (l : List Lx) (hl : ∀ x ∈ l, 0 < x.2.1.size) (i : Nat) (h0 : 0 < i) (h : i ≤ l.length) : 0 < (bareF (l.take i)).size := by
  have h1 : 0 < (bareF (l.take 1)).size := by
    rw [bare_1 l (by omega), app_size]
    have := hl l[0] (List.getElem_mem _)
    omega
  have := bare_le l 1 (i - 1) (by omega)
  rw [show 1 + (i - 1) = i by omega] at this
  omega
end Go.Proofs.Tryd
set_option autoImplicit false
set_option linter.all false
namespace Go.Proofs.Tryd
open Go Go.VM

theorem hdN_step (a b : ByteArray) (m : Nat) (i : Int) (h0 : 0 ≤ i) (h : i < m) : hdN a b m ((m : Int) - i).toNat = if byteAt a i = byteAt b i then hdN a b m ((m : Int) - (i + 1)).toNat else i := by
  obtain ⟨n, hn⟩ : ∃ n : Nat, ((m : Int) - i).toNat = n + 1 := ⟨((m : Int) - i).toNat - 1, by omega⟩
  have e1 : ((m : Int) - (i + 1)).toNat = n := by omega
  have e2 : (m : Int) - (n + 1 : Nat) = i := by omega
  rw [hn, e1]
  simp only [hdN, e2]
theorem hdN_end (a b : ByteArray) (m : Nat) (i : Int) (h : i = m) : hdN a b m ((m : Int) - i).toNat = m := by
  rw [show ((m : Int) - i).toNat = 0 by omega]; rfl
theorem hdN_le (a b : ByteArray) (m : Nat) : ∀ n : Nat, n ≤ m → (m : Int) - n ≤ hdN a b m n ∧ hdN a b m n ≤ m
  | 0, _ => by simp only [hdN]; omega
  | n + 1, h => by
    have := hdN_le a b m n (by omega)
    simp only [hdN]
    split <;> omega
theorem hdF_le (a b : ByteArray) : 0 ≤ hdF a b ∧ hdF a b ≤ a.size ∧ hdF a b ≤ b.size := by
  have := hdN_le a b (min a.size b.size) (min a.size b.size) (Nat.le_refl _)
  unfold hdF
  omega
theorem tlN_step (a b : ByteArray) (m : Nat) (i : Int) (h0 : 0 ≤ i) (h : i < m) : tlN a b m ((m : Int) - i).toNat = if byteAt a ((a.size : Int) - 1 - i) = byteAt b ((b.size : Int) - 1 - i) then tlN a b m ((m : Int) - (i + 1)).toNat else i := by
  obtain ⟨n, hn⟩ : ∃ n : Nat, ((m : Int) - i).toNat = n + 1 := ⟨((m : Int) - i).toNat - 1, by omega⟩
  have e1 : ((m : Int) - (i + 1)).toNat = n := by omega
  have e2 : (m : Int) - (n + 1 : Nat) = i := by omega
  rw [hn, e1]
  simp only [tlN, e2]
theorem tlN_end (a b : ByteArray) (m : Nat) (i : Int) (h : i = m) : tlN a b m ((m : Int) - i).toNat = m := by
  rw [show ((m : Int) - i).toNat = 0 by omega]; rfl
theorem tlN_le (a b : ByteArray) (m : Nat) : ∀ n : Nat, n ≤ m → (m : Int) - n ≤ tlN a b m n ∧ tlN a b m n ≤ m
  | 0, _ => by simp only [tlN]; omega
  | n + 1, h => by
    have := tlN_le a b m n (by omega)
    simp only [tlN]
    split <;> omega
def tlM (a b : ByteArray) : Nat := min (a.size - (hdF a b).toNat) (b.size - (hdF a b).toNat)
theorem tlF_le (a b : ByteArray) : 0 ≤ tlF a b ∧ tlF a b + hdF a b ≤ a.size ∧ tlF a b + hdF a b ≤ b.size := by
  obtain ⟨h1, h2, h3⟩ := hdF_le a b
  have := tlN_le a b (tlM a b) (tlM a b) (Nat.le_refl _)
  unfold tlM at this
  unfold tlF
  simp only
  omega

/-! ### tokens alike -/
theorem hdT_drop (fr : Int) (l m : List Lx) (i : Nat) (h1 : i < l.length) (h2 : i < m.length) : hdT fr (l.drop i) (m.drop i) = if l[i].2.2 < fr ∧ l[i] = m[i] then hdT fr (l.drop (i + 1)) (m.drop (i + 1)) + 1 else 0 := by
  rw [List.drop_eq_getElem_cons h1, List.drop_eq_getElem_cons h2]
  rfl
theorem hdT_end (fr : Int) (l m : List Lx) (i : Nat) (h : l.length ≤ i ∨ m.length ≤ i) : hdT fr (l.drop i) (m.drop i) = 0 := by
  rcases h with h | h
  · rw [List.drop_eq_nil_of_le h]; simp [hdT]
  · rw [show m.drop i = [] from List.drop_eq_nil_of_le h]; unfold hdT; split <;> simp_all
theorem hdT_le (fr : Int) : ∀ l m : List Lx, hdT fr l m ≤ l.length ∧ hdT fr l m ≤ m.length
  | [], m => by simp [hdT]
  | x :: l, [] => by simp [hdT]
  | x :: l, y :: m => by
    have := hdT_le fr l m
    simp only [hdT, List.length_cons]
    split <;> omega
theorem hdT_at (fr : Int) : ∀ (l m : List Lx) (k : Nat) (h1 : k < l.length) (h2 : k < m.length), k < hdT fr l m → l[k].2.2 < fr ∧ l[k] = m[k]
  | [], m, k, h1, _, _ => by simp at h1
  | x :: l, [], k, _, h2, _ => by simp at h2
  | x :: l, y :: m, k, h1, h2, h => by
    simp only [hdT] at h
    split at h
    · rename_i hc
      cases k with
      | zero => exact hc
      | succ k => exact hdT_at fr l m k (by simpa using h1) (by simpa using h2) (by omega)
    · omega
def tlC (to by_ : Int) (x y : Lx) : Prop := to ≤ x.2.2 ∧ x.1 = y.1 ∧ x.2.1 = y.2.1 ∧ y.2.2 = x.2.2 + by_
instance (to by_ : Int) (x y : Lx) : Decidable (tlC to by_ x y) := by unfold tlC; infer_instance
theorem tlT_drop (to by_ : Int) (l m : List Lx) (i : Nat) (h1 : i < l.length) (h2 : i < m.length) :
    tlT to by_ (l.reverse.drop i) (m.reverse.drop i) = if tlC to by_ (l[l.length - 1 - i]'(by omega)) (m[m.length - 1 - i]'(by omega)) then tlT to by_ (l.reverse.drop (i + 1)) (m.reverse.drop (i + 1)) + 1 else 0 := by
  rw [List.drop_eq_getElem_cons (by simpa using h1), List.drop_eq_getElem_cons (l := m.reverse) (by simpa using h2)]
  simp only [List.getElem_reverse]
  rfl
theorem tlT_end (to by_ : Int) (l m : List Lx) (i : Nat) (h : l.length ≤ i ∨ m.length ≤ i) : tlT to by_ (l.reverse.drop i) (m.reverse.drop i) = 0 := by
  rcases h with h | h
  · rw [List.drop_eq_nil_of_le (by simpa using h)]; simp [tlT]
  · rw [show m.reverse.drop i = [] from List.drop_eq_nil_of_le (by simpa using h)]; unfold tlT; split <;> simp_all
theorem tlT_le (to by_ : Int) : ∀ l m : List Lx, tlT to by_ l m ≤ l.length ∧ tlT to by_ l m ≤ m.length
  | [], m => by simp [tlT]
  | x :: l, [] => by simp [tlT]
  | x :: l, y :: m => by
    have := tlT_le to by_ l m
    simp only [tlT, List.length_cons]
    split <;> omega
/-- No token counts for both. -/
theorem no_overlap (fr to : Int) (p : Nat) (hft : fr ≤ to) (l m : List Lx) (t : Nat) (h1 : t < l.length) (h2 : t < m.length) (h : min l.length m.length - hdT fr l m ≤ t) :
    ¬ tlC to ((p : Int) - (to - fr)) (l[l.length - 1 - t]'(by omega)) (m[m.length - 1 - t]'(by omega)) := by
  intro hc
  obtain ⟨c1, _, _, c4⟩ := hc
  obtain ⟨b1, b2⟩ := hdT_le fr l m
  by_cases hlm : l.length ≤ m.length
  · have := (hdT_at fr l m (l.length - 1 - t) (by omega) (by omega) (by omega)).1
    omega
  · obtain ⟨e1, e2⟩ := hdT_at fr l m (m.length - 1 - t) (by omega) (by omega) (by omega)
    rw [← e2] at c4
    omega
theorem tlT_sum (fr to : Int) (p : Nat) (hft : fr ≤ to) (l m : List Lx) : hdT fr l m + tlT to ((p : Int) - (to - fr)) l.reverse m.reverse ≤ min l.length m.length := by
  obtain ⟨b1, b2⟩ := hdT_le fr l m
  obtain ⟨c1, c2⟩ := tlT_le to ((p : Int) - (to - fr)) l.reverse m.reverse
  rw [List.length_reverse] at c1 c2
  refine Classical.byContradiction fun hn => ?_
  -- the tail's t-th condition, t = min - head, holds
  have hall : ∀ (i : Nat) (hi : i ≤ tlT to ((p : Int) - (to - fr)) l.reverse m.reverse), tlT to ((p : Int) - (to - fr)) (l.reverse.drop i) (m.reverse.drop i) = tlT to ((p : Int) - (to - fr)) l.reverse m.reverse - i := by
    intro i
    induction i with
    | zero => intro _; simp
    | succ i ih =>
      intro hi
      have e := ih (by omega)
      rw [tlT_drop to _ l m i (by omega) (by omega)] at e
      split at e
      · omega
      · omega
  have e := hall (min l.length m.length - hdT fr l m) (by omega)
  rw [tlT_drop to _ l m _ (by omega) (by omega), if_neg (no_overlap fr to p hft l m _ (by omega) (by omega) (Nat.le_refl _))] at e
  omega
end Go.Proofs.Tryd
set_option autoImplicit false
set_option linter.all false
namespace Go.Proofs.Tryd
open Go Go.VM
abbrev Dd := Ed × ByteArray × ByteArray
def noD : Dd := (noEd, ByteArray.empty, ByteArray.empty)
def editF (s : ByteArray) (x : Ed) : Dd × Int :=
  if (chk s).2 ≠ 0 then (noD, (chk s).2) else if isEditF s x = false then (noD, 3)
  else if (chk (nowF s x)).2 ≠ 0 then (noD, (chk (nowF s x)).2) else ((x, s, nowF s x), 0)
def applyF (s : ByteArray) (x : Ed) : ByteArray × Int := ((editF s x).1.2.2, (editF s x).2)
def undoF (s : ByteArray) (x : Ed) : Ed × Int := if (editF s x).2 ≠ 0 then (noEd, (editF s x).2) else ((x.1, x.1 + x.2.2.size, s.extract x.1.toNat x.2.1.toNat), 0)
def bothTo (s : ByteArray) (x y : Ed) : Int := if x.1 + x.2.2.size ≤ y.2.1 then max x.2.1 (y.2.1 - (((nowF s x).size : Int) - s.size)) else x.2.1
def bothF (s : ByteArray) (x y : Ed) : Ed × Int :=
  if (editF s x).2 ≠ 0 then (noEd, (editF s x).2)
  else if (editF (nowF s x) y).2 ≠ 0 then (noEd, (editF (nowF s x) y).2)
  else ((min x.1 y.1, bothTo s x y, (nowF (nowF s x) y).extract (min x.1 y.1).toNat (((nowF (nowF s x) y).size : Int) - (s.size - bothTo s x y)).toNat), 0)
def endF (d : Dd) : Int := IntKind.i64.wrap (d.1.1 + d.1.2.2.size)
def moreF (d : Dd) : Int := IntKind.i64.wrap ((d.2.2.size : Int) - d.2.1.size)
def arePlacesF (l : List Lx) : Bool := l.all fun x => isPlaceF x.2.2
def patchF (l : List Lx) (x : Ed) (c : Ch) : List Lx × Int :=
  if 900 < l.length ∨ 900 < c.2.2.length ∨ 2500 < x.2.2.size then ([], 5)
  else if isPlaceF x.1 = false ∨ isPlaceF x.2.1 = false ∨ x.2.1 < x.1 ∨ c.1 < 0 ∨ c.2.1 < 0 ∨ (l.length : Int) < c.1 ∨ (l.length : Int) - c.1 < c.2.1 ∨ arePlacesF l = false ∨ arePlacesF c.2.2 = false then ([], 3)
  else if 900 < c.1 + c.2.2.length + c.2.1 then ([], 5)
  else (l.take c.1.toNat ++ c.2.2 ++ (l.drop ((l.length : Int) - c.2.1).toNat).map fun t => (t.1, t.2.1, t.2.2 + ((x.2.2.size : Int) - (x.2.1 - x.1))), 0)
def alikeF (a b : List Lx) : Bool := decide ((a.map fun x => (x.1, x.2.1)) = b.map fun x => (x.1, x.2.1))
end Go.Proofs.Tryd
set_option autoImplicit false
set_option linter.all false
namespace Go.Proofs.Tryd
open Go Go.RowKit
set_option maxHeartbeats 1000000 in
set_option maxRecDepth 100000 in
theorem ck_used (b : Nat) (w : World) (h0 : w.cell? ⟨b, 0, none⟩ = some (.pointer (some ⟨b, 0, none⟩))) :
    Calls prog 118 #[.pointer (some ⟨b, 0, none⟩)] w fun e w' => e = .returned (.tuple #[]) ∧ w' = w := by
  obtain ⟨j, hj⟩ : ∃ j, prog.info? 108 = some j := ⟨_, rfl⟩
  go_enter func118, ntmps118
  go_wp2
  rw [Lib.run_neq_ptr_same w _ underlying105 hj]
  go_wp2
  go_end0
  exact ⟨rfl, rfl⟩

set_option maxHeartbeats 1000000 in
set_option maxRecDepth 100000 in
theorem ck_fresh (b : Nat) (w : World) (h0 : w.cell? ⟨b, 0, none⟩ = some (.pointer none)) (hsh : w.shape? b = some (108, 2)) (hfz : w.frozen? ⟨b, 0, none⟩ = false) :
    Calls prog 118 #[.pointer (some ⟨b, 0, none⟩)] w fun e w' => e = .returned (.tuple #[]) ∧ w' = w.setCell ⟨b, 0, none⟩ (.pointer (some ⟨b, 0, none⟩)) := by
  obtain ⟨j, hj, hjs⟩ : ∃ j, prog.info? 108 = some j ∧ j.size ≠ 0 := ⟨_, rfl, by decide⟩
  go_enter func118, ntmps118
  go_wp2
  rw [Lib.run_to_unsafe w ⟨b, 0, none⟩ underlying105 underlying136 hj hjs hsh (Nat.zero_lt_succ 1)]
  simp only [Result.andThen]
  rw [Oper.upon_value]
  go_wp2
  rw [run_callFunc_extern func130 (by kernel_rfl) (by kernel_rfl) (by kernel_rfl) (e := Extern.AbiNoEscape.same) (by kernel_rfl)]
  rw [Lib.run_noEscape]
  simp only [Result.andThen]
  rw [Oper.upon_value]
  go_wp2
  rw [Lib.run_from_unsafe w ⟨b, 0, none⟩ underlying136 underlying105 hj hsh (by kernel_rfl)]
  simp only [Result.andThen]
  rw [Oper.upon_value]
  go_wp2
  go_end0
  exact ⟨rfl, rfl⟩

set_option maxHeartbeats 2000000 in
set_option maxRecDepth 100000 in
theorem sb_nil (b : Nat) (p : Value) (w : World) (hbk : w.heap[b]? = some (.cells #[p, .slice none 0 0] 108 (0, 0))) :
    Calls prog 100 #[.pointer (some ⟨b, 0, none⟩)] w fun e w' => e = .returned (.string ⟨#[]⟩) ∧ w' = w.drew := by
  have hUS : ∀ (W : World) (q : Option Addr), (Builtin.unsafeString_ #[126, 3] 9 #[.pointer q, .int .i64 0]).run prog W = .ok (.string .empty) W := fun W q => Lib.run_unsafeString_none W _ _ _ q
  have c1 : w.drew.cell? ⟨b, 1, none⟩ = some (.slice none 0 0) := by
    have : w.drew.heap[b]? = some (.cells #[p, .slice none 0 0] 108 (0, 0)) := hbk
    rw [Lib.cell_of_heap this]; rfl
  have hSD : (Builtin.unsafeSliceData_ #[106] 126 #[.slice none 0 0]).run prog w.drew = .ok (.pointer none) w.drew := rfl
  have mixed : prog.follows .mixedOrders = true := by kernel_rfl
  go_enter func100, ntmps100
  go_wp2
  go_region_o
  all_goals (go_wp2; go_ret; exact ⟨rfl, rfl⟩)

set_option maxHeartbeats 2000000 in
set_option maxRecDepth 100000 in
theorem sb_row (b g cap : Nat) (p : Value) (cur : Array Value) (l : List UInt8) (w : World) (hbk : w.heap[b]? = some (.cells #[p, .slice (some ⟨g, 0, none⟩) l.length cap] 108 (0, 0))) (hg : w.heap[g]? = some (.cells cur 5 (0, 0))) (h0 : l ≠ []) (hc0 : cap ≠ 0) (hlc : l.length ≤ cur.size) (hbig : l.length ≤ 4611686018427387904)
    (hb : ∀ (j : Nat) (x : UInt8), l[j]? = some x → cur[j]? = some (Value.int .u8 x.toNat)) :
    Calls prog 100 #[.pointer (some ⟨b, 0, none⟩)] w fun e w' => e = .returned (.string ⟨l.toArray⟩) ∧ w' = w.drew.freeze ⟨g, 0, none⟩ l.length := by
  have c1 : w.drew.cell? ⟨b, 1, none⟩ = some (.slice (some ⟨g, 0, none⟩) l.length cap) := by
    have : w.drew.heap[b]? = some (.cells #[p, .slice (some ⟨g, 0, none⟩) l.length cap] 108 (0, 0)) := hbk
    rw [Lib.cell_of_heap this]; rfl
  have hg' : w.drew.heap[g]? = some (.cells cur 5 (0, 0)) := hg
  have hSD : (Builtin.unsafeSliceData_ #[106] 126 #[.slice (some ⟨g, 0, none⟩) l.length cap]).run prog w.drew = .ok (.pointer (some ⟨g, 0, none⟩)) w.drew :=
    Lib.run_unsafeSliceData_row _ _ _ _ _ _ hc0
  have hUS : (Builtin.unsafeString_ #[126, 3] 9 #[.pointer (some ⟨g, 0, none⟩), .int .i64 l.length]).run prog w.drew = .ok (.string ⟨l.toArray⟩) (w.drew.freeze ⟨g, 0, none⟩ l.length) := by
    refine Lib.run_unsafeString_row w.drew 126 3 9 5 underlying126 (by kernel_rfl) g cur.size (by simp [World.shape?, hg']) l h0 hlc (by omega) ?_
    intro j x hx
    have e : ((⟨g, 0, none⟩ : Addr).add j) = ⟨g, j, none⟩ := by simp [Addr.add]; omega
    rw [e, Lib.cell_of_heap hg']
    exact hb j x hx
  clear hb hg hg' hlc hbk
  have mixed : prog.follows .mixedOrders = true := by kernel_rfl
  go_enter func100, ntmps100
  go_wp2
  go_region_o
  all_goals (go_wp2; go_ret; exact ⟨rfl, rfl⟩)

theorem has118 : VM.Has prog 118 := ⟨f118, func118, by kernel_rfl, by kernel_rfl⟩
theorem has100 : VM.Has prog 100 := ⟨f100, func100, by kernel_rfl, by kernel_rfl⟩
theorem x118 : VM.XOk prog 118 (VM.ckX 108) := VM.ckX_ok has118 ck_used ck_fresh
theorem x100 : VM.XOk prog 100 (VM.sbX 108 5) := VM.sbX_ok has100 sb_row sb_nil
end Go.Proofs.Tryd
namespace Go.Proofs
open Go.Shelf
def Tryd.laysM171_ren : Go.Shelf.Ren := ⟨fun | 171 => 116 | 243 => 129 | 246 => 142 | 283 => 148 | 284 => 149 | 285 => 150 | 286 => 151 | 129 => 155 | 317 => 154 | 318 => 156 | 319 => 157 | 320 => 158 | 337 => 159 | 338 => 160 | n => n, fun | 3 => 3 | 9 => 9 | 2 => 2 | 4 => 4 | 171 => 155 | 0 => 0 | 53 => 130 | 37 => 106 | 5 => 5 | 173 => 158 | 212 => 169 | 51 => 127 | 20 => 20 | 213 => 170 | 46 => 116 | 232 => 173 | 233 => 174 | n => n, fun | 17 => 5 | 18 => 6 | 19 => 7 | n => n⟩
theorem Tryd.laysM171 : Go.Proofs.LaysM.n171 Tryd.prog Tryd.laysM171_ren := {
  mixed := by kernel_rfl
  f129 := Tryd.func155.trans (congrArg some (by kernel_rfl))
  f171 := Tryd.func116.trans (congrArg some (by kernel_rfl))
  f243 := Tryd.func129.trans (congrArg some (by kernel_rfl))
  f246 := Tryd.func142.trans (congrArg some (by kernel_rfl))
  f283 := Tryd.func148.trans (congrArg some (by kernel_rfl))
  f284 := Tryd.func149.trans (congrArg some (by kernel_rfl))
  f285 := Tryd.func150.trans (congrArg some (by kernel_rfl))
  f286 := Tryd.func151.trans (congrArg some (by kernel_rfl))
  f317 := Tryd.func154.trans (congrArg some (by kernel_rfl))
  f318 := Tryd.func156.trans (congrArg some (by kernel_rfl))
  f319 := Tryd.func157.trans (congrArg some (by kernel_rfl))
  f320 := Tryd.func158.trans (congrArg some (by kernel_rfl))
  f337 := Tryd.func159.trans (congrArg some (by kernel_rfl))
  f338 := Tryd.func160.trans (congrArg some (by kernel_rfl))
  t0 := Tryd.underlying0
  a0 := Tryd.isAgg0
  z0 := Tryd.sizeOf0
  v0 := Tryd.zeroValue0
  t2 := Tryd.underlying2
  a2 := Tryd.isAgg2
  z2 := Tryd.sizeOf2
  v2 := Tryd.zeroValue2
  t3 := Tryd.underlying3
  a3 := Tryd.isAgg3
  z3 := Tryd.sizeOf3
  v3 := Tryd.zeroValue3
  t4 := Tryd.underlying4
  a4 := Tryd.isAgg4
  z4 := Tryd.sizeOf4
  v4 := Tryd.zeroValue4
  t5 := Tryd.underlying5
  a5 := Tryd.isAgg5
  z5 := Tryd.sizeOf5
  v5 := Tryd.zeroValue5
  t9 := Tryd.underlying9
  a9 := Tryd.isAgg9
  z9 := Tryd.sizeOf9
  v9 := Tryd.zeroValue9
  t20 := Tryd.underlying20
  a20 := Tryd.isAgg20
  z20 := Tryd.sizeOf20
  v20 := Tryd.zeroValue20
  t37 := Tryd.underlying106
  a37 := Tryd.isAgg106
  z37 := Tryd.sizeOf106
  v37 := Tryd.zeroValue106
  t46 := Tryd.underlying116
  a46 := Tryd.isAgg116
  z46 := Tryd.sizeOf116
  v46 := Tryd.zeroValue116
  t51 := Tryd.underlying127
  a51 := Tryd.isAgg127
  z51 := Tryd.sizeOf127
  v51 := Tryd.zeroValue127
  t53 := Tryd.underlying130
  a53 := Tryd.isAgg130
  z53 := Tryd.sizeOf130
  v53 := Tryd.zeroValue130
  t171 := Tryd.underlying155
  a171 := Tryd.isAgg155
  z171 := Tryd.sizeOf155
  v171 := Tryd.zeroValue155
  t173 := Tryd.underlying158
  a173 := Tryd.isAgg158
  z173 := Tryd.sizeOf158
  v173 := Tryd.zeroValue158
  t212 := Tryd.underlying169
  a212 := Tryd.isAgg169
  z212 := Tryd.sizeOf169
  v212 := Tryd.zeroValue169
  t213 := Tryd.underlying170
  a213 := Tryd.isAgg170
  z213 := Tryd.sizeOf170
  t232 := Tryd.underlying173
  a232 := Tryd.isAgg173
  z232 := Tryd.sizeOf173
  v232 := Tryd.zeroValue173
  t233 := Tryd.underlying174
  a233 := Tryd.isAgg174
  z233 := Tryd.sizeOf174
  v233 := Tryd.zeroValue174
  g17 := by kernel_rfl
  g18 := by kernel_rfl
  g19 := by kernel_rfl
  i0 := by kernel_rfl
  i2 := by kernel_rfl
  i3 := by kernel_rfl
  i4 := by kernel_rfl
  i5 := by kernel_rfl
  i9 := by kernel_rfl
  i20 := by kernel_rfl
  i37 := by kernel_rfl
  i46 := by kernel_rfl
  i51 := by kernel_rfl
  i53 := by kernel_rfl
  i171 := by kernel_rfl
  i173 := by kernel_rfl
  i212 := by kernel_rfl
  i232 := by kernel_rfl
  i233 := by kernel_rfl
  m17 := by kernel_rfl
  m18 := by kernel_rfl
  m19 := by kernel_rfl }
open Go.RowKit Go.Sort Go.Lib in
theorem Tryd.strconv_Itoa (n : Int) (h0 : -9223372036854775808 ≤ n) (h1 : n ≤ 9223372036854775807) (w : World) (htab : Lib.TabIs Tryd.prog w "internal/strconv.uint64pow10" .u64 Lib.pow10Tab) :
    Calls Tryd.prog 116 #[.int .i64 n] w fun e w' => e = .returned (.string ⟨(Lib.itoa n).toArray⟩) ∧ ∃ k os, w' = grow (w.drewN k) os := Any.strconv_Itoa Tryd.laysM171 n h0 h1 w htab
def Tryd.laysC172_ren : Go.Shelf.Ren := ⟨fun | 172 => 115 | 244 => 127 | 245 => 128 | 247 => 137 | 279 => 138 | 280 => 139 | 281 => 140 | 282 => 141 | 287 => 145 | 316 => 146 | 171 => 116 | 205 => 147 | 321 => 152 | 322 => 153 | 243 => 129 | 246 => 142 | 283 => 148 | 284 => 149 | 285 => 150 | 286 => 151 | 129 => 155 | 317 => 154 | 318 => 156 | 319 => 157 | 320 => 158 | 337 => 159 | 338 => 160 | n => n, fun | 9 => 9 | 3 => 3 | 75 => 110 | 76 => 112 | 4 => 4 | 5 => 5 | 167 => 142 | 37 => 106 | 0 => 0 | 85 => 143 | 2 => 2 | 168 => 145 | 53 => 130 | 175 => 150 | 46 => 116 | 210 => 153 | 127 => 126 | 145 => 167 | 143 => 165 | 21 => 21 | 171 => 155 | 173 => 158 | 212 => 169 | 51 => 127 | 20 => 20 | 213 => 170 | 232 => 173 | 233 => 174 | 80 => 114 | n => n, fun | 15 => 1 | 16 => 2 | 17 => 5 | 18 => 6 | 19 => 7 | n => n⟩
theorem Tryd.laysC172 : Go.Proofs.LaysC.n172 Tryd.prog Tryd.laysC172_ren := {
  mixed := by kernel_rfl
  f129 := Tryd.func155.trans (congrArg some (by kernel_rfl))
  f171 := Tryd.func116.trans (congrArg some (by kernel_rfl))
  f172 := Tryd.func115.trans (congrArg some (by kernel_rfl))
  f205 := Tryd.func147.trans (congrArg some (by kernel_rfl))
  f243 := Tryd.func129.trans (congrArg some (by kernel_rfl))
  f244 := Tryd.func127.trans (congrArg some (by kernel_rfl))
  f245 := Tryd.func128.trans (congrArg some (by kernel_rfl))
  f246 := Tryd.func142.trans (congrArg some (by kernel_rfl))
  f247 := Tryd.func137.trans (congrArg some (by kernel_rfl))
  f279 := Tryd.func138.trans (congrArg some (by kernel_rfl))
  f280 := Tryd.func139.trans (congrArg some (by kernel_rfl))
  f281 := Tryd.func140.trans (congrArg some (by kernel_rfl))
  f282 := Tryd.func141.trans (congrArg some (by kernel_rfl))
  f283 := Tryd.func148.trans (congrArg some (by kernel_rfl))
  f284 := Tryd.func149.trans (congrArg some (by kernel_rfl))
  f285 := Tryd.func150.trans (congrArg some (by kernel_rfl))
  f286 := Tryd.func151.trans (congrArg some (by kernel_rfl))
  f287 := Tryd.func145.trans (congrArg some (by kernel_rfl))
  f316 := Tryd.func146.trans (congrArg some (by kernel_rfl))
  f317 := Tryd.func154.trans (congrArg some (by kernel_rfl))
  f318 := Tryd.func156.trans (congrArg some (by kernel_rfl))
  f319 := Tryd.func157.trans (congrArg some (by kernel_rfl))
  f320 := Tryd.func158.trans (congrArg some (by kernel_rfl))
  f321 := Tryd.func152.trans (congrArg some (by kernel_rfl))
  f322 := Tryd.func153.trans (congrArg some (by kernel_rfl))
  f337 := Tryd.func159.trans (congrArg some (by kernel_rfl))
  f338 := Tryd.func160.trans (congrArg some (by kernel_rfl))
  t0 := Tryd.underlying0
  a0 := Tryd.isAgg0
  z0 := Tryd.sizeOf0
  v0 := Tryd.zeroValue0
  t2 := Tryd.underlying2
  a2 := Tryd.isAgg2
  z2 := Tryd.sizeOf2
  v2 := Tryd.zeroValue2
  t3 := Tryd.underlying3
  a3 := Tryd.isAgg3
  z3 := Tryd.sizeOf3
  v3 := Tryd.zeroValue3
  t4 := Tryd.underlying4
  a4 := Tryd.isAgg4
  z4 := Tryd.sizeOf4
  v4 := Tryd.zeroValue4
  t5 := Tryd.underlying5
  a5 := Tryd.isAgg5
  z5 := Tryd.sizeOf5
  v5 := Tryd.zeroValue5
  t9 := Tryd.underlying9
  a9 := Tryd.isAgg9
  z9 := Tryd.sizeOf9
  v9 := Tryd.zeroValue9
  t20 := Tryd.underlying20
  a20 := Tryd.isAgg20
  z20 := Tryd.sizeOf20
  v20 := Tryd.zeroValue20
  t21 := Tryd.underlying21
  a21 := Tryd.isAgg21
  z21 := Tryd.sizeOf21
  v21 := Tryd.zeroValue21
  t37 := Tryd.underlying106
  a37 := Tryd.isAgg106
  z37 := Tryd.sizeOf106
  v37 := Tryd.zeroValue106
  t46 := Tryd.underlying116
  a46 := Tryd.isAgg116
  z46 := Tryd.sizeOf116
  v46 := Tryd.zeroValue116
  t51 := Tryd.underlying127
  a51 := Tryd.isAgg127
  z51 := Tryd.sizeOf127
  v51 := Tryd.zeroValue127
  t53 := Tryd.underlying130
  a53 := Tryd.isAgg130
  z53 := Tryd.sizeOf130
  v53 := Tryd.zeroValue130
  t75 := Tryd.underlying110
  a75 := Tryd.isAgg110
  z75 := Tryd.sizeOf110
  v75 := Tryd.zeroValue110
  t76 := Tryd.underlying112
  a76 := Tryd.isAgg112
  z76 := Tryd.sizeOf112
  v76 := Tryd.zeroValue112
  t85 := Tryd.underlying143
  a85 := Tryd.isAgg143
  z85 := Tryd.sizeOf143
  v85 := Tryd.zeroValue143
  t127 := Tryd.underlying126
  a127 := Tryd.isAgg126
  z127 := Tryd.sizeOf126
  v127 := Tryd.zeroValue126
  t143 := Tryd.underlying165
  a143 := Tryd.isAgg165
  z143 := Tryd.sizeOf165
  v143 := Tryd.zeroValue165
  t145 := Tryd.underlying167
  a145 := Tryd.isAgg167
  z145 := Tryd.sizeOf167
  v145 := Tryd.zeroValue167
  t167 := Tryd.underlying142
  a167 := Tryd.isAgg142
  z167 := Tryd.sizeOf142
  v167 := Tryd.zeroValue142
  t168 := Tryd.underlying145
  a168 := Tryd.isAgg145
  z168 := Tryd.sizeOf145
  v168 := Tryd.zeroValue145
  t171 := Tryd.underlying155
  a171 := Tryd.isAgg155
  z171 := Tryd.sizeOf155
  v171 := Tryd.zeroValue155
  t173 := Tryd.underlying158
  a173 := Tryd.isAgg158
  z173 := Tryd.sizeOf158
  v173 := Tryd.zeroValue158
  t175 := Tryd.underlying150
  a175 := Tryd.isAgg150
  z175 := Tryd.sizeOf150
  v175 := Tryd.zeroValue150
  t210 := Tryd.underlying153
  a210 := Tryd.isAgg153
  z210 := Tryd.sizeOf153
  v210 := Tryd.zeroValue153
  t212 := Tryd.underlying169
  a212 := Tryd.isAgg169
  z212 := Tryd.sizeOf169
  v212 := Tryd.zeroValue169
  t213 := Tryd.underlying170
  a213 := Tryd.isAgg170
  z213 := Tryd.sizeOf170
  t232 := Tryd.underlying173
  a232 := Tryd.isAgg173
  z232 := Tryd.sizeOf173
  v232 := Tryd.zeroValue173
  t233 := Tryd.underlying174
  a233 := Tryd.isAgg174
  z233 := Tryd.sizeOf174
  v233 := Tryd.zeroValue174
  g15 := by kernel_rfl
  g16 := by kernel_rfl
  g17 := by kernel_rfl
  g18 := by kernel_rfl
  g19 := by kernel_rfl
  t80 := Tryd.underlying114
  a80 := Tryd.isAgg114
  z80 := Tryd.sizeOf114
  v80 := Tryd.zeroValue114
  i0 := by kernel_rfl
  i2 := by kernel_rfl
  i3 := by kernel_rfl
  i4 := by kernel_rfl
  i5 := by kernel_rfl
  i9 := by kernel_rfl
  i20 := by kernel_rfl
  i21 := by kernel_rfl
  i37 := by kernel_rfl
  i46 := by kernel_rfl
  i51 := by kernel_rfl
  i53 := by kernel_rfl
  i75 := by kernel_rfl
  i76 := by kernel_rfl
  i80 := by kernel_rfl
  i85 := by kernel_rfl
  i127 := by kernel_rfl
  i143 := by kernel_rfl
  i145 := by kernel_rfl
  i167 := by kernel_rfl
  i168 := by kernel_rfl
  i171 := by kernel_rfl
  i173 := by kernel_rfl
  i175 := by kernel_rfl
  i210 := by kernel_rfl
  i212 := by kernel_rfl
  i232 := by kernel_rfl
  i233 := by kernel_rfl
  m15 := by kernel_rfl
  m16 := by kernel_rfl
  m17 := by kernel_rfl
  m18 := by kernel_rfl
  m19 := by kernel_rfl
  c0 := by kernel_rfl
  c2 := by kernel_rfl
  c3 := by kernel_rfl
  c4 := by kernel_rfl
  c5 := by kernel_rfl
  c9 := by kernel_rfl
  c20 := by kernel_rfl
  c21 := by kernel_rfl
  c37 := by kernel_rfl
  c46 := by kernel_rfl
  c51 := by kernel_rfl
  c53 := by kernel_rfl
  c75 := by kernel_rfl
  c76 := by kernel_rfl
  c80 := by kernel_rfl
  c85 := by kernel_rfl
  c127 := by kernel_rfl
  c143 := by kernel_rfl
  c145 := by kernel_rfl
  c167 := by kernel_rfl
  c168 := by kernel_rfl
  c171 := by kernel_rfl
  c173 := by kernel_rfl
  c175 := by kernel_rfl
  c210 := by kernel_rfl
  c212 := by kernel_rfl
  c213 := by kernel_rfl
  c232 := by kernel_rfl
  c233 := by kernel_rfl }
open Go.RowKit in
theorem Tryd.strconv_Atoi_ok (s : ByteArray) (hmax : s.size ≤ 9223372036854775806) (v : Int) (h : Lib.atoiAll s.data.toList = .ok v) (w : World) :
    Calls Tryd.prog 115 #[.string s] w fun e w' => e = .returned (.tuple #[.int .i64 v, .nilIface]) ∧ (w' = w ∨ ∃ t, w' = Lib.bytesWorld w 5 t) := Any.strconv_Atoi_ok Tryd.laysC172 s hmax v h w
open Go.RowKit in
theorem Tryd.strconv_Atoi_range (s : ByteArray) (hlim : s.size ≤ 281474976710656) (h : Lib.atoiAll s.data.toList = .range) (ev : Value) (w : World) (hv : w.cell? ⟨2, 0, none⟩ = some ev) (hev : ev = .nilIface ∨ ∃ te pe, ev = .iface te pe) :
    Calls Tryd.prog 115 #[.string s] w fun e w' => ∃ N, e = .returned (.tuple #[.int .i64 (Lib.atoiSat s.data.toList), .iface 145 (.pointer (some ⟨N, 0, none⟩))]) ∧ w.heap.size ≤ N ∧ w'.heap[N]? = some (.cells #[.string ⟨#[65, 116, 111, 105]⟩, .string s, ev] 153 (0, 0)) ∧ Below w.heap.size w w' := Any.strconv_Atoi_range Tryd.laysC172 s hlim h ev w hv hev
end Go.Proofs
namespace Go.Proofs

set_option maxHeartbeats 1000000 in
set_option maxRecDepth 100000 in
theorem Tryd.stringslite_IndexByte (s : ByteArray) (c : Int) (w : World) :
    Calls Tryd.prog 119 #[.string s, .int .u8 c] w fun e w' => e = .returned (.int .i64 (Lib.indexByte s.data.toList c.toNat.toUInt8)) ∧ w' = w := by
  go_enter Tryd.func119, Tryd.ntmps119
  go_wp2
  rw [run_callFunc_extern Tryd.func131 (by kernel_rfl) (by kernel_rfl) (by kernel_rfl) (e := Extern.BytealgIndexByte.indexByte) (by kernel_rfl), Lib.run_indexByteString]
  simp only [Result.andThen]
  rw [Oper.upon_value]
  go_wp2
  go_ret
  exact ⟨rfl, rfl⟩

end Go.Proofs
namespace Go.Proofs

set_option maxHeartbeats 1000000 in
theorem Tryd.strings_IndexByte (s : ByteArray) (c : Int) (w : World) :
    Calls Tryd.prog 104 #[.string s, .int .u8 c] w fun e w' => e = .returned (.int .i64 (Lib.indexByte s.data.toList c.toNat.toUInt8)) ∧ w' = w := by
  go_enter Tryd.func104, Tryd.ntmps104
  go_wp2_with (go_at_call 119; refine (Tryd.stringslite_IndexByte _ _ _).mono ?_; rintro e w' ⟨rfl, rfl⟩)
  go_ret
  exact ⟨rfl, rfl⟩

theorem Tryd.strings_IndexByte_not : ¬ ∀ (s : ByteArray) (c : Int) (w : World),
    Calls Tryd.prog 104 #[.string s, .int .u8 c] w fun e w' => e = .returned (.int .i64 ((s.size : Int) - 1 - Lib.indexByte s.data.toList.reverse c.toNat.toUInt8)) ∧ w' = w := by
  intro h
  have e := Lib.agree (by kernel_rfl) (Tryd.strings_IndexByte ⟨#[97, 97]⟩ 97 default) (h ⟨#[97, 97]⟩ 97 default)
  injection e with _ e
  revert e
  decide

end Go.Proofs
set_option autoImplicit false
set_option linter.all false
namespace Go.Proofs.Tryd
open Go Go.VM
set_option maxRecDepth 100000
abbrev P1 (t : Ty) := Ds [t] → Prop
abbrev M1 (t : Ty) := Ds [t] → Nat
abbrev P2 (t u : Ty) := Ds [t, u] → Prop
abbrev M2 (t u : Ty) := Ds [t, u] → Nat
def a56 (L : Lv) (I : P1 It) (mu : M1 It) : Nat → LAnn
  | 0 => anH L [0, 9, 10] [] [.s 10 It] I mu
  | _ => .no
def a59 (L : Lv) (I : P1 It) (mu : M1 It) : Nat → LAnn
  | 0 => anH L [0, 4] [] [.s 4 It] I mu
  | _ => .no
def a126 (L : Lv) (I : P1 It) (mu : M1 It) : Nat → LAnn
  | 0 => anH L [0, 1, 7, 8] [] [.s 8 It] I mu
  | _ => .no
def a57 (L : Lv) (I : P1 It) (mu : M1 It) : Nat → LAnn
  | 0 => anH L [0, 1] [] [.s 1 It] I mu
  | _ => .no
def a86 (L : Lv) (I : P1 It) (mu : M1 It) : Nat → LAnn
  | 0 => anH L [0, 1, 5] [] [.s 5 It] I mu
  | _ => .no
def a89 (L : Lv) (I : P2 .str It) (mu : M2 .str It) : Nat → LAnn
  | 0 => anH L [0, 2, 5, 6, 7] [] [.s 2 .str, .s 7 It] I mu
  | _ => .no
def a91 (L : Lv) (I : P1 It) (mu : M1 It) : Nat → LAnn
  | 0 => anH L [0, 1, 2] [] [.s 1 It] I mu
  | _ => .no
def a92 (L : Lv) (I : P1 It) (mu : M1 It) : Nat → LAnn
  | 0 => anH L [0, 3, 4] [] [.s 4 It] I mu
  | _ => .no
def a60 (L : Lv) (I : P2 It .bool) (mu : M2 It .bool) : Nat → LAnn
  | 0 => anH L [0, 1, 5] [] [.s 1 It, .s 5 .bool] I mu
  | _ => .no
noncomputable def vcO (L : Lv) (F : LexF) (l : List Nat) (d : FnD) (sp : VM.Spec) (x : Ds sp.ins) : VC := contractVC L E01 (callG L E01 (fOnly F l) 0) (spcOf (fOnly F l)) d sp x
def a0 : Nat → LAnn := fun _ => .no
/-- One function, by its body. -/
def inl1 (g : Nat) (d : FnD) : FuncId → FT := fun x => match Nat.beq x g with
  | true => .inl d
  | false => .no
def n56 (L : Lv) (F : LexF) (I : P1 It) (mu : M1 It) (s : ByteArray)  : VC :=
 VC.br (Lv.cmp L BinOp.gtr (Lv.cast L (Lv.slen L s)) 2500) (VC.ok ((0, 5, ()) = (Prod.fst (LexF.chk F s), Prod.snd (LexF.chk F s), ())))
 (VC.obl
 (St.mk 31 [(0, V.c (C.str s)), (9, V.c (C.int IntKind.i64 (Lv.cast L (Lv.slen L s)))), (10, V.c (C.int IntKind.i64 0))] [(0, Ob.amb)] 1 =
 St.mk 31 [(0, V.c (C.str s)), (9, V.c (C.int IntKind.i64 (Lv.cast L (Lv.slen L s)))), (10, V.c (C.int IntKind.i64 0))] [(0, Ob.amb)] 1)
 (VC.obl (I (0, ()))
 (VC.all (Int × Unit) fun (x : Int × Unit) =>
 VC.imp (I x)
 (VC.br (Lv.cmp L BinOp.lss (Prod.fst x) (Lv.cast L (Lv.slen L s)))
 (VC.obl (Lv.inR L (Prod.fst x) (Lv.slen L s))
 (VC.br (Lv.cmp L BinOp.neq (Lv.byte L s (Prod.fst x)) 10)
 (VC.obl (Lv.inR L (Prod.fst x) (Lv.slen L s))
 (VC.br (Lv.cmp L BinOp.lss (Lv.byte L s (Prod.fst x)) 32) (VC.ok ((Prod.fst x, 4, ()) = (Prod.fst (LexF.chk F s), Prod.snd (LexF.chk F s), ())))
 (VC.obl (Lv.inR L (Prod.fst x) (Lv.slen L s))
 (VC.br (Lv.cmp L BinOp.gtr (Lv.byte L s (Prod.fst x)) 126) (VC.ok ((Prod.fst x, 4, ()) = (Prod.fst (LexF.chk F s), Prod.snd (LexF.chk F s), ())))
 (VC.ok
 (St.mk 31 [(0, V.c (C.str s)), (9, V.c (C.int IntKind.i64 (Lv.cast L (Lv.slen L s)))), (10, V.c (C.int IntKind.i64 (Lv.ar L BinOp.add IntKind.i64 (Prod.fst x) 1)))]
 [(0, Ob.amb)] 1 =
 St.mk 31 [(0, V.c (C.str s)), (9, V.c (C.int IntKind.i64 (Lv.cast L (Lv.slen L s)))), (10, V.c (C.int IntKind.i64 (Lv.ar L BinOp.add IntKind.i64 (Prod.fst x) 1)))]
 [(0, Ob.amb)] 1 ∧
 I (Lv.ar L BinOp.add IntKind.i64 (Prod.fst x) 1, ()) ∧ mu (Lv.ar L BinOp.add IntKind.i64 (Prod.fst x) 1, ()) < mu x))))))
 (VC.ok
 (St.mk 31 [(0, V.c (C.str s)), (9, V.c (C.int IntKind.i64 (Lv.cast L (Lv.slen L s)))), (10, V.c (C.int IntKind.i64 (Lv.ar L BinOp.add IntKind.i64 (Prod.fst x) 1)))] [(0, Ob.amb)] 1 =
 St.mk 31 [(0, V.c (C.str s)), (9, V.c (C.int IntKind.i64 (Lv.cast L (Lv.slen L s)))), (10, V.c (C.int IntKind.i64 (Lv.ar L BinOp.add IntKind.i64 (Prod.fst x) 1)))] [(0, Ob.amb)]
 1 ∧
 I (Lv.ar L BinOp.add IntKind.i64 (Prod.fst x) 1, ()) ∧ mu (Lv.ar L BinOp.add IntKind.i64 (Prod.fst x) 1, ()) < mu x))))
 (VC.ok ((0, 0, ()) = (Prod.fst (LexF.chk F s), Prod.snd (LexF.chk F s), ())))))))
theorem n56_eq (L : Lv) (F : LexF) (I : P1 It) (mu : M1 It) (s : ByteArray) : vcO L F [] (D56 (a56 L I mu)) (S56 F) (s, ()) = n56 L F I mu s := by kernel_rfl
theorem n56_go (L : Lv) (F : LexF) (I : P1 It) (mu : M1 It) (s : ByteArray) (h : VC.holds (n56 L F I mu s)) : Holds (vcO L F [] (D56 (a56 L I mu)) (S56 F) (s, ())) := Holds.of_eq (n56_eq L F I mu s) h
def n59 (L : Lv) (F : LexF) (I : P1 It) (mu : M1 It) (s : ByteArray)  : VC :=
 VC.br (Lv.cmp L BinOp.gtr (Lv.cast L (Lv.slen L s)) 2500) (VC.ok ((0, 5, ()) = (Prod.fst (LexF.chk F s), Prod.snd (LexF.chk F s), ())))
 (VC.obl (St.mk 31 [(0, V.c (C.str s)), (4, V.c (C.int IntKind.i64 0))] [(0, Ob.amb)] 1 = St.mk 31 [(0, V.c (C.str s)), (4, V.c (C.int IntKind.i64 0))] [(0, Ob.amb)] 1)
 (VC.obl (I (0, ()))
 (VC.all (Int × Unit) fun (x : Int × Unit) =>
 VC.imp (I x)
 (VC.br (Lv.cmp L BinOp.lss (Prod.fst x) (Lv.cast L (Lv.slen L s)))
 (VC.obl (Lv.inR L (Prod.fst x) (Lv.slen L s))
 (VC.br (Lv.cmp L BinOp.neq (Lv.byte L s (Prod.fst x)) 10)
 (VC.obl (Lv.inR L (Prod.fst x) (Lv.slen L s))
 (VC.br (Lv.cmp L BinOp.lss (Lv.byte L s (Prod.fst x)) 32) (VC.ok ((Prod.fst x, 4, ()) = (Prod.fst (LexF.chk F s), Prod.snd (LexF.chk F s), ())))
 (VC.obl (Lv.inR L (Prod.fst x) (Lv.slen L s))
 (VC.br (Lv.cmp L BinOp.gtr (Lv.byte L s (Prod.fst x)) 126) (VC.ok ((Prod.fst x, 4, ()) = (Prod.fst (LexF.chk F s), Prod.snd (LexF.chk F s), ())))
 (VC.ok
 (St.mk 31 [(0, V.c (C.str s)), (4, V.c (C.int IntKind.i64 (Lv.ar L BinOp.add IntKind.i64 (Prod.fst x) 1)))] [(0, Ob.amb)] 1 =
 St.mk 31 [(0, V.c (C.str s)), (4, V.c (C.int IntKind.i64 (Lv.ar L BinOp.add IntKind.i64 (Prod.fst x) 1)))] [(0, Ob.amb)] 1 ∧
 I (Lv.ar L BinOp.add IntKind.i64 (Prod.fst x) 1, ()) ∧ mu (Lv.ar L BinOp.add IntKind.i64 (Prod.fst x) 1, ()) < mu x))))))
 (VC.ok
 (St.mk 31 [(0, V.c (C.str s)), (4, V.c (C.int IntKind.i64 (Lv.ar L BinOp.add IntKind.i64 (Prod.fst x) 1)))] [(0, Ob.amb)] 1 =
 St.mk 31 [(0, V.c (C.str s)), (4, V.c (C.int IntKind.i64 (Lv.ar L BinOp.add IntKind.i64 (Prod.fst x) 1)))] [(0, Ob.amb)] 1 ∧
 I (Lv.ar L BinOp.add IntKind.i64 (Prod.fst x) 1, ()) ∧ mu (Lv.ar L BinOp.add IntKind.i64 (Prod.fst x) 1, ()) < mu x))))
 (VC.ok ((0, 0, ()) = (Prod.fst (LexF.chk F s), Prod.snd (LexF.chk F s), ())))))))
theorem n59_eq (L : Lv) (F : LexF) (I : P1 It) (mu : M1 It) (s : ByteArray) : vcO L F [] (D59 (a59 L I mu)) (S59 F) (s, ()) = n59 L F I mu s := by kernel_rfl
theorem n59_go (L : Lv) (F : LexF) (I : P1 It) (mu : M1 It) (s : ByteArray) (h : VC.holds (n59 L F I mu s)) : Holds (vcO L F [] (D59 (a59 L I mu)) (S59 F) (s, ())) := Holds.of_eq (n59_eq L F I mu s) h
def n85 (L : Lv) (F : LexF) (b : Int)  : VC :=
 VC.br (Lv.cmp L BinOp.eql b 32) (VC.ok ((1, ()) = (LexF.cls F b, ())))
 (VC.br (Lv.cmp L BinOp.eql b 10) (VC.ok ((2, ()) = (LexF.cls F b, ())))
 (VC.br (Lv.cmp L BinOp.eql b 37) (VC.ok ((3, ()) = (LexF.cls F b, ())))
 (VC.br (Lv.cmp L BinOp.geq b 97)
 (VC.br (Lv.cmp L BinOp.leq b 122) (VC.ok ((4, ()) = (LexF.cls F b, ())))
 (VC.br (Lv.cmp L BinOp.geq b 48) (VC.br (Lv.cmp L BinOp.leq b 57) (VC.ok ((5, ()) = (LexF.cls F b, ()))) (VC.ok ((0, ()) = (LexF.cls F b, ()))))
 (VC.ok ((0, ()) = (LexF.cls F b, ())))))
 (VC.br (Lv.cmp L BinOp.geq b 48) (VC.br (Lv.cmp L BinOp.leq b 57) (VC.ok ((5, ()) = (LexF.cls F b, ()))) (VC.ok ((0, ()) = (LexF.cls F b, ()))))
 (VC.ok ((0, ()) = (LexF.cls F b, ())))))))
theorem n85_eq (L : Lv) (F : LexF) (b : Int) : vcO L F [] (D85 a0) (S85 F) (b, ()) = n85 L F b := by kernel_rfl
theorem n85_go (L : Lv) (F : LexF) (b : Int) (h : VC.holds (n85 L F b)) : Holds (vcO L F [] (D85 a0) (S85 F) (b, ())) := Holds.of_eq (n85_eq L F b) h
def n126 (L : Lv) (F : LexF) (I : P1 It) (mu : M1 It) (l : List Int) (x : Int)  : VC :=
 VC.obl
 (St.mk 19 [(0, V.c (C.sl (Ty.int IntKind.i64) l)), (1, V.c (C.int IntKind.i64 x)), (7, V.c (C.int IntKind.i64 (Lv.cast L (Lv.llen L (Ty.int IntKind.i64) l)))), (8, V.c (C.int IntKind.i64 0))]
 [(0, Ob.amb)] 1 =
 St.mk 19 [(0, V.c (C.sl (Ty.int IntKind.i64) l)), (1, V.c (C.int IntKind.i64 x)), (7, V.c (C.int IntKind.i64 (Lv.cast L (Lv.llen L (Ty.int IntKind.i64) l)))), (8, V.c (C.int IntKind.i64 0))]
 [(0, Ob.amb)] 1)
 (VC.obl (I (0, ()))
 (VC.all (Int × Unit) fun (x_1 : Int × Unit) =>
 VC.imp (I x_1)
 (VC.br (Lv.cmp L BinOp.lss (Prod.fst x_1) (Lv.cast L (Lv.llen L (Ty.int IntKind.i64) l)))
 (VC.obl (Lv.inR L (Prod.fst x_1) (Lv.llen L (Ty.int IntKind.i64) l))
 (VC.br (Lv.cmp L BinOp.eql x (Lv.get L (Ty.int IntKind.i64) l (Lv.toN L (Prod.fst x_1)))) (VC.ok ((Prod.fst x_1, ()) = (LexF.index F l x, ())))
 (VC.ok
 (St.mk 19
 [(0, V.c (C.sl (Ty.int IntKind.i64) l)), (1, V.c (C.int IntKind.i64 x)), (7, V.c (C.int IntKind.i64 (Lv.cast L (Lv.llen L (Ty.int IntKind.i64) l)))),
 (8, V.c (C.int IntKind.i64 (Lv.ar L BinOp.add IntKind.i64 (Prod.fst x_1) 1)))]
 [(0, Ob.amb)] 1 =
 St.mk 19
 [(0, V.c (C.sl (Ty.int IntKind.i64) l)), (1, V.c (C.int IntKind.i64 x)), (7, V.c (C.int IntKind.i64 (Lv.cast L (Lv.llen L (Ty.int IntKind.i64) l)))),
 (8, V.c (C.int IntKind.i64 (Lv.ar L BinOp.add IntKind.i64 (Prod.fst x_1) 1)))]
 [(0, Ob.amb)] 1 ∧
 I (Lv.ar L BinOp.add IntKind.i64 (Prod.fst x_1) 1, ()) ∧ mu (Lv.ar L BinOp.add IntKind.i64 (Prod.fst x_1) 1, ()) < mu x_1))))
 (VC.ok ((Int.negSucc 0, ()) = (LexF.index F l x, ()))))))
theorem n126_eq (L : Lv) (F : LexF) (I : P1 It) (mu : M1 It) (l : List Int) (x : Int) : vcO L F [] (D126 (a126 L I mu)) (S126 F) (l, x, ()) = n126 L F I mu l x := by kernel_rfl
theorem n126_go (L : Lv) (F : LexF) (I : P1 It) (mu : M1 It) (l : List Int) (x : Int) (h : VC.holds (n126 L F I mu l x)) : Holds (vcO L F [] (D126 (a126 L I mu)) (S126 F) (l, x, ())) := Holds.of_eq (n126_eq L F I mu l x) h
def n114 (L : Lv) (F : LexF) (l : List Int) (x : Int)  : VC :=
 VC.obl (LexF.pI F l) (VC.br (Lv.cmp L BinOp.geq (LexF.index F l x) 0) (VC.ok ((true, ()) = (LexF.cont F l x, ()))) (VC.ok ((false, ()) = (LexF.cont F l x, ()))))
theorem n114_eq (L : Lv) (F : LexF) (l : List Int) (x : Int) : vcO L F [126] (D114 a0) (S114 F) (l, x, ()) = n114 L F l x := by kernel_rfl
theorem n114_go (L : Lv) (F : LexF) (l : List Int) (x : Int) (h : VC.holds (n114 L F l x)) : Holds (vcO L F [126] (D114 a0) (S114 F) (l, x, ())) := Holds.of_eq (n114_eq L F l x) h
def n83 (L : Lv) (F : LexF) (b : Int) (l : List Int)  : VC :=
 VC.obl True (VC.obl (LexF.pI F l) (VC.br (LexF.cont F l (LexF.cls F b)) (VC.ok ((true, ()) = (LexF.isOf F b l, ()))) (VC.ok ((false, ()) = (LexF.isOf F b l, ())))))
theorem n83_eq (L : Lv) (F : LexF) (b : Int) (l : List Int) : vcO L F [85, 114] (D83 a0) (S83 F) (b, l, ()) = n83 L F b l := by kernel_rfl
theorem n83_go (L : Lv) (F : LexF) (b : Int) (l : List Int) (h : VC.holds (n83 L F b l)) : Holds (vcO L F [85, 114] (D83 a0) (S83 F) (b, l, ())) := Holds.of_eq (n83_eq L F b l) h
def n84 (L : Lv) (F : LexF) (s : ByteArray) (i : Int)  : VC :=
 VC.obl (Lv.le3 L i (Lv.cast L (Lv.slen L s)) (Lv.slen L s))
 (VC.obl True
 (VC.br (Lv.cmp L BinOp.geq (LexF.indexByte F (Lv.ext L s (Lv.toN L i) (Lv.toN L (Lv.cast L (Lv.slen L s)))) 10) 0)
 (VC.ok ((Lv.ar L BinOp.add IntKind.i64 i (LexF.indexByte F (Lv.ext L s (Lv.toN L i) (Lv.toN L (Lv.cast L (Lv.slen L s)))) 10), ()) = (LexF.comment F s i, ())))
 (VC.ok ((Lv.cast L (Lv.slen L s), ()) = (LexF.comment F s i, ())))))
theorem n84_eq (L : Lv) (F : LexF) (s : ByteArray) (i : Int) : vcO L F [104] (D84 a0) (S84 F) (s, i, ()) = n84 L F s i := by kernel_rfl
theorem n84_go (L : Lv) (F : LexF) (s : ByteArray) (i : Int) (h : VC.holds (n84 L F s i)) : Holds (vcO L F [104] (D84 a0) (S84 F) (s, i, ())) := Holds.of_eq (n84_eq L F s i) h
def n57 (L : Lv) (F : LexF) (I : P1 It) (mu : M1 It) (s : ByteArray) (i : Int)  : VC :=
 VC.obl (St.mk 27 [(0, V.c (C.str s)), (1, V.c (C.int IntKind.i64 i))] [(0, Ob.amb)] 1 = St.mk 27 [(0, V.c (C.str s)), (1, V.c (C.int IntKind.i64 i))] [(0, Ob.amb)] 1)
 (VC.obl (I (i, ()))
 (VC.all (Int × Unit) fun (x : Int × Unit) =>
 VC.imp (I x)
 (VC.br (Lv.cmp L BinOp.lss (Prod.fst x) (Lv.cast L (Lv.slen L s)))
 (VC.obl (Lv.inR L (Prod.fst x) (Lv.slen L s))
 (VC.obl (LexF.pI F (Lv.take L (Ty.int IntKind.i64) [1, 2, 3] 3))
 (VC.br (LexF.isOf F (Lv.byte L s (Prod.fst x)) (Lv.take L (Ty.int IntKind.i64) [1, 2, 3] 3))
 (VC.obl (Lv.inR L (Prod.fst x) (Lv.slen L s))
 (VC.obl (LexF.pI F (Lv.take L (Ty.int IntKind.i64) [3] 1))
 (VC.br (LexF.isOf F (Lv.byte L s (Prod.fst x)) (Lv.take L (Ty.int IntKind.i64) [3] 1))
 (VC.obl (LexF.pAt F s (Prod.fst x) ∧ LexF.pS F s)
 (VC.ok
 (St.mk 27 [(0, V.c (C.str s)), (1, V.c (C.int IntKind.i64 (LexF.comment F s (Prod.fst x))))] [(0, Ob.amb)] 1 =
 St.mk 27 [(0, V.c (C.str s)), (1, V.c (C.int IntKind.i64 (LexF.comment F s (Prod.fst x))))] [(0, Ob.amb)] 1 ∧
 I (LexF.comment F s (Prod.fst x), ()) ∧ mu (LexF.comment F s (Prod.fst x), ()) < mu x)))
 (VC.ok
 (St.mk 27 [(0, V.c (C.str s)), (1, V.c (C.int IntKind.i64 (Lv.ar L BinOp.add IntKind.i64 (Prod.fst x) 1)))] [(0, Ob.amb)] 1 =
 St.mk 27 [(0, V.c (C.str s)), (1, V.c (C.int IntKind.i64 (Lv.ar L BinOp.add IntKind.i64 (Prod.fst x) 1)))] [(0, Ob.amb)] 1 ∧
 I (Lv.ar L BinOp.add IntKind.i64 (Prod.fst x) 1, ()) ∧ mu (Lv.ar L BinOp.add IntKind.i64 (Prod.fst x) 1, ()) < mu x)))))
 (VC.ok ((Prod.fst x, ()) = (LexF.gap F s i, ()))))))
 (VC.ok ((Prod.fst x, ()) = (LexF.gap F s i, ()))))))
theorem n57_eq (L : Lv) (F : LexF) (I : P1 It) (mu : M1 It) (s : ByteArray) (i : Int) : vcO L F [83, 84] (D57 (a57 L I mu)) (S57 F) (s, i, ()) = n57 L F I mu s i := by kernel_rfl
theorem n57_go (L : Lv) (F : LexF) (I : P1 It) (mu : M1 It) (s : ByteArray) (i : Int) (h : VC.holds (n57 L F I mu s i)) : Holds (vcO L F [83, 84] (D57 (a57 L I mu)) (S57 F) (s, i, ())) := Holds.of_eq (n57_eq L F I mu s i) h
def n86 (L : Lv) (F : LexF) (I : P1 It) (mu : M1 It) (s : ByteArray) (l : List Int)  : VC :=
 VC.obl
 (St.mk 22 [(0, V.c (C.str s)), (1, V.c (C.sl (Ty.int IntKind.i64) l)), (5, V.c (C.int IntKind.i64 0))] [(0, Ob.amb)] 1 =
 St.mk 22 [(0, V.c (C.str s)), (1, V.c (C.sl (Ty.int IntKind.i64) l)), (5, V.c (C.int IntKind.i64 0))] [(0, Ob.amb)] 1)
 (VC.obl (I (0, ()))
 (VC.all (Int × Unit) fun (x : Int × Unit) =>
 VC.imp (I x)
 (VC.br (Lv.cmp L BinOp.lss (Prod.fst x) (Lv.cast L (Lv.slen L s)))
 (VC.obl (Lv.inR L (Prod.fst x) (Lv.slen L s))
 (VC.obl (LexF.pI F l)
 (VC.br (LexF.isOf F (Lv.byte L s (Prod.fst x)) l)
 (VC.ok
 (St.mk 22 [(0, V.c (C.str s)), (1, V.c (C.sl (Ty.int IntKind.i64) l)), (5, V.c (C.int IntKind.i64 (Lv.ar L BinOp.add IntKind.i64 (Prod.fst x) 1)))] [(0, Ob.amb)] 1 =
 St.mk 22 [(0, V.c (C.str s)), (1, V.c (C.sl (Ty.int IntKind.i64) l)), (5, V.c (C.int IntKind.i64 (Lv.ar L BinOp.add IntKind.i64 (Prod.fst x) 1)))] [(0, Ob.amb)] 1 ∧
 I (Lv.ar L BinOp.add IntKind.i64 (Prod.fst x) 1, ()) ∧ mu (Lv.ar L BinOp.add IntKind.i64 (Prod.fst x) 1, ()) < mu x))
 (VC.obl (Lv.le3 L (Lv.cast L 0) (Prod.fst x) (Lv.slen L s)) (VC.ok ((Lv.ext L s (Lv.toN L (Lv.cast L 0)) (Lv.toN L (Prod.fst x)), ()) = (LexF.whil F s l, ())))))))
 (VC.obl (Lv.le3 L (Lv.cast L 0) (Prod.fst x) (Lv.slen L s)) (VC.ok ((Lv.ext L s (Lv.toN L (Lv.cast L 0)) (Lv.toN L (Prod.fst x)), ()) = (LexF.whil F s l, ())))))))
theorem n86_eq (L : Lv) (F : LexF) (I : P1 It) (mu : M1 It) (s : ByteArray) (l : List Int) : vcO L F [83] (D86 (a86 L I mu)) (S86 F) (s, l, ()) = n86 L F I mu s l := by kernel_rfl
theorem n86_go (L : Lv) (F : LexF) (I : P1 It) (mu : M1 It) (s : ByteArray) (l : List Int) (h : VC.holds (n86 L F I mu s l)) : Holds (vcO L F [83] (D86 (a86 L I mu)) (S86 F) (s, l, ())) := Holds.of_eq (n86_eq L F I mu s l) h
def n89 (L : Lv) (F : LexF) (I : P2 .str It) (mu : M2 .str It) (s : ByteArray)  : VC :=
 VC.obl True
 (VC.obl
 (St.mk 24
 [(0, V.c (C.str s)), (2, V.c (C.str (ByteArray.mk #[]))), (5, V.c (C.sl Ty.str (LexF.signs F))), (6, V.c (C.int IntKind.i64 (Lv.cast L (Lv.llen L Ty.str (LexF.signs F))))),
 (7, V.c (C.int IntKind.i64 0))]
 [(0, Ob.amb)] 1 =
 St.mk 24
 [(0, V.c (C.str s)), (2, V.c (C.str (ByteArray.mk (Array.mk [])))), (5, V.c (C.sl Ty.str (LexF.signs F))), (6, V.c (C.int IntKind.i64 (Lv.cast L (Lv.llen L Ty.str (LexF.signs F))))),
 (7, V.c (C.int IntKind.i64 0))]
 [(0, Ob.amb)] 1)
 (VC.obl (I (ByteArray.mk (Array.mk []), 0, ()))
 (VC.all (ByteArray × Int × Unit) fun (x : ByteArray × Int × Unit) =>
 VC.imp (I x)
 (VC.br (Lv.cmp L BinOp.lss (Prod.fst (Prod.snd x)) (Lv.cast L (Lv.llen L Ty.str (LexF.signs F))))
 (VC.obl (Lv.inR L (Prod.fst (Prod.snd x)) (Lv.llen L Ty.str (LexF.signs F)))
 (VC.obl True
 (VC.br (LexF.hasPrefix F s (Lv.get L Ty.str (LexF.signs F) (Lv.toN L (Prod.fst (Prod.snd x)))))
 (VC.br (Lv.cmp L BinOp.gtr (Lv.cast L (Lv.slen L (Lv.get L Ty.str (LexF.signs F) (Lv.toN L (Prod.fst (Prod.snd x)))))) (Lv.cast L (Lv.slen L (Prod.fst x))))
 (VC.ok
 (St.mk 24
 [(0, V.c (C.str s)), (2, V.c (C.str (Lv.get L Ty.str (LexF.signs F) (Lv.toN L (Prod.fst (Prod.snd x)))))), (5, V.c (C.sl Ty.str (LexF.signs F))),
 (6, V.c (C.int IntKind.i64 (Lv.cast L (Lv.llen L Ty.str (LexF.signs F))))), (7, V.c (C.int IntKind.i64 (Lv.ar L BinOp.add IntKind.i64 (Prod.fst (Prod.snd x)) 1)))]
 [(0, Ob.amb)] 1 =
 St.mk 24
 [(0, V.c (C.str s)), (2, V.c (C.str (Lv.get L Ty.str (LexF.signs F) (Lv.toN L (Prod.fst (Prod.snd x)))))), (5, V.c (C.sl Ty.str (LexF.signs F))),
 (6, V.c (C.int IntKind.i64 (Lv.cast L (Lv.llen L Ty.str (LexF.signs F))))), (7, V.c (C.int IntKind.i64 (Lv.ar L BinOp.add IntKind.i64 (Prod.fst (Prod.snd x)) 1)))]
 [(0, Ob.amb)] 1 ∧
 I (Lv.get L Ty.str (LexF.signs F) (Lv.toN L (Prod.fst (Prod.snd x))), Lv.ar L BinOp.add IntKind.i64 (Prod.fst (Prod.snd x)) 1, ()) ∧
 mu (Lv.get L Ty.str (LexF.signs F) (Lv.toN L (Prod.fst (Prod.snd x))), Lv.ar L BinOp.add IntKind.i64 (Prod.fst (Prod.snd x)) 1, ()) < mu x))
 (VC.ok
 (St.mk 24
 [(0, V.c (C.str s)), (2, V.c (C.str (Prod.fst x))), (5, V.c (C.sl Ty.str (LexF.signs F))), (6, V.c (C.int IntKind.i64 (Lv.cast L (Lv.llen L Ty.str (LexF.signs F))))),
 (7, V.c (C.int IntKind.i64 (Lv.ar L BinOp.add IntKind.i64 (Prod.fst (Prod.snd x)) 1)))]
 [(0, Ob.amb)] 1 =
 St.mk 24
 [(0, V.c (C.str s)), (2, V.c (C.str (Prod.fst x))), (5, V.c (C.sl Ty.str (LexF.signs F))), (6, V.c (C.int IntKind.i64 (Lv.cast L (Lv.llen L Ty.str (LexF.signs F))))),
 (7, V.c (C.int IntKind.i64 (Lv.ar L BinOp.add IntKind.i64 (Prod.fst (Prod.snd x)) 1)))]
 [(0, Ob.amb)] 1 ∧
 I (Prod.fst x, Lv.ar L BinOp.add IntKind.i64 (Prod.fst (Prod.snd x)) 1, ()) ∧
 mu (Prod.fst x, Lv.ar L BinOp.add IntKind.i64 (Prod.fst (Prod.snd x)) 1, ()) < mu x)))
 (VC.ok
 (St.mk 24
 [(0, V.c (C.str s)), (2, V.c (C.str (Prod.fst x))), (5, V.c (C.sl Ty.str (LexF.signs F))), (6, V.c (C.int IntKind.i64 (Lv.cast L (Lv.llen L Ty.str (LexF.signs F))))),
 (7, V.c (C.int IntKind.i64 (Lv.ar L BinOp.add IntKind.i64 (Prod.fst (Prod.snd x)) 1)))]
 [(0, Ob.amb)] 1 =
 St.mk 24
 [(0, V.c (C.str s)), (2, V.c (C.str (Prod.fst x))), (5, V.c (C.sl Ty.str (LexF.signs F))), (6, V.c (C.int IntKind.i64 (Lv.cast L (Lv.llen L Ty.str (LexF.signs F))))),
 (7, V.c (C.int IntKind.i64 (Lv.ar L BinOp.add IntKind.i64 (Prod.fst (Prod.snd x)) 1)))]
 [(0, Ob.amb)] 1 ∧
 I (Prod.fst x, Lv.ar L BinOp.add IntKind.i64 (Prod.fst (Prod.snd x)) 1, ()) ∧
 mu (Prod.fst x, Lv.ar L BinOp.add IntKind.i64 (Prod.fst (Prod.snd x)) 1, ()) < mu x)))))
 (VC.ok ((Prod.fst x, ()) = (LexF.sign F s, ())))))))
theorem n89_eq (L : Lv) (F : LexF) (I : P2 .str It) (mu : M2 .str It) (s : ByteArray) : vcO L F [37, 106] (D89 (a89 L I mu)) (S89 F) (s, ()) = n89 L F I mu s := by kernel_rfl
theorem n89_go (L : Lv) (F : LexF) (I : P2 .str It) (mu : M2 .str It) (s : ByteArray) (h : VC.holds (n89 L F I mu s)) : Holds (vcO L F [37, 106] (D89 (a89 L I mu)) (S89 F) (s, ())) := Holds.of_eq (n89_eq L F I mu s) h
def n106 (L : Lv) (F : LexF) (s p : ByteArray)  : VC :=
 VC.br (Lv.cmp L BinOp.geq (Lv.cast L (Lv.slen L s)) (Lv.cast L (Lv.slen L p)))
 (VC.obl (Lv.le3 L (Lv.cast L 0) (Lv.cast L (Lv.slen L p)) (Lv.slen L s))
 (VC.br (Lv.scmp L BinOp.eql (Lv.ext L s (Lv.toN L (Lv.cast L 0)) (Lv.toN L (Lv.cast L (Lv.slen L p)))) p) (VC.ok ((true, ()) = (LexF.hasPrefix F s p, ())))
 (VC.ok ((false, ()) = (LexF.hasPrefix F s p, ())))))
 (VC.ok ((false, ()) = (LexF.hasPrefix F s p, ())))
theorem n106_eq (L : Lv) (F : LexF) (s p : ByteArray) : contractVC L E01 (callG L E01 (inl1 122 (D122 a0)) 1) (spcOf (inl1 122 (D122 a0))) (D106 a0) (S106 F) (s, p, ()) = n106 L F s p := by kernel_rfl
theorem n106_go (L : Lv) (F : LexF) (s p : ByteArray) (h : VC.holds (n106 L F s p)) : Holds (contractVC L E01 (callG L E01 (inl1 122 (D122 a0)) 1) (spcOf (inl1 122 (D122 a0))) (D106 a0) (S106 F) (s, p, ())) := Holds.of_eq (n106_eq L F s p) h
def n37 (L : Lv) (F : LexF)  : VC :=
 VC.ok
 ((Lv.take L Ty.str
 [ByteArray.mk #[61, 61], ByteArray.mk #[33, 61], ByteArray.mk #[60, 61], ByteArray.mk #[62, 61], ByteArray.mk #[60], ByteArray.mk #[62], ByteArray.mk #[61], ByteArray.mk #[43],
 ByteArray.mk #[45], ByteArray.mk #[42], ByteArray.mk #[47], ByteArray.mk #[33], ByteArray.mk #[35], ByteArray.mk #[40], ByteArray.mk #[41], ByteArray.mk #[91], ByteArray.mk #[93],
 ByteArray.mk #[123], ByteArray.mk #[125], ByteArray.mk #[44], ByteArray.mk #[59], ByteArray.mk #[58]]
 22,
 ()) =
 (LexF.signs F, ()))
theorem n37_eq (L : Lv) (F : LexF) : vcO L F [] (D37 a0) (S37 F) () = n37 L F := by kernel_rfl
theorem n37_go (L : Lv) (F : LexF) (h : VC.holds (n37 L F)) : Holds (vcO L F [] (D37 a0) (S37 F) ()) := Holds.of_eq (n37_eq L F) h
def n38 (L : Lv) (F : LexF)  : VC :=
 VC.ok
 ((Lv.take L Ty.str
 [ByteArray.mk #[97, 108, 108], ByteArray.mk #[97, 115], ByteArray.mk #[101, 97, 99, 104], ByteArray.mk #[101, 108, 115, 101], ByteArray.mk #[102, 97, 105, 108],
 ByteArray.mk #[102, 108, 97, 103], ByteArray.mk #[102, 114, 101, 101, 122, 101], ByteArray.mk #[104, 97, 115], ByteArray.mk #[105, 102], ByteArray.mk #[105, 110, 116],
 ByteArray.mk #[108, 97, 116, 116, 105, 99, 101], ByteArray.mk #[108, 101, 116], ByteArray.mk #[109, 97, 112], ByteArray.mk #[109, 97, 120], ByteArray.mk #[110, 101, 119],
 ByteArray.mk #[111, 110], ByteArray.mk #[111, 110, 99, 101], ByteArray.mk #[111, 114], ByteArray.mk #[112, 97, 105, 114], ByteArray.mk #[112, 117, 116], ByteArray.mk #[115, 101, 116],
 ByteArray.mk #[115, 104, 97, 114, 101], ByteArray.mk #[115, 105, 122, 101], ByteArray.mk #[115, 112, 97, 119, 110], ByteArray.mk #[116, 97, 115, 107], ByteArray.mk #[117, 115, 101],
 ByteArray.mk #[118, 97, 108, 117, 101], ByteArray.mk #[119, 104, 101, 110]]
 28,
 ()) =
 (LexF.keywords F, ()))
theorem n38_eq (L : Lv) (F : LexF) : vcO L F [] (D38 a0) (S38 F) () = n38 L F := by kernel_rfl
theorem n38_go (L : Lv) (F : LexF) (h : VC.holds (n38 L F)) : Holds (vcO L F [] (D38 a0) (S38 F) ()) := Holds.of_eq (n38_eq L F) h
def n90 (L : Lv) (F : LexF) (b : Int)  : VC :=
 VC.br (Lv.cmp L BinOp.geq b 97) (VC.br (Lv.cmp L BinOp.leq b 122) (VC.ok ((true, ()) = (LexF.rIsLetter F b, ()))) (VC.ok ((false, ()) = (LexF.rIsLetter F b, ()))))
 (VC.ok ((false, ()) = (LexF.rIsLetter F b, ())))
theorem n90_eq (L : Lv) (F : LexF) (b : Int) : vcO L F [] (D90 a0) (S90 F) (b, ()) = n90 L F b := by kernel_rfl
theorem n90_go (L : Lv) (F : LexF) (b : Int) (h : VC.holds (n90 L F b)) : Holds (vcO L F [] (D90 a0) (S90 F) (b, ())) := Holds.of_eq (n90_eq L F b) h
def n93 (L : Lv) (F : LexF) (b : Int)  : VC :=
 VC.br (Lv.cmp L BinOp.geq b 48) (VC.br (Lv.cmp L BinOp.leq b 57) (VC.ok ((true, ()) = (LexF.rIsDigit F b, ()))) (VC.ok ((false, ()) = (LexF.rIsDigit F b, ()))))
 (VC.ok ((false, ()) = (LexF.rIsDigit F b, ())))
theorem n93_eq (L : Lv) (F : LexF) (b : Int) : vcO L F [] (D93 a0) (S93 F) (b, ()) = n93 L F b := by kernel_rfl
theorem n93_go (L : Lv) (F : LexF) (b : Int) (h : VC.holds (n93 L F b)) : Holds (vcO L F [] (D93 a0) (S93 F) (b, ())) := Holds.of_eq (n93_eq L F b) h
def n94 (L : Lv) (F : LexF) (s : ByteArray)  : VC :=
 VC.br (Lv.scmp L BinOp.eql s (ByteArray.mk #[48])) (VC.ok ((true, ()) = (LexF.rIsNumber F s, ())))
 (VC.br (Lv.scmp L BinOp.neq s (ByteArray.mk #[]))
 (VC.obl (Lv.inR L 0 (Lv.slen L s))
 (VC.br (Lv.cmp L BinOp.neq (Lv.byte L s 0) 48)
 (VC.br (Lv.cmp L BinOp.lss (Lv.cast L (Lv.slen L s)) 10) (VC.ok ((true, ()) = (LexF.rIsNumber F s, ())))
 (VC.br (Lv.scmp L BinOp.eql s (ByteArray.mk #[49, 48, 48, 48, 48, 48, 48, 48, 48, 48])) (VC.ok ((true, ()) = (LexF.rIsNumber F s, ())))
 (VC.ok ((false, ()) = (LexF.rIsNumber F s, ())))))
 (VC.ok ((false, ()) = (LexF.rIsNumber F s, ())))))
 (VC.ok ((false, ()) = (LexF.rIsNumber F s, ()))))
theorem n94_eq (L : Lv) (F : LexF) (s : ByteArray) : vcO L F [] (D94 a0) (S94 F) (s, ()) = n94 L F s := by kernel_rfl
theorem n94_go (L : Lv) (F : LexF) (s : ByteArray) (h : VC.holds (n94 L F s)) : Holds (vcO L F [] (D94 a0) (S94 F) (s, ())) := Holds.of_eq (n94_eq L F s) h
def n92 (L : Lv) (F : LexF) (I : P1 It) (mu : M1 It) (s : ByteArray)  : VC :=
 VC.obl True
 (VC.obl
 (St.mk 18 [(0, V.c (C.str s)), (3, V.c (C.sl Ty.str (LexF.keywords F))), (4, V.c (C.int IntKind.i64 0))] [(0, Ob.amb)] 1 =
 St.mk 18 [(0, V.c (C.str s)), (3, V.c (C.sl Ty.str (LexF.keywords F))), (4, V.c (C.int IntKind.i64 0))] [(0, Ob.amb)] 1)
 (VC.obl (I (0, ()))
 (VC.all (Int × Unit) fun (x : Int × Unit) =>
 VC.imp (I x)
 (VC.br (Lv.cmp L BinOp.lss (Prod.fst x) (Lv.cast L (Lv.llen L Ty.str (LexF.keywords F))))
 (VC.obl (Lv.inR L (Prod.fst x) (Lv.llen L Ty.str (LexF.keywords F)))
 (VC.br (Lv.scmp L BinOp.eql (Lv.get L Ty.str (LexF.keywords F) (Lv.toN L (Prod.fst x))) s) (VC.ok ((true, ()) = (LexF.rIsKeyword F s, ())))
 (VC.ok
 (St.mk 18 [(0, V.c (C.str s)), (3, V.c (C.sl Ty.str (LexF.keywords F))), (4, V.c (C.int IntKind.i64 (Lv.ar L BinOp.add IntKind.i64 (Prod.fst x) 1)))] [(0, Ob.amb)] 1 =
 St.mk 18 [(0, V.c (C.str s)), (3, V.c (C.sl Ty.str (LexF.keywords F))), (4, V.c (C.int IntKind.i64 (Lv.ar L BinOp.add IntKind.i64 (Prod.fst x) 1)))] [(0, Ob.amb)] 1 ∧
 I (Lv.ar L BinOp.add IntKind.i64 (Prod.fst x) 1, ()) ∧ mu (Lv.ar L BinOp.add IntKind.i64 (Prod.fst x) 1, ()) < mu x))))
 (VC.ok ((false, ()) = (LexF.rIsKeyword F s, ())))))))
theorem n92_eq (L : Lv) (F : LexF) (I : P1 It) (mu : M1 It) (s : ByteArray) : vcO L F [38] (D92 (a92 L I mu)) (S92 F) (s, ()) = n92 L F I mu s := by kernel_rfl
theorem n92_go (L : Lv) (F : LexF) (I : P1 It) (mu : M1 It) (s : ByteArray) (h : VC.holds (n92 L F I mu s)) : Holds (vcO L F [38] (D92 (a92 L I mu)) (S92 F) (s, ())) := Holds.of_eq (n92_eq L F I mu s) h
def n91 (L : Lv) (F : LexF) (I : P1 It) (mu : M1 It) (s : ByteArray) (i : Int) (b : Bool)  : VC :=
 VC.obl
 (St.mk 29 [(0, V.c (C.str s)), (1, V.c (C.int IntKind.i64 i)), (2, V.c (C.sym b))] [(0, Ob.amb)] 1 =
 St.mk 29 [(0, V.c (C.str s)), (1, V.c (C.int IntKind.i64 i)), (2, V.c (C.sym b))] [(0, Ob.amb)] 1)
 (VC.obl (I (i, ()))
 (VC.all (Int × Unit) fun (x : Int × Unit) =>
 VC.imp (I x)
 (VC.br (Lv.cmp L BinOp.lss (Prod.fst x) (Lv.cast L (Lv.slen L s)))
 (VC.obl (Lv.inR L (Prod.fst x) (Lv.slen L s))
 (VC.obl True
 (VC.br (LexF.rIsDigit F (Lv.byte L s (Prod.fst x)))
 (VC.ok
 (St.mk 29 [(0, V.c (C.str s)), (1, V.c (C.int IntKind.i64 (Lv.ar L BinOp.add IntKind.i64 (Prod.fst x) 1))), (2, V.c (C.sym b))] [(0, Ob.amb)] 1 =
 St.mk 29 [(0, V.c (C.str s)), (1, V.c (C.int IntKind.i64 (Lv.ar L BinOp.add IntKind.i64 (Prod.fst x) 1))), (2, V.c (C.sym b))] [(0, Ob.amb)] 1 ∧
 I (Lv.ar L BinOp.add IntKind.i64 (Prod.fst x) 1, ()) ∧ mu (Lv.ar L BinOp.add IntKind.i64 (Prod.fst x) 1, ()) < mu x))
 (VC.br b
 (VC.obl (Lv.inR L (Prod.fst x) (Lv.slen L s))
 (VC.obl True
 (VC.br (LexF.rIsLetter F (Lv.byte L s (Prod.fst x)))
 (VC.ok
 (St.mk 29 [(0, V.c (C.str s)), (1, V.c (C.int IntKind.i64 (Lv.ar L BinOp.add IntKind.i64 (Prod.fst x) 1))), (2, V.c (C.sym b))] [(0, Ob.amb)] 1 =
 St.mk 29 [(0, V.c (C.str s)), (1, V.c (C.int IntKind.i64 (Lv.ar L BinOp.add IntKind.i64 (Prod.fst x) 1))), (2, V.c (C.sym b))] [(0, Ob.amb)] 1 ∧
 I (Lv.ar L BinOp.add IntKind.i64 (Prod.fst x) 1, ()) ∧ mu (Lv.ar L BinOp.add IntKind.i64 (Prod.fst x) 1, ()) < mu x))
 (VC.ok ((Prod.fst x, ()) = (LexF.rRun F s i b, ()))))))
 (VC.ok ((Prod.fst x, ()) = (LexF.rRun F s i b, ())))))))
 (VC.ok ((Prod.fst x, ()) = (LexF.rRun F s i b, ()))))))
theorem n91_eq (L : Lv) (F : LexF) (I : P1 It) (mu : M1 It) (s : ByteArray) (i : Int) (b : Bool) : vcO L F [90, 93] (D91 (a91 L I mu)) (S91 F) (s, i, b, ()) = n91 L F I mu s i b := by kernel_rfl
theorem n91_go (L : Lv) (F : LexF) (I : P1 It) (mu : M1 It) (s : ByteArray) (i : Int) (b : Bool) (h : VC.holds (n91 L F I mu s i b)) : Holds (vcO L F [90, 93] (D91 (a91 L I mu)) (S91 F) (s, i, b, ())) := Holds.of_eq (n91_eq L F I mu s i b) h
def n60 (L : Lv) (F : LexF) (I : P2 It .bool) (mu : M2 It .bool) (s : ByteArray) (i : Int)  : VC :=
 VC.obl
 (St.mk 30 [(0, V.c (C.str s)), (1, V.c (C.int IntKind.i64 i)), (5, V.c (C.sym false))] [(0, Ob.amb)] 1 =
 St.mk 30 [(0, V.c (C.str s)), (1, V.c (C.int IntKind.i64 i)), (5, V.c (C.sym false))] [(0, Ob.amb)] 1)
 (VC.obl (I (i, false, ()))
 (VC.all (Int × Bool × Unit) fun (x : Int × Bool × Unit) =>
 VC.imp (I x)
 (VC.br (Lv.cmp L BinOp.lss (Prod.fst x) (Lv.cast L (Lv.slen L s)))
 (VC.obl (Lv.inR L (Prod.fst x) (Lv.slen L s))
 (VC.br (Lv.cmp L BinOp.eql (Lv.byte L s (Prod.fst x)) 10)
 (VC.ok
 (St.mk 30 [(0, V.c (C.str s)), (1, V.c (C.int IntKind.i64 (Lv.ar L BinOp.add IntKind.i64 (Prod.fst x) 1))), (5, V.c (C.sym false))] [(0, Ob.amb)] 1 =
 St.mk 30 [(0, V.c (C.str s)), (1, V.c (C.int IntKind.i64 (Lv.ar L BinOp.add IntKind.i64 (Prod.fst x) 1))), (5, V.c (C.sym false))] [(0, Ob.amb)] 1 ∧
 I (Lv.ar L BinOp.add IntKind.i64 (Prod.fst x) 1, false, ()) ∧ mu (Lv.ar L BinOp.add IntKind.i64 (Prod.fst x) 1, false, ()) < mu x))
 (VC.br (Prod.fst (Prod.snd x))
 (VC.ok
 (St.mk 30 [(0, V.c (C.str s)), (1, V.c (C.int IntKind.i64 (Lv.ar L BinOp.add IntKind.i64 (Prod.fst x) 1))), (5, V.c (C.sym (Prod.fst (Prod.snd x))))] [(0, Ob.amb)] 1 =
 St.mk 30 [(0, V.c (C.str s)), (1, V.c (C.int IntKind.i64 (Lv.ar L BinOp.add IntKind.i64 (Prod.fst x) 1))), (5, V.c (C.sym (Prod.fst (Prod.snd x))))] [(0, Ob.amb)] 1 ∧
 I (Lv.ar L BinOp.add IntKind.i64 (Prod.fst x) 1, Prod.fst (Prod.snd x), ()) ∧ mu (Lv.ar L BinOp.add IntKind.i64 (Prod.fst x) 1, Prod.fst (Prod.snd x), ()) < mu x))
 (VC.obl (Lv.inR L (Prod.fst x) (Lv.slen L s))
 (VC.br (Lv.cmp L BinOp.eql (Lv.byte L s (Prod.fst x)) 32)
 (VC.ok
 (St.mk 30 [(0, V.c (C.str s)), (1, V.c (C.int IntKind.i64 (Lv.ar L BinOp.add IntKind.i64 (Prod.fst x) 1))), (5, V.c (C.sym (Prod.fst (Prod.snd x))))] [(0, Ob.amb)] 1 =
 St.mk 30 [(0, V.c (C.str s)), (1, V.c (C.int IntKind.i64 (Lv.ar L BinOp.add IntKind.i64 (Prod.fst x) 1))), (5, V.c (C.sym (Prod.fst (Prod.snd x))))] [(0, Ob.amb)] 1 ∧
 I (Lv.ar L BinOp.add IntKind.i64 (Prod.fst x) 1, Prod.fst (Prod.snd x), ()) ∧
 mu (Lv.ar L BinOp.add IntKind.i64 (Prod.fst x) 1, Prod.fst (Prod.snd x), ()) < mu x))
 (VC.obl (Lv.inR L (Prod.fst x) (Lv.slen L s))
 (VC.br (Lv.cmp L BinOp.eql (Lv.byte L s (Prod.fst x)) 37)
 (VC.ok
 (St.mk 30 [(0, V.c (C.str s)), (1, V.c (C.int IntKind.i64 (Lv.ar L BinOp.add IntKind.i64 (Prod.fst x) 1))), (5, V.c (C.sym true))] [(0, Ob.amb)] 1 =
 St.mk 30 [(0, V.c (C.str s)), (1, V.c (C.int IntKind.i64 (Lv.ar L BinOp.add IntKind.i64 (Prod.fst x) 1))), (5, V.c (C.sym true))] [(0, Ob.amb)] 1 ∧
 I (Lv.ar L BinOp.add IntKind.i64 (Prod.fst x) 1, true, ()) ∧ mu (Lv.ar L BinOp.add IntKind.i64 (Prod.fst x) 1, true, ()) < mu x))
 (VC.ok ((Prod.fst x, ()) = (LexF.rGap F s i, ()))))))))))
 (VC.ok ((Prod.fst x, ()) = (LexF.rGap F s i, ()))))))
theorem n60_eq (L : Lv) (F : LexF) (I : P2 It .bool) (mu : M2 It .bool) (s : ByteArray) (i : Int) : vcO L F [] (D60 (a60 L I mu)) (S60 F) (s, i, ()) = n60 L F I mu s i := by kernel_rfl
theorem n60_go (L : Lv) (F : LexF) (I : P2 It .bool) (mu : M2 It .bool) (s : ByteArray) (i : Int) (h : VC.holds (n60 L F I mu s i)) : Holds (vcO L F [] (D60 (a60 L I mu)) (S60 F) (s, i, ())) := Holds.of_eq (n60_eq L F I mu s i) h
def n73 (L : Lv) (F : LexF) (i : Int)  : VC :=
 VC.br (Lv.cmp L BinOp.geq i 0) (VC.br (Lv.cmp L BinOp.leq i 2500) (VC.ok ((true, ()) = (LexF.isPlace F i, ()))) (VC.ok ((false, ()) = (LexF.isPlace F i, ()))))
 (VC.ok ((false, ()) = (LexF.isPlace F i, ())))
theorem n73_eq (L : Lv) (F : LexF) (i : Int) : vcO L F [] (D73 a0) (S73 F) (i, ()) = n73 L F i := by kernel_rfl
theorem n73_go (L : Lv) (F : LexF) (i : Int) (h : VC.holds (n73 L F i)) : Holds (vcO L F [] (D73 a0) (S73 F) (i, ())) := Holds.of_eq (n73_eq L F i) h
def n74 (L : Lv) (F : LexF) (x : Lx)  : VC :=
 VC.obl True (VC.br (LexF.isPlace F (Prod.snd (Prod.snd x))) (VC.ok ((true, ()) = (LexF.isPlaced F x, ()))) (VC.ok ((false, ()) = (LexF.isPlaced F x, ()))))
theorem n74_eq (L : Lv) (F : LexF) (x : Lx) : vcO L F [73] (D74 a0) (S74 F) (x, ()) = n74 L F x := by kernel_rfl
theorem n74_go (L : Lv) (F : LexF) (x : Lx) (h : VC.holds (n74 L F x)) : Holds (vcO L F [73] (D74 a0) (S74 F) (x, ())) := Holds.of_eq (n74_eq L F x) h
def n71 (L : Lv) (F : LexF) (s : ByteArray) (x : Ed)  : VC :=
 VC.br (Lv.cmp L BinOp.leq 0 (Prod.fst x))
 (VC.br (Lv.cmp L BinOp.leq (Prod.fst x) (Prod.fst (Prod.snd x)))
 (VC.br (Lv.cmp L BinOp.leq (Prod.fst (Prod.snd x)) (Lv.cast L (Lv.slen L s))) (VC.ok ((true, ()) = (LexF.rIsEdit F s x, ())))
 (VC.ok ((false, ()) = (LexF.rIsEdit F s x, ()))))
 (VC.ok ((false, ()) = (LexF.rIsEdit F s x, ()))))
 (VC.ok ((false, ()) = (LexF.rIsEdit F s x, ())))
theorem n71_eq (L : Lv) (F : LexF) (s : ByteArray) (x : Ed) : vcO L F [] (D71 a0) (S71 F) (s, x, ()) = n71 L F s x := by kernel_rfl
theorem n71_go (L : Lv) (F : LexF) (s : ByteArray) (x : Ed) (h : VC.holds (n71 L F s x)) : Holds (vcO L F [] (D71 a0) (S71 F) (s, x, ())) := Holds.of_eq (n71_eq L F s x) h
def n70 (L : Lv) (F : LexF) (x y : Lx) (i : Int)  : VC :=
 VC.br
 (Lv.band L (Lv.cmp L BinOp.eql (Prod.fst x) (Prod.fst y))
 (Lv.band L (Lv.scmp L BinOp.eql (Prod.fst (Prod.snd x)) (Prod.fst (Prod.snd y)))
 (Lv.band L (Lv.cmp L BinOp.eql (Lv.ar L BinOp.add IntKind.i64 (Prod.snd (Prod.snd x)) i) (Prod.snd (Prod.snd y))) true)))
 (VC.ok ((true, ()) = (LexF.isSame F x y i, ()))) (VC.ok ((false, ()) = (LexF.isSame F x y i, ())))
theorem n70_eq (L : Lv) (F : LexF) (x y : Lx) (i : Int) : vcO L F [] (D70 a0) (S70 F) (x, y, i, ()) = n70 L F x y i := by kernel_rfl
theorem n70_go (L : Lv) (F : LexF) (x y : Lx) (i : Int) (h : VC.holds (n70 L F x y i)) : Holds (vcO L F [] (D70 a0) (S70 F) (x, y, i, ())) := Holds.of_eq (n70_eq L F x y i) h

/-- Tables of contracts. -/
def TabAt (F : LexF) (g : Nat) : Prop := match fT F g with
  | .no => True
  | .spec sp => SpecOk prog g sp
  | .ext x => XOk prog g x
  | .inl d => FnOk prog g d
  | .it i => ItOk prog g i
theorem at_x {F : LexF} {g : Nat} {x : XOp} (k : XOk prog g x) (e : fT F g = .ext x) : TabAt F g := by
  unfold TabAt; rw [e]; exact k
theorem at_ok {F : LexF} {g : Nat} {sp : VM.Spec} (k : SpecOk prog g sp) (e : fT F g = .spec sp) : TabAt F g := by
  unfold TabAt; rw [e]; exact k
theorem only_ok {F : LexF} {l : List Nat} (h : ∀ g, g ∈ l → TabAt F g) : TableOk prog (fOnly F l) := by
  intro g
  cases hm : memN g l with
  | true =>
    have e : fOnly F l g = fT F g := by unfold fOnly; rw [hm]
    rw [e]
    exact h g ((memN_iff g l).1 hm)
  | false =>
    have e : fOnly F l g = .no := by unfold fOnly; rw [hm]
    rw [e]
    trivial

theorem in_ok {g : Nat} {d : FnD} (h : FnOk prog g d) : TableOk prog (inl1 g d) := by
  intro x
  cases hm : Nat.beq x g with
  | true =>
    have e : inl1 g d x = .inl d := by unfold inl1; rw [hm]
    rw [e]
    have := beq_eq hm
    subst this
    exact h
  | false =>
    have e : inl1 g d x = .no := by unfold inl1; rw [hm]
    rw [e]
    trivial

theorem ok85 (F : LexF) (h : F.cls = cls) : SpecOk prog 85 (S85 F) := by
  refine contract_by hm hE D85 fnok85 _ fun ⟨b, ()⟩ _ => pack _ 0 (a0) (only_ok (F := F) (l := []) (fun g h => by cases h)) ?_
  refine n85_go Lv.std F b ?_
  simp only [n85, VC.holds, std_cmp, std_scmp, std_ar_add, std_ar_sub, std_ar_mul, std_ar, std_dv, std_shf, std_conv, std_mn, std_mx, std_beq, std_bnot, std_band, std_scat, std_byte, std_ext, std_slen, std_strOf, std_bytes, std_llen, std_get, std_setl, std_app, std_take, std_drop, std_rep, std_mhas, std_mval, std_mput, std_cast, std_toN, std_sub, std_add, std_inR, std_le3, std_leN, std_ltN, std_ne0, std_nonneg, std_catOk, std_room, std_mkOk, cmp_lss_t, cmp_lss_f, cmp_leq_t, cmp_leq_f, cmp_gtr_t, cmp_gtr_f, cmp_geq_t, cmp_geq_f, cmp_eql_t, cmp_eql_f, cmp_neq_t, cmp_neq_f, scmp_eql_t, scmp_eql_f, scmp_neq_t, scmp_neq_f, dflt_int, dflt_bool, dflt_str, dflt_sl, dflt_pair, h, Prod.mk.injEq, and_true]
  simp only [cls, isLet, isDig, Bool.and_eq_true, decide_eq_true_eq]
  repeat' (first | apply And.intro | intro _)
  all_goals (repeat' split) <;> omega
theorem ok90 (F : LexF) (h : F.rIsLetter = isLet) : SpecOk prog 90 (S90 F) := by
  refine contract_by hm hE D90 fnok90 _ fun ⟨b, ()⟩ _ => pack _ 0 (a0) (only_ok (F := F) (l := []) (fun g h => by cases h)) ?_
  refine n90_go Lv.std F b ?_
  simp only [n90, VC.holds, std_cmp, std_scmp, std_ar_add, std_ar_sub, std_ar_mul, std_ar, std_dv, std_shf, std_conv, std_mn, std_mx, std_beq, std_bnot, std_band, std_scat, std_byte, std_ext, std_slen, std_strOf, std_bytes, std_llen, std_get, std_setl, std_app, std_take, std_drop, std_rep, std_mhas, std_mval, std_mput, std_cast, std_toN, std_sub, std_add, std_inR, std_le3, std_leN, std_ltN, std_ne0, std_nonneg, std_catOk, std_room, std_mkOk, cmp_lss_t, cmp_lss_f, cmp_leq_t, cmp_leq_f, cmp_gtr_t, cmp_gtr_f, cmp_geq_t, cmp_geq_f, cmp_eql_t, cmp_eql_f, cmp_neq_t, cmp_neq_f, scmp_eql_t, scmp_eql_f, scmp_neq_t, scmp_neq_f, dflt_int, dflt_bool, dflt_str, dflt_sl, dflt_pair, h, Prod.mk.injEq, and_true]
  simp only [isLet]
  repeat' (first | apply And.intro | intro _)
  all_goals (simp_all <;> try omega)
theorem ok93 (F : LexF) (h : F.rIsDigit = isDig) : SpecOk prog 93 (S93 F) := by
  refine contract_by hm hE D93 fnok93 _ fun ⟨b, ()⟩ _ => pack _ 0 (a0) (only_ok (F := F) (l := []) (fun g h => by cases h)) ?_
  refine n93_go Lv.std F b ?_
  simp only [n93, VC.holds, std_cmp, std_scmp, std_ar_add, std_ar_sub, std_ar_mul, std_ar, std_dv, std_shf, std_conv, std_mn, std_mx, std_beq, std_bnot, std_band, std_scat, std_byte, std_ext, std_slen, std_strOf, std_bytes, std_llen, std_get, std_setl, std_app, std_take, std_drop, std_rep, std_mhas, std_mval, std_mput, std_cast, std_toN, std_sub, std_add, std_inR, std_le3, std_leN, std_ltN, std_ne0, std_nonneg, std_catOk, std_room, std_mkOk, cmp_lss_t, cmp_lss_f, cmp_leq_t, cmp_leq_f, cmp_gtr_t, cmp_gtr_f, cmp_geq_t, cmp_geq_f, cmp_eql_t, cmp_eql_f, cmp_neq_t, cmp_neq_f, scmp_eql_t, scmp_eql_f, scmp_neq_t, scmp_neq_f, dflt_int, dflt_bool, dflt_str, dflt_sl, dflt_pair, h, Prod.mk.injEq, and_true]
  simp only [isDig]
  repeat' (first | apply And.intro | intro _)
  all_goals (simp_all <;> try omega)
theorem ok73 (F : LexF) (h : F.isPlace = isPlaceF) : SpecOk prog 73 (S73 F) := by
  refine contract_by hm hE D73 fnok73 _ fun ⟨b, ()⟩ _ => pack _ 0 (a0) (only_ok (F := F) (l := []) (fun g h => by cases h)) ?_
  refine n73_go Lv.std F b ?_
  simp only [n73, VC.holds, std_cmp, std_scmp, std_ar_add, std_ar_sub, std_ar_mul, std_ar, std_dv, std_shf, std_conv, std_mn, std_mx, std_beq, std_bnot, std_band, std_scat, std_byte, std_ext, std_slen, std_strOf, std_bytes, std_llen, std_get, std_setl, std_app, std_take, std_drop, std_rep, std_mhas, std_mval, std_mput, std_cast, std_toN, std_sub, std_add, std_inR, std_le3, std_leN, std_ltN, std_ne0, std_nonneg, std_catOk, std_room, std_mkOk, cmp_lss_t, cmp_lss_f, cmp_leq_t, cmp_leq_f, cmp_gtr_t, cmp_gtr_f, cmp_geq_t, cmp_geq_f, cmp_eql_t, cmp_eql_f, cmp_neq_t, cmp_neq_f, scmp_eql_t, scmp_eql_f, scmp_neq_t, scmp_neq_f, dflt_int, dflt_bool, dflt_str, dflt_sl, dflt_pair, h, Prod.mk.injEq, and_true]
  simp only [isPlaceF]
  repeat' (first | apply And.intro | intro _)
  all_goals (simp_all <;> try omega)
theorem ok74 (F : LexF) (h : F.isPlaced = fun x => F.isPlace x.2.2) (k73 : SpecOk prog 73 (S73 F)) : SpecOk prog 74 (S74 F) := by
  refine contract_by hm hE D74 fnok74 _ fun ⟨b, ()⟩ _ => pack _ 0 (a0) (only_ok (F := F) (l := [73]) (by simp only [List.mem_singleton, forall_eq]; exact at_ok k73 (by kernel_rfl))) ?_
  refine n74_go Lv.std F b ?_
  simp only [n74, VC.holds, std_cmp, std_scmp, std_ar_add, std_ar_sub, std_ar_mul, std_ar, std_dv, std_shf, std_conv, std_mn, std_mx, std_beq, std_bnot, std_band, std_scat, std_byte, std_ext, std_slen, std_strOf, std_bytes, std_llen, std_get, std_setl, std_app, std_take, std_drop, std_rep, std_mhas, std_mval, std_mput, std_cast, std_toN, std_sub, std_add, std_inR, std_le3, std_leN, std_ltN, std_ne0, std_nonneg, std_catOk, std_room, std_mkOk, cmp_lss_t, cmp_lss_f, cmp_leq_t, cmp_leq_f, cmp_gtr_t, cmp_gtr_f, cmp_geq_t, cmp_geq_f, cmp_eql_t, cmp_eql_f, cmp_neq_t, cmp_neq_f, scmp_eql_t, scmp_eql_f, scmp_neq_t, scmp_neq_f, dflt_int, dflt_bool, dflt_str, dflt_sl, dflt_pair, h, Prod.mk.injEq, and_true]
  exact ⟨trivial, fun h => h.symm, fun h => h.symm⟩
theorem ok71 (F : LexF) (h : F.rIsEdit = isEditF) : SpecOk prog 71 (S71 F) := by
  refine contract_by hm hE D71 fnok71 _ fun ⟨s, x, ()⟩ _ => pack _ 0 (a0) (only_ok (F := F) (l := []) (fun g h => by cases h)) ?_
  refine n71_go Lv.std F s x ?_
  simp only [n71, VC.holds, std_cmp, std_scmp, std_ar_add, std_ar_sub, std_ar_mul, std_ar, std_dv, std_shf, std_conv, std_mn, std_mx, std_beq, std_bnot, std_band, std_scat, std_byte, std_ext, std_slen, std_strOf, std_bytes, std_llen, std_get, std_setl, std_app, std_take, std_drop, std_rep, std_mhas, std_mval, std_mput, std_cast, std_toN, std_sub, std_add, std_inR, std_le3, std_leN, std_ltN, std_ne0, std_nonneg, std_catOk, std_room, std_mkOk, cmp_lss_t, cmp_lss_f, cmp_leq_t, cmp_leq_f, cmp_gtr_t, cmp_gtr_f, cmp_geq_t, cmp_geq_f, cmp_eql_t, cmp_eql_f, cmp_neq_t, cmp_neq_f, scmp_eql_t, scmp_eql_f, scmp_neq_t, scmp_neq_f, dflt_int, dflt_bool, dflt_str, dflt_sl, dflt_pair, h, Prod.mk.injEq, and_true]
  simp only [isEditF]
  repeat' (first | apply And.intro | intro _)
  all_goals (simp_all <;> try omega)
theorem ok70 (F : LexF) (h : F.isSame = isSameF) : SpecOk prog 70 (S70 F) := by
  refine contract_by hm hE D70 fnok70 _ fun ⟨x, y, b, ()⟩ _ => pack _ 0 (a0) (only_ok (F := F) (l := []) (fun g h => by cases h)) ?_
  refine n70_go Lv.std F x y b ?_
  simp only [n70, VC.holds, std_cmp, std_scmp, std_ar_add, std_ar_sub, std_ar_mul, std_ar, std_dv, std_shf, std_conv, std_mn, std_mx, std_beq, std_bnot, std_band, std_scat, std_byte, std_ext, std_slen, std_strOf, std_bytes, std_llen, std_get, std_setl, std_app, std_take, std_drop, std_rep, std_mhas, std_mval, std_mput, std_cast, std_toN, std_sub, std_add, std_inR, std_le3, std_leN, std_ltN, std_ne0, std_nonneg, std_catOk, std_room, std_mkOk, cmp_lss_t, cmp_lss_f, cmp_leq_t, cmp_leq_f, cmp_gtr_t, cmp_gtr_f, cmp_geq_t, cmp_geq_f, cmp_eql_t, cmp_eql_f, cmp_neq_t, cmp_neq_f, scmp_eql_t, scmp_eql_f, scmp_neq_t, scmp_neq_f, dflt_int, dflt_bool, dflt_str, dflt_sl, dflt_pair, h, Prod.mk.injEq, and_true]
  have e : (VM.compare .eql x.1 y.1 && (scompare .eql x.2.1 y.2.1 && (VM.compare .eql (IntKind.i64.wrap (x.2.2 + b)) y.2.2 && true))) = isSameF x y b := by
    rw [Bool.eq_iff_iff]
    simp only [isSameF, Bool.and_eq_true, decide_eq_true_eq, std_cmp, std_scmp, std_ar_add, std_ar_sub, std_ar_mul, std_ar, std_dv, std_shf, std_conv, std_mn, std_mx, std_beq, std_bnot, std_band, std_scat, std_byte, std_ext, std_slen, std_strOf, std_bytes, std_llen, std_get, std_setl, std_app, std_take, std_drop, std_rep, std_mhas, std_mval, std_mput, std_cast, std_toN, std_sub, std_add, std_inR, std_le3, std_leN, std_ltN, std_ne0, std_nonneg, std_catOk, std_room, std_mkOk, cmp_lss_t, cmp_lss_f, cmp_leq_t, cmp_leq_f, cmp_gtr_t, cmp_gtr_f, cmp_geq_t, cmp_geq_f, cmp_eql_t, cmp_eql_f, cmp_neq_t, cmp_neq_f, scmp_eql_t, scmp_eql_f, scmp_neq_t, scmp_neq_f, dflt_int, dflt_bool, dflt_str, dflt_sl, dflt_pair, and_true]
  rw [e]
  exact ⟨fun h => h.symm, fun h => h.symm⟩
theorem ok104 (F : LexF) (h : F.indexByte = idxB) : SpecOk prog 104 (S104 F) := by
  refine ⟨⟨f104, at104, by kernel_rfl, by kernel_rfl⟩, fun ok w vs x _ hx _ => ?_⟩
  obtain ⟨s, c, _⟩ := x
  match vs, hx with
  | [v1, v2], hx =>
    obtain ⟨h1, h2, _⟩ := hx
    have e1 : v1 = .string s := by have h1 : [v1] = [Value.string s] := h1; simpa using h1
    have e2 : v2 = .int .u8 c := by have h2 : [v2] = [Value.int .u8 c] := h2; simpa using h2
    subst e1 e2
    refine (Tryd.strings_IndexByte s c w).mono fun e w' he => ?_
    obtain ⟨rfl, rfl⟩ := he
    refine ⟨_, rfl, Go.RowKit.Below.refl _ _, ?_⟩
    show [Value.int .i64 (Lib.indexByte s.data.toList c.toNat.toUInt8)] = [Value.int .i64 (F.indexByte s c)]
    rw [h]; rfl
  | [], hx => exact hx.elim
  | [_], hx => exact hx.2.elim
  | _ :: _ :: _ :: _, hx => cases hx.2.2
theorem ok37 (F : LexF) (h : F.signs = signsL) : SpecOk prog 37 (S37 F) := by
  refine contract_by hm hE D37 fnok37 _ fun () _ => pack _ 0 (a0) (only_ok (F := F) (l := []) (fun g h => by cases h)) ?_
  refine n37_go Lv.std F  ?_
  simp only [n37, VC.holds, std_cmp, std_scmp, std_ar_add, std_ar_sub, std_ar_mul, std_ar, std_dv, std_shf, std_conv, std_mn, std_mx, std_beq, std_bnot, std_band, std_scat, std_byte, std_ext, std_slen, std_strOf, std_bytes, std_llen, std_get, std_setl, std_app, std_take, std_drop, std_rep, std_mhas, std_mval, std_mput, std_cast, std_toN, std_sub, std_add, std_inR, std_le3, std_leN, std_ltN, std_ne0, std_nonneg, std_catOk, std_room, std_mkOk, cmp_lss_t, cmp_lss_f, cmp_leq_t, cmp_leq_f, cmp_gtr_t, cmp_gtr_f, cmp_geq_t, cmp_geq_f, cmp_eql_t, cmp_eql_f, cmp_neq_t, cmp_neq_f, scmp_eql_t, scmp_eql_f, scmp_neq_t, scmp_neq_f, dflt_int, dflt_bool, dflt_str, dflt_sl, dflt_pair, h]
  rfl
theorem ok38 (F : LexF) (h : F.keywords = keywordsL) : SpecOk prog 38 (S38 F) := by
  refine contract_by hm hE D38 fnok38 _ fun () _ => pack _ 0 (a0) (only_ok (F := F) (l := []) (fun g h => by cases h)) ?_
  refine n38_go Lv.std F  ?_
  simp only [n38, VC.holds, std_cmp, std_scmp, std_ar_add, std_ar_sub, std_ar_mul, std_ar, std_dv, std_shf, std_conv, std_mn, std_mx, std_beq, std_bnot, std_band, std_scat, std_byte, std_ext, std_slen, std_strOf, std_bytes, std_llen, std_get, std_setl, std_app, std_take, std_drop, std_rep, std_mhas, std_mval, std_mput, std_cast, std_toN, std_sub, std_add, std_inR, std_le3, std_leN, std_ltN, std_ne0, std_nonneg, std_catOk, std_room, std_mkOk, cmp_lss_t, cmp_lss_f, cmp_leq_t, cmp_leq_f, cmp_gtr_t, cmp_gtr_f, cmp_geq_t, cmp_geq_f, cmp_eql_t, cmp_eql_f, cmp_neq_t, cmp_neq_f, scmp_eql_t, scmp_eql_f, scmp_neq_t, scmp_neq_f, dflt_int, dflt_bool, dflt_str, dflt_sl, dflt_pair, h]
  rfl

theorem ckF_step (s : ByteArray) (b : Int) (h0 : 0 ≤ b) (h1 : b < s.size) : ckF s ((s.size : Int) - b).toNat = if badB (byteAt s b) then (b, 4) else ckF s ((s.size : Int) - (b + 1)).toNat := by
  obtain ⟨n, hn⟩ : ∃ n : Nat, (s.size : Int) - b = (n + 1 : Nat) := ⟨((s.size : Int) - b - 1).toNat, by omega⟩
  have e1 : ((s.size : Int) - b).toNat = n + 1 := by omega
  have e2 : ((s.size : Int) - (b + 1)).toNat = n := by omega
  have e3 : (s.size : Int) - (n + 1 : Nat) = b := by omega
  rw [e1, e2, ckF, e3]
theorem ckF_done (s : ByteArray) (b : Int) (h1 : s.size ≤ b) : ckF s ((s.size : Int) - b).toNat = (0, 0) := by
  have e1 : ((s.size : Int) - b).toNat = 0 := by omega
  rw [e1, ckF]

theorem ok56 (F : LexF) (h : F.chk = chk) : SpecOk prog 56 (S56 F) := by
  refine contract_by hm hE D56 fnok56 _ fun ⟨s, ()⟩ _ => pack _ 0 (a56 Lv.std (fun (x : Int × Unit) => 0 ≤ x.1 ∧ x.1 ≤ s.size ∧ s.size ≤ 2500 ∧ chk s = ckF s (s.size - x.1).toNat) (fun (x : Int × Unit) => (s.size - x.1).toNat)) (only_ok (F := F) (l := []) (fun g h => by cases h)) ?_
  refine n56_go Lv.std F _ _ s ?_
  simp only [n56, VC.holds, std_cmp, std_scmp, std_ar_add, std_ar_sub, std_ar_mul, std_ar, std_dv, std_shf, std_conv, std_mn, std_mx, std_beq, std_bnot, std_band, std_scat, std_byte, std_ext, std_slen, std_strOf, std_bytes, std_llen, std_get, std_setl, std_app, std_take, std_drop, std_rep, std_mhas, std_mval, std_mput, std_cast, std_toN, std_sub, std_add, std_inR, std_le3, std_leN, std_ltN, std_ne0, std_nonneg, std_catOk, std_room, std_mkOk, cmp_lss_t, cmp_lss_f, cmp_leq_t, cmp_leq_f, cmp_gtr_t, cmp_gtr_f, cmp_geq_t, cmp_geq_f, cmp_eql_t, cmp_eql_f, cmp_neq_t, cmp_neq_f, scmp_eql_t, scmp_eql_f, scmp_neq_t, scmp_neq_f, dflt_int, dflt_bool, dflt_str, dflt_sl, dflt_pair, h, Prod.mk.injEq, and_true, true_and]
  refine ⟨fun hs => ?_, fun hs => ⟨⟨by omega, by omega, by omega, ?_⟩, ?_⟩⟩
  · rw [chk, if_pos (by omega)]; exact ⟨rfl, rfl⟩
  · rw [chk, if_neg (by omega)]; congr 1
  · rintro ⟨i, _⟩ ⟨h0, h1, h2, h3⟩
    simp only at h0 h1 h3 ⊢
    refine ⟨fun hlt => ?_, fun hge => ?_⟩
    · rw [ckF_step s i h0 hlt, badB] at h3
      simp (disch := omega) only [wrap_i64]
      refine ⟨⟨h0, hlt⟩, fun h10 => ⟨⟨h0, hlt⟩, fun h32 => ?_, fun h32 => ⟨⟨h0, hlt⟩, fun h126 => ?_, fun h126 => ⟨⟨by omega, by omega, h2, ?_⟩, by omega⟩⟩⟩, fun h10 => ⟨⟨by omega, by omega, h2, ?_⟩, by omega⟩⟩
      · rw [h3, if_pos (by simp [h10, h32])]; exact ⟨rfl, rfl⟩
      · rw [h3, if_pos (by simp [h10, h126])]; exact ⟨rfl, rfl⟩
      · rw [h3, if_neg (by simp; omega)]
      · rw [h3, if_neg (by simp [h10])]
    · rw [ckF_done s i hge] at h3
      rw [h3]; exact ⟨rfl, rfl⟩

theorem ok59 (F : LexF) (h : F.chk = chk) : SpecOk prog 59 (S59 F) := by
  refine contract_by hm hE D59 fnok59 _ fun ⟨s, ()⟩ _ => pack _ 0 (a59 Lv.std (fun (x : Int × Unit) => 0 ≤ x.1 ∧ x.1 ≤ s.size ∧ s.size ≤ 2500 ∧ chk s = ckF s (s.size - x.1).toNat) (fun (x : Int × Unit) => (s.size - x.1).toNat)) (only_ok (F := F) (l := []) (fun g h => by cases h)) ?_
  refine n59_go Lv.std F _ _ s ?_
  simp only [n59, VC.holds, std_cmp, std_scmp, std_ar_add, std_ar_sub, std_ar_mul, std_ar, std_dv, std_shf, std_conv, std_mn, std_mx, std_beq, std_bnot, std_band, std_scat, std_byte, std_ext, std_slen, std_strOf, std_bytes, std_llen, std_get, std_setl, std_app, std_take, std_drop, std_rep, std_mhas, std_mval, std_mput, std_cast, std_toN, std_sub, std_add, std_inR, std_le3, std_leN, std_ltN, std_ne0, std_nonneg, std_catOk, std_room, std_mkOk, cmp_lss_t, cmp_lss_f, cmp_leq_t, cmp_leq_f, cmp_gtr_t, cmp_gtr_f, cmp_geq_t, cmp_geq_f, cmp_eql_t, cmp_eql_f, cmp_neq_t, cmp_neq_f, scmp_eql_t, scmp_eql_f, scmp_neq_t, scmp_neq_f, dflt_int, dflt_bool, dflt_str, dflt_sl, dflt_pair, h, Prod.mk.injEq, and_true, true_and]
  refine ⟨fun hs => ?_, fun hs => ⟨⟨by omega, by omega, by omega, ?_⟩, ?_⟩⟩
  · rw [chk, if_pos (by omega)]; exact ⟨rfl, rfl⟩
  · rw [chk, if_neg (by omega)]; congr 1
  · rintro ⟨i, _⟩ ⟨h0, h1, h2, h3⟩
    simp only at h0 h1 h3 ⊢
    refine ⟨fun hlt => ?_, fun hge => ?_⟩
    · rw [ckF_step s i h0 hlt, badB] at h3
      simp (disch := omega) only [wrap_i64]
      refine ⟨⟨h0, hlt⟩, fun h10 => ⟨⟨h0, hlt⟩, fun h32 => ?_, fun h32 => ⟨⟨h0, hlt⟩, fun h126 => ?_, fun h126 => ⟨⟨by omega, by omega, h2, ?_⟩, by omega⟩⟩⟩, fun h10 => ⟨⟨by omega, by omega, h2, ?_⟩, by omega⟩⟩
      · rw [h3, if_pos (by simp [h10, h32])]; exact ⟨rfl, rfl⟩
      · rw [h3, if_pos (by simp [h10, h126])]; exact ⟨rfl, rfl⟩
      · rw [h3, if_neg (by simp; omega)]
      · rw [h3, if_neg (by simp [h10])]
    · rw [ckF_done s i hge] at h3
      rw [h3]; exact ⟨rfl, rfl⟩

theorem indexL_drop (l : List Int) (x : Int) (i : Nat) (h : i < l.length) : indexL (l.drop i) x = if x = (l[i]?).getD 0 then 0 else if indexL (l.drop (i + 1)) x = -1 then -1 else indexL (l.drop (i + 1)) x + 1 := by
  rw [List.drop_eq_getElem_cons h, indexL, List.getElem?_eq_getElem h]; rfl
theorem indexL_ge : ∀ (l : List Int) (x : Int), -1 ≤ indexL l x
  | [], _ => by simp [indexL]
  | y :: l, x => by
    have := indexL_ge l x
    unfold indexL
    split <;> (try split) <;> omega

theorem ok126 (F : LexF) (hp : F.pI = fun l => l.length ≤ 1000000) (h : F.index = indexL) : SpecOk prog 126 (S126 F) := by
  refine contract_by hm hE D126 fnok126 _ fun (z : List Int × Int × Unit) hpre => ?_
  obtain ⟨l, x, ⟨⟩⟩ := z
  have hlen : List.length (α := Int) l ≤ 1000000 := by have := hpre; simp only [S126, hp] at this; exact this
  refine pack _ 0 (a126 Lv.std (fun (z : Int × Unit) => 0 ≤ z.1 ∧ z.1 ≤ List.length (α := Int) l ∧ indexL l x = if indexL (List.drop (α := Int) z.1.toNat l) x = -1 then -1 else indexL (List.drop (α := Int) z.1.toNat l) x + z.1) (fun (z : Int × Unit) => (List.length (α := Int) l - z.1).toNat)) (only_ok (F := F) (l := []) (fun g h => by cases h)) ?_
  refine n126_go Lv.std F _ _ l x ?_
  simp only [n126, VC.holds, std_cmp, std_scmp, std_ar_add, std_ar_sub, std_ar_mul, std_ar, std_dv, std_shf, std_conv, std_mn, std_mx, std_beq, std_bnot, std_band, std_scat, std_byte, std_ext, std_slen, std_strOf, std_bytes, std_llen, std_get, std_setl, std_app, std_take, std_drop, std_rep, std_mhas, std_mval, std_mput, std_cast, std_toN, std_sub, std_add, std_inR, std_le3, std_leN, std_ltN, std_ne0, std_nonneg, std_catOk, std_room, std_mkOk, cmp_lss_t, cmp_lss_f, cmp_leq_t, cmp_leq_f, cmp_gtr_t, cmp_gtr_f, cmp_geq_t, cmp_geq_f, cmp_eql_t, cmp_eql_f, cmp_neq_t, cmp_neq_f, scmp_eql_t, scmp_eql_f, scmp_neq_t, scmp_neq_f, dflt_int, dflt_bool, dflt_str, dflt_sl, dflt_pair, h, Prod.mk.injEq, and_true, true_and]
  refine ⟨⟨by omega, by omega, ?_⟩, ?_⟩
  · have := indexL_ge l x
    show _ = if indexL (List.drop (α := Int) 0 l) x = -1 then _ else indexL (List.drop (α := Int) 0 l) x + 0
    rw [List.drop_zero]; split <;> omega
  · rintro ⟨i, _⟩ ⟨h0, h1, h2⟩
    simp only at h0 h1 h2 ⊢
    refine ⟨fun hlt => ⟨⟨h0, hlt⟩, fun he => ?_, fun hne => ?_⟩, fun hge => ?_⟩
    · rw [indexL_drop l x i.toNat (by omega), if_pos he] at h2
      rw [h2]; simp
    · rw [indexL_drop l x i.toNat (by omega), if_neg hne] at h2
      simp (disch := omega) only [wrap_i64]
      have e : (i + 1).toNat = i.toNat + 1 := by omega
      refine ⟨⟨by omega, by omega, ?_⟩, by omega⟩
      rw [e, h2]
      have := indexL_ge (List.drop (α := Int) (i.toNat + 1) l) x
      split
      · simp
      · rw [if_neg (by omega)]; omega
    · have e : List.drop (α := Int) i.toNat l = [] := List.drop_eq_nil_of_le (by omega)
      rw [e] at h2
      rw [h2]; rfl

theorem ok114 (F : LexF) (hp : F.pI = fun l => l.length ≤ 1000000) (h : F.cont = contL) (hi : F.index = indexL) (k : SpecOk prog 126 (S126 F)) : SpecOk prog 114 (S114 F) := by
  refine contract_by hm hE D114 fnok114 _ fun ⟨l, x, ()⟩ hpre => pack _ 0 (a0) (only_ok (F := F) (l := [126]) (by simp only [List.mem_singleton, forall_eq]; exact at_ok k (by kernel_rfl))) ?_
  have hpre' : F.pI l := hpre
  refine n114_go Lv.std F l x ?_
  simp only [n114, VC.holds, std_cmp, std_scmp, std_ar_add, std_ar_sub, std_ar_mul, std_ar, std_dv, std_shf, std_conv, std_mn, std_mx, std_beq, std_bnot, std_band, std_scat, std_byte, std_ext, std_slen, std_strOf, std_bytes, std_llen, std_get, std_setl, std_app, std_take, std_drop, std_rep, std_mhas, std_mval, std_mput, std_cast, std_toN, std_sub, std_add, std_inR, std_le3, std_leN, std_ltN, std_ne0, std_nonneg, std_catOk, std_room, std_mkOk, cmp_lss_t, cmp_lss_f, cmp_leq_t, cmp_leq_f, cmp_gtr_t, cmp_gtr_f, cmp_geq_t, cmp_geq_f, cmp_eql_t, cmp_eql_f, cmp_neq_t, cmp_neq_f, scmp_eql_t, scmp_eql_f, scmp_neq_t, scmp_neq_f, dflt_int, dflt_bool, dflt_str, dflt_sl, dflt_pair, h, hi, Prod.mk.injEq, and_true]
  refine ⟨hpre', fun h => ?_, fun h => ?_⟩
  · simp [contL, h]
  · simp [contL]; omega

theorem ok83 (F : LexF) (h : F.isOf = isOfL) (hc : F.cls = cls) (hn : F.cont = contL) (k1 : SpecOk prog 85 (S85 F)) (k2 : SpecOk prog 114 (S114 F)) : SpecOk prog 83 (S83 F) := by
  refine contract_by hm hE D83 fnok83 _ fun ⟨b, l, ()⟩ hpre => pack _ 0 (a0) (only_ok (F := F) (l := [85, 114]) (by simp only [List.forall_mem_cons]; exact ⟨at_ok k1 (by kernel_rfl), at_ok k2 (by kernel_rfl), fun _ h => by cases h⟩)) ?_
  have hpre' : F.pI l := hpre
  refine n83_go Lv.std F b l ?_
  simp only [n83, VC.holds, std_cmp, std_scmp, std_ar_add, std_ar_sub, std_ar_mul, std_ar, std_dv, std_shf, std_conv, std_mn, std_mx, std_beq, std_bnot, std_band, std_scat, std_byte, std_ext, std_slen, std_strOf, std_bytes, std_llen, std_get, std_setl, std_app, std_take, std_drop, std_rep, std_mhas, std_mval, std_mput, std_cast, std_toN, std_sub, std_add, std_inR, std_le3, std_leN, std_ltN, std_ne0, std_nonneg, std_catOk, std_room, std_mkOk, cmp_lss_t, cmp_lss_f, cmp_leq_t, cmp_leq_f, cmp_gtr_t, cmp_gtr_f, cmp_geq_t, cmp_geq_f, cmp_eql_t, cmp_eql_f, cmp_neq_t, cmp_neq_f, scmp_eql_t, scmp_eql_f, scmp_neq_t, scmp_neq_f, dflt_int, dflt_bool, dflt_str, dflt_sl, dflt_pair, h, hc, hn, Prod.mk.injEq, and_true]
  exact ⟨trivial, hpre', fun h => h.symm, fun h => h.symm⟩

/-! ### the first such byte -/
theorem byteAt_list (s : ByteArray) (i : Int) : byteAt s i = ((s.data.toList[i.toNat]?).map fun b => (b.toNat : Int)).getD 0 := by
  unfold byteAt
  split
  · rename_i h
    have h' : i.toNat < s.data.size := h
    rw [Array.getElem?_toList, Array.getElem?_eq_getElem h']; rfl
  · rename_i h
    have h' : s.data.size ≤ i.toNat := by have : s.size = s.data.size := rfl; omega
    rw [Array.getElem?_toList, Array.getElem?_eq_none h']; rfl

theorem indexByte_spec (c : UInt8) : ∀ l : List UInt8, (Lib.indexByte l c = -1 ∧ ∀ m : Nat, l[m]? ≠ some c) ∨ ∃ k : Nat, Lib.indexByte l c = k ∧ l[k]? = some c ∧ ∀ m : Nat, m < k → l[m]? ≠ some c
  | [] => .inl ⟨rfl, by simp⟩
  | b :: l => by
    unfold Lib.indexByte
    by_cases hb : b = c
    · subst hb
      exact .inr ⟨0, by simp, by simp, by omega⟩
    · have hb' : (b == c) = false := by simpa using hb
      rw [hb']
      simp only [Bool.false_eq_true, if_false]
      rcases indexByte_spec c l with ⟨h1, h2⟩ | ⟨k, h1, h2, h3⟩
      · left
        rw [h1]
        refine ⟨rfl, fun m => ?_⟩
        cases m with
        | zero => simpa using hb
        | succ m => simpa using h2 m
      · right
        refine ⟨k + 1, ?_, by simpa using h2, fun m hm => ?_⟩
        · rw [h1]
          have : (((k : Int)) == -1) = false := by simp
          rw [this]; simp
        · cases m with
          | zero => simpa using hb
          | succ m => simpa using h3 m (by omega)

theorem idxB_spec (s : ByteArray) (c : Int) (h0 : 0 ≤ c) (h1 : c < 256) : (idxB s c = -1 ∧ ∀ m : Int, 0 ≤ m → m < s.size → byteAt s m ≠ c) ∨ (0 ≤ idxB s c ∧ idxB s c < s.size ∧ byteAt s (idxB s c) = c ∧ ∀ m : Int, 0 ≤ m → m < idxB s c → byteAt s m ≠ c) := by
  have hc : (c.toNat.toUInt8).toNat = c.toNat := by
    rw [Nat.toUInt8, UInt8.toNat_ofNat']; omega
  have hb : ∀ m : Int, 0 ≤ m → m < s.size → (byteAt s m = c ↔ s.data.toList[m.toNat]? = some c.toNat.toUInt8) := fun m hm hlt => by
    rw [byteAt_list]
    have hlt' : m.toNat < s.data.toList.length := by rw [Array.length_toList]; have : s.size = s.data.size := rfl; omega
    rw [List.getElem?_eq_getElem hlt']
    simp only [Option.map_some, Option.getD_some, Option.some.injEq]
    constructor
    · intro h
      apply UInt8.toNat.inj
      rw [hc]; omega
    · intro h
      rw [h, hc]; omega
  unfold idxB
  rcases indexByte_spec c.toNat.toUInt8 s.data.toList with ⟨h2, h3⟩ | ⟨k, h2, h3, h4⟩
  · left
    exact ⟨h2, fun m hm hlt he => h3 m.toNat ((hb m hm hlt).1 he)⟩
  · right
    have hk : k < s.size := by
      have := (List.getElem?_eq_some_iff.1 h3).1
      rw [Array.length_toList] at this; exact this
    rw [h2]
    refine ⟨by omega, by omega, (hb k (by omega) (by omega)).2 (by simpa using h3), fun m hm hlt he => h4 m.toNat (by omega) ((hb m hm (by omega)).1 he)⟩

theorem ok84 (F : LexF) (hs : F.pS = fun s => s.size ≤ 1000000) (hp : F.pAt = fun s i => 0 ≤ i ∧ i ≤ s.size) (h : F.comment = commentF) (hi : F.indexByte = idxB) (k : SpecOk prog 104 (S104 F)) : SpecOk prog 84 (S84 F) := by
  refine contract_by hm hE D84 fnok84 _ fun (z : ByteArray × Int × Unit) hpre => ?_
  obtain ⟨s, i, ⟨⟩⟩ := z
  refine pack _ 0 (a0) (only_ok (F := F) (l := [104]) (by simp only [List.mem_singleton, forall_eq]; exact at_ok k (by kernel_rfl))) ?_
  obtain ⟨⟨h0, h1⟩, h2⟩ : (0 ≤ i ∧ i ≤ s.size) ∧ ByteArray.size s ≤ 1000000 := by have := hpre; simp only [S84, hs, hp] at this; exact this
  refine n84_go Lv.std F s i ?_
  simp only [n84, VC.holds, std_cmp, std_scmp, std_ar_add, std_ar_sub, std_ar_mul, std_ar, std_dv, std_shf, std_conv, std_mn, std_mx, std_beq, std_bnot, std_band, std_scat, std_byte, std_ext, std_slen, std_strOf, std_bytes, std_llen, std_get, std_setl, std_app, std_take, std_drop, std_rep, std_mhas, std_mval, std_mput, std_cast, std_toN, std_sub, std_add, std_inR, std_le3, std_leN, std_ltN, std_ne0, std_nonneg, std_catOk, std_room, std_mkOk, cmp_lss_t, cmp_lss_f, cmp_leq_t, cmp_leq_f, cmp_gtr_t, cmp_gtr_f, cmp_geq_t, cmp_geq_f, cmp_eql_t, cmp_eql_f, cmp_neq_t, cmp_neq_f, scmp_eql_t, scmp_eql_f, scmp_neq_t, scmp_neq_f, dflt_int, dflt_bool, dflt_str, dflt_sl, dflt_pair, h, hi, Prod.mk.injEq, and_true, Int.toNat_natCast]
  have hx := idxB_spec (s.extract i.toNat s.size) 10 (by omega) (by omega)
  have hsz := ext_size s i.toNat s.size
  refine ⟨⟨h0, h1, by omega⟩, trivial, fun hge => ?_, fun hlt => ?_⟩
  · simp only [commentF]
    rw [if_pos hge, wrap_i64 (by omega) (by omega)]
  · simp only [commentF]
    rw [if_neg (by omega)]

/-! ### gaps -/
theorem gapF_step (s : ByteArray) (i : Int) (b : Bool) (h0 : 0 ≤ i) (h1 : i < s.size) : gapF s ((s.size : Int) - i).toNat b =
    if byteAt s i = 10 then gapF s ((s.size : Int) - (i + 1)).toNat false else if b then gapF s ((s.size : Int) - (i + 1)).toNat true else if byteAt s i = 32 then gapF s ((s.size : Int) - (i + 1)).toNat false
      else if byteAt s i = 37 then gapF s ((s.size : Int) - (i + 1)).toNat true else i := by
  obtain ⟨n, hn⟩ : ∃ n : Nat, (s.size : Int) - i = (n + 1 : Nat) := ⟨((s.size : Int) - i - 1).toNat, by omega⟩
  have e1 : ((s.size : Int) - i).toNat = n + 1 := by omega
  have e2 : ((s.size : Int) - (i + 1)).toNat = n := by omega
  have e3 : (s.size : Int) - (n + 1 : Nat) = i := by omega
  rw [e1, e2, gapF, e3]
theorem gapF_done (s : ByteArray) (i : Int) (b : Bool) (h1 : s.size ≤ i) : gapF s ((s.size : Int) - i).toNat b = s.size := by
  have e1 : ((s.size : Int) - i).toNat = 0 := by omega
  rw [e1, gapF]
theorem gapF_skip (s : ByteArray) : ∀ (n : Nat) (i : Int), 0 ≤ i → i + n ≤ s.size → (∀ m, i ≤ m → m < i + n → byteAt s m ≠ 10) → gapF s ((s.size : Int) - i).toNat true = gapF s ((s.size : Int) - (i + n)).toNat true
  | 0, i, _, _, _ => by simp
  | n + 1, i, h0, h1, h2 => by
    rw [gapF_step s i true h0 (by omega), if_neg (h2 i (by omega) (by omega)), if_pos rfl, gapF_skip s n (i + 1) (by omega) (by omega) (fun m hm hlt => h2 m (by omega) (by omega))]
    congr 2; omega

theorem gap_comment (s : ByteArray) (i : Int) (h0 : 0 ≤ i) (h1 : i < s.size) (hb : byteAt s i = 37) : gapF s ((s.size : Int) - i).toNat false = gapF s ((s.size : Int) - commentF s i).toNat false ∧ i < commentF s i ∧ commentF s i ≤ s.size := by
  have hsz := ext_size s i.toNat s.size
  have hx := idxB_spec (s.extract i.toNat s.size) 10 (by omega) (by omega)
  have he : ∀ m : Int, 0 ≤ m → m < s.size - i → byteAt (s.extract i.toNat s.size) m = byteAt s (i + m) := fun m hm hlt => by
    rw [byteAt_ext hm (by omega)]; congr 1; omega
  rw [gapF_step s i false h0 h1, if_neg (by omega)]
  simp only [Bool.false_eq_true, if_false]
  rw [if_neg (by omega), if_pos hb]
  simp only [commentF]
  rcases hx with ⟨q1, q2⟩ | ⟨q1, q2, q3, q4⟩
  · rw [q1]
    simp only [show ¬ (0 : Int) ≤ -1 by omega, if_false]
    refine ⟨?_, h1, by omega⟩
    rw [gapF_skip s ((s.size : Int) - (i + 1)).toNat (i + 1) (by omega) (by omega) (fun m hm hlt => by
      have := q2 (m - i) (by omega) (by omega)
      rw [he (m - i) (by omega) (by omega), show i + (m - i) = m by omega] at this
      exact this)]
    rw [gapF_done s _ true (by omega), gapF_done s _ false (by omega)]
  · rw [if_pos q1]
    generalize hn : idxB (s.extract i.toNat s.size) 10 = n at *
    have hb10 : byteAt s (i + n) = 10 := by rw [← he n q1 (by omega)]; exact q3
    have hn0 : n ≠ 0 := fun e => by rw [e, Int.add_zero, hb] at hb10; omega
    refine ⟨?_, by omega, by omega⟩
    rw [gapF_skip s (n - 1).toNat (i + 1) (by omega) (by omega) (fun m hm hlt => by
      have := q4 (m - i) (by omega) (by omega)
      rw [he (m - i) (by omega) (by omega), show i + (m - i) = m by omega] at this
      exact this)]
    rw [show i + 1 + ((n - 1).toNat : Int) = i + n by omega, gapF_step s (i + n) true (by omega) (by omega), gapF_step s (i + n) false (by omega) (by omega), if_pos hb10, if_pos hb10]

theorem isOf123 (b : Int) : isOfL b [1, 2, 3] = (decide (b = 32) || decide (b = 10) || decide (b = 37)) := by
  rw [Bool.eq_iff_iff]
  simp only [isOfL, contL, indexL, cls, decide_eq_true_eq, Bool.or_eq_true]
  repeat' split
  all_goals (simp_all <;> try omega)
theorem isOf3 (b : Int) : isOfL b [3] = decide (b = 37) := by
  rw [Bool.eq_iff_iff]
  simp only [isOfL, contL, indexL, cls, decide_eq_true_eq, Bool.or_eq_true]
  repeat' split
  all_goals (simp_all <;> try omega)

theorem ok57 (F : LexF) (hs : F.pS = fun s => s.size ≤ 1000000) (hpI : F.pI = fun l => l.length ≤ 1000000) (hp : F.pAt = fun s i => 0 ≤ i ∧ i ≤ s.size) (h : F.gap = gap) (hi : F.isOf = isOfL) (hc : F.comment = commentF) (k1 : SpecOk prog 83 (S83 F)) (k2 : SpecOk prog 84 (S84 F)) : SpecOk prog 57 (S57 F) := by
  refine contract_by hm hE D57 fnok57 _ fun (z : ByteArray × Int × Unit) hpre => ?_
  obtain ⟨s, i0, ⟨⟩⟩ := z
  refine pack _ 0 (a57 Lv.std (fun (z : Int × Unit) => 0 ≤ z.1 ∧ z.1 ≤ s.size ∧ gap s i0 = gapF s (s.size - z.1).toNat false) (fun (z : Int × Unit) => (s.size - z.1).toNat)) (only_ok (F := F) (l := [83, 84]) (by simp only [List.forall_mem_cons]; exact ⟨at_ok k1 (by kernel_rfl), at_ok k2 (by kernel_rfl), fun _ h => by cases h⟩)) ?_
  obtain ⟨⟨h0, h1⟩, h2⟩ : (0 ≤ i0 ∧ i0 ≤ s.size) ∧ ByteArray.size s ≤ 1000000 := by have := hpre; simp only [S57, hs, hp] at this; exact this
  refine n57_go Lv.std F _ _ s i0 ?_
  simp only [n57, VC.holds, std_cmp, std_scmp, std_ar_add, std_ar_sub, std_ar_mul, std_ar, std_dv, std_shf, std_conv, std_mn, std_mx, std_beq, std_bnot, std_band, std_scat, std_byte, std_ext, std_slen, std_strOf, std_bytes, std_llen, std_get, std_setl, std_app, std_take, std_drop, std_rep, std_mhas, std_mval, std_mput, std_cast, std_toN, std_sub, std_add, std_inR, std_le3, std_leN, std_ltN, std_ne0, std_nonneg, std_catOk, std_room, std_mkOk, cmp_lss_t, cmp_lss_f, cmp_leq_t, cmp_leq_f, cmp_gtr_t, cmp_gtr_f, cmp_geq_t, cmp_geq_f, cmp_eql_t, cmp_eql_f, cmp_neq_t, cmp_neq_f, scmp_eql_t, scmp_eql_f, scmp_neq_t, scmp_neq_f, dflt_int, dflt_bool, dflt_str, dflt_sl, dflt_pair, h, hi, hc, hs, hp, hpI, Prod.mk.injEq, and_true, true_and, List.take_succ_cons, List.take_zero, isOf123, isOf3, Bool.or_eq_true, decide_eq_true_eq, Bool.or_eq_false_iff, decide_eq_false_iff_not]
  refine ⟨⟨h0, h1, rfl⟩, ?_⟩
  rintro ⟨i, _⟩ ⟨g0, g1, g2⟩
  simp only at g0 g1 g2 ⊢
  refine ⟨fun hlt => ⟨⟨g0, hlt⟩, by decide, fun hb => ⟨⟨g0, hlt⟩, by decide, fun h37 => ⟨⟨⟨g0, by omega⟩, h2⟩, ?_⟩, fun h37 => ?_⟩, fun hb => ?_⟩, fun hge => ?_⟩
  · obtain ⟨q1, q2, q3⟩ := gap_comment s i g0 hlt h37
    exact ⟨⟨by omega, q3, by rw [g2, q1]⟩, by omega⟩
  · simp (disch := omega) only [wrap_i64]
    refine ⟨⟨by omega, by omega, ?_⟩, by omega⟩
    rw [g2, gapF_step s i false g0 hlt]
    simp only [Bool.false_eq_true, if_false]
    split
    · rfl
    · rw [if_pos (by omega)]
  · rw [g2, gapF_step s i false g0 hlt]
    simp only [Bool.false_eq_true, if_false]
    rw [if_neg (by omega), if_neg (by omega), if_neg (by omega)]
  · rw [g2, gapF_done s i false hge]; omega

theorem ok60 (F : LexF) (hs : F.pS = fun s => s.size ≤ 1000000) (hp : F.pAt = fun s i => 0 ≤ i ∧ i ≤ s.size) (h : F.rGap = gap) : SpecOk prog 60 (S60 F) := by
  refine contract_by hm hE D60 fnok60 _ fun (z : ByteArray × Int × Unit) hpre => ?_
  obtain ⟨s, i0, ⟨⟩⟩ := z
  refine pack _ 0 (a60 Lv.std (fun (z : Int × Bool × Unit) => 0 ≤ z.1 ∧ z.1 ≤ s.size ∧ gap s i0 = gapF s (s.size - z.1).toNat z.2.1) (fun (z : Int × Bool × Unit) => (s.size - z.1).toNat)) (only_ok (F := F) (l := []) (fun g h => by cases h)) ?_
  obtain ⟨⟨h0, h1⟩, h2⟩ : (0 ≤ i0 ∧ i0 ≤ s.size) ∧ ByteArray.size s ≤ 1000000 := by have := hpre; simp only [S60, hs, hp] at this; exact this
  refine n60_go Lv.std F _ _ s i0 ?_
  simp only [n60, VC.holds, std_cmp, std_scmp, std_ar_add, std_ar_sub, std_ar_mul, std_ar, std_dv, std_shf, std_conv, std_mn, std_mx, std_beq, std_bnot, std_band, std_scat, std_byte, std_ext, std_slen, std_strOf, std_bytes, std_llen, std_get, std_setl, std_app, std_take, std_drop, std_rep, std_mhas, std_mval, std_mput, std_cast, std_toN, std_sub, std_add, std_inR, std_le3, std_leN, std_ltN, std_ne0, std_nonneg, std_catOk, std_room, std_mkOk, cmp_lss_t, cmp_lss_f, cmp_leq_t, cmp_leq_f, cmp_gtr_t, cmp_gtr_f, cmp_geq_t, cmp_geq_f, cmp_eql_t, cmp_eql_f, cmp_neq_t, cmp_neq_f, scmp_eql_t, scmp_eql_f, scmp_neq_t, scmp_neq_f, dflt_int, dflt_bool, dflt_str, dflt_sl, dflt_pair, h, Prod.mk.injEq, and_true, true_and]
  refine ⟨⟨h0, h1, rfl⟩, ?_⟩
  rintro ⟨i, b, _⟩ ⟨g0, g1, g2⟩
  simp only at g0 g1 g2 ⊢
  refine ⟨fun hlt => ?_, fun hge => ?_⟩
  · rw [gapF_step s i b g0 hlt] at g2
    simp (disch := omega) only [wrap_i64]
    refine ⟨⟨g0, hlt⟩, fun h10 => ⟨⟨by omega, by omega, ?_⟩, by omega⟩, fun h10 => ⟨fun hb => ⟨⟨by omega, by omega, ?_⟩, by omega⟩, fun hb => ⟨⟨g0, hlt⟩, fun h32 => ⟨⟨by omega, by omega, ?_⟩, by omega⟩, fun h32 => ⟨⟨g0, hlt⟩, fun h37 => ⟨⟨by omega, by omega, ?_⟩, by omega⟩, fun h37 => ?_⟩⟩⟩⟩
    · rw [g2, if_pos h10]
    · rw [g2, if_neg h10, if_pos hb, hb]
    · rw [g2, if_neg h10, hb]; simp [h32]
    · rw [g2, if_neg h10, hb]; simp [h37]
    · rw [g2, if_neg h10, hb]; simp [h32, h37]
  · rw [g2, gapF_done s i b hge]; omega

theorem whN_step (s : ByteArray) (l : List Int) (i : Int) (h0 : 0 ≤ i) (h1 : i < s.size) : whN s l ((s.size : Int) - i).toNat = if isOfL (byteAt s i) l then whN s l ((s.size : Int) - (i + 1)).toNat else i := by
  obtain ⟨n, hn⟩ : ∃ n : Nat, (s.size : Int) - i = (n + 1 : Nat) := ⟨((s.size : Int) - i - 1).toNat, by omega⟩
  have e1 : ((s.size : Int) - i).toNat = n + 1 := by omega
  have e2 : ((s.size : Int) - (i + 1)).toNat = n := by omega
  have e3 : (s.size : Int) - (n + 1 : Nat) = i := by omega
  rw [e1, e2, whN, e3]
theorem whN_done (s : ByteArray) (l : List Int) (i : Int) (h1 : s.size ≤ i) : whN s l ((s.size : Int) - i).toNat = s.size := by
  have e1 : ((s.size : Int) - i).toNat = 0 := by omega
  rw [e1, whN]
theorem runN_step (s : ByteArray) (b : Bool) (i : Int) (h0 : 0 ≤ i) (h1 : i < s.size) : runN s b ((s.size : Int) - i).toNat = if isDig (byteAt s i) || (b && isLet (byteAt s i)) then runN s b ((s.size : Int) - (i + 1)).toNat else i := by
  obtain ⟨n, hn⟩ : ∃ n : Nat, (s.size : Int) - i = (n + 1 : Nat) := ⟨((s.size : Int) - i - 1).toNat, by omega⟩
  have e1 : ((s.size : Int) - i).toNat = n + 1 := by omega
  have e2 : ((s.size : Int) - (i + 1)).toNat = n := by omega
  have e3 : (s.size : Int) - (n + 1 : Nat) = i := by omega
  rw [e1, e2, runN, e3]
theorem runN_done (s : ByteArray) (b : Bool) (i : Int) (h1 : s.size ≤ i) : runN s b ((s.size : Int) - i).toNat = s.size := by
  have e1 : ((s.size : Int) - i).toNat = 0 := by omega
  rw [e1, runN]

theorem ok86 (F : LexF) (hs : F.pS = fun s => s.size ≤ 1000000) (h : F.whil = whilF) (hi : F.isOf = isOfL) (k1 : SpecOk prog 83 (S83 F)) : SpecOk prog 86 (S86 F) := by
  refine contract_by hm hE D86 fnok86 _ fun (z : ByteArray × List Int × Unit) hpre => ?_
  obtain ⟨s, l, ⟨⟩⟩ := z
  refine pack _ 0 (a86 Lv.std (fun (z : Int × Unit) => 0 ≤ z.1 ∧ z.1 ≤ s.size ∧ whN s l s.size = whN s l (s.size - z.1).toNat) (fun (z : Int × Unit) => (s.size - z.1).toNat)) (only_ok (F := F) (l := [83]) (by simp only [List.mem_singleton, forall_eq]; exact at_ok k1 (by kernel_rfl))) ?_
  obtain ⟨h2, h3⟩ : s.size ≤ 1000000 ∧ F.pI l := by have := hpre; simp only [S86, hs] at this; exact this
  refine n86_go Lv.std F _ _ s l ?_
  simp only [n86, VC.holds, std_cmp, std_scmp, std_ar_add, std_ar_sub, std_ar_mul, std_ar, std_dv, std_shf, std_conv, std_mn, std_mx, std_beq, std_bnot, std_band, std_scat, std_byte, std_ext, std_slen, std_strOf, std_bytes, std_llen, std_get, std_setl, std_app, std_take, std_drop, std_rep, std_mhas, std_mval, std_mput, std_cast, std_toN, std_sub, std_add, std_inR, std_le3, std_leN, std_ltN, std_ne0, std_nonneg, std_catOk, std_room, std_mkOk, cmp_lss_t, cmp_lss_f, cmp_leq_t, cmp_leq_f, cmp_gtr_t, cmp_gtr_f, cmp_geq_t, cmp_geq_f, cmp_eql_t, cmp_eql_f, cmp_neq_t, cmp_neq_f, scmp_eql_t, scmp_eql_f, scmp_neq_t, scmp_neq_f, dflt_int, dflt_bool, dflt_str, dflt_sl, dflt_pair, h, hi, Prod.mk.injEq, and_true, true_and]
  refine ⟨⟨by omega, by omega, ?_⟩, ?_⟩
  · congr 1
  · rintro ⟨i, _⟩ ⟨g0, g1, g2⟩
    simp only at g0 g1 g2 ⊢
    refine ⟨fun hlt => ⟨⟨g0, hlt⟩, h3, fun hb => ?_, fun hb => ⟨⟨by omega, g0, g1⟩, ?_⟩⟩, fun hge => ⟨⟨by omega, g0, g1⟩, ?_⟩⟩
    · simp (disch := omega) only [wrap_i64]
      refine ⟨⟨by omega, by omega, ?_⟩, by omega⟩
      rw [g2, whN_step s l i g0 hlt, if_pos hb]
    · rw [whilF, g2, whN_step s l i g0 hlt, if_neg (by simp [hb])]; rfl
    · rw [whilF, g2, whN_done s l i hge, show i.toNat = (s.size : Int).toNat by omega]; rfl

theorem ok91 (F : LexF) (hs : F.pS = fun s => s.size ≤ 1000000) (hp : F.pAt = fun s i => 0 ≤ i ∧ i ≤ s.size) (h : F.rRun = runF) (hl : F.rIsLetter = isLet) (hd : F.rIsDigit = isDig) (k1 : SpecOk prog 90 (S90 F)) (k2 : SpecOk prog 93 (S93 F)) : SpecOk prog 91 (S91 F) := by
  refine contract_by hm hE D91 fnok91 _ fun (z : ByteArray × Int × Bool × Unit) hpre => ?_
  obtain ⟨s, i0, b, ⟨⟩⟩ := z
  refine pack _ 0 (a91 Lv.std (fun (z : Int × Unit) => 0 ≤ z.1 ∧ z.1 ≤ s.size ∧ runF s i0 b = runN s b (s.size - z.1).toNat) (fun (z : Int × Unit) => (s.size - z.1).toNat)) (only_ok (F := F) (l := [90, 93]) (by simp only [List.forall_mem_cons]; exact ⟨at_ok k1 (by kernel_rfl), at_ok k2 (by kernel_rfl), fun _ h => by cases h⟩)) ?_
  obtain ⟨⟨h0, h1⟩, h2⟩ : (0 ≤ i0 ∧ i0 ≤ s.size) ∧ s.size ≤ 1000000 := by have := hpre; simp only [S91, hs, hp] at this; exact this
  refine n91_go Lv.std F _ _ s i0 b ?_
  simp only [n91, VC.holds, std_cmp, std_scmp, std_ar_add, std_ar_sub, std_ar_mul, std_ar, std_dv, std_shf, std_conv, std_mn, std_mx, std_beq, std_bnot, std_band, std_scat, std_byte, std_ext, std_slen, std_strOf, std_bytes, std_llen, std_get, std_setl, std_app, std_take, std_drop, std_rep, std_mhas, std_mval, std_mput, std_cast, std_toN, std_sub, std_add, std_inR, std_le3, std_leN, std_ltN, std_ne0, std_nonneg, std_catOk, std_room, std_mkOk, cmp_lss_t, cmp_lss_f, cmp_leq_t, cmp_leq_f, cmp_gtr_t, cmp_gtr_f, cmp_geq_t, cmp_geq_f, cmp_eql_t, cmp_eql_f, cmp_neq_t, cmp_neq_f, scmp_eql_t, scmp_eql_f, scmp_neq_t, scmp_neq_f, dflt_int, dflt_bool, dflt_str, dflt_sl, dflt_pair, h, hl, hd, Prod.mk.injEq, and_true, true_and]
  refine ⟨⟨h0, h1, rfl⟩, ?_⟩
  rintro ⟨i, _⟩ ⟨g0, g1, g2⟩
  simp only at g0 g1 g2 ⊢
  refine ⟨fun hlt => ?_, fun hge => by rw [g2, runN_done s b i hge]; omega⟩
  rw [runN_step s b i g0 hlt] at g2
  simp (disch := omega) only [wrap_i64]
  refine ⟨⟨g0, hlt⟩, fun hb => ⟨⟨by omega, by omega, ?_⟩, by omega⟩, fun hb => ⟨fun hb2 => ⟨⟨g0, hlt⟩, fun hb3 => ⟨⟨by omega, by omega, ?_⟩, by omega⟩, fun hb3 => ?_⟩, fun hb2 => ?_⟩⟩
  · rw [g2, if_pos (by simp [hb])]
  · rw [g2, if_pos (by simp [hb2, hb3])]
  · rw [g2, if_neg (by simp [hb, hb3])]
  · rw [g2, if_neg (by simp [hb, hb2])]

theorem ok106 (F : LexF) (h : F.hasPrefix = hasPre) : SpecOk prog 106 (S106 F) := by
  refine contract_by hm hE D106 fnok106 _ fun (z : ByteArray × ByteArray × Unit) hpre => ?_
  obtain ⟨s, p, ⟨⟩⟩ := z
  refine pack _ 1 (a0) (in_ok (g := 122) (d := D122 a0) (fnok122 a0)) ?_
  refine n106_go Lv.std F s p ?_
  simp only [n106, VC.holds, std_cmp, std_scmp, std_ar_add, std_ar_sub, std_ar_mul, std_ar, std_dv, std_shf, std_conv, std_mn, std_mx, std_beq, std_bnot, std_band, std_scat, std_byte, std_ext, std_slen, std_strOf, std_bytes, std_llen, std_get, std_setl, std_app, std_take, std_drop, std_rep, std_mhas, std_mval, std_mput, std_cast, std_toN, std_sub, std_add, std_inR, std_le3, std_leN, std_ltN, std_ne0, std_nonneg, std_catOk, std_room, std_mkOk, cmp_lss_t, cmp_lss_f, cmp_leq_t, cmp_leq_f, cmp_gtr_t, cmp_gtr_f, cmp_geq_t, cmp_geq_f, cmp_eql_t, cmp_eql_f, cmp_neq_t, cmp_neq_f, scmp_eql_t, scmp_eql_f, scmp_neq_t, scmp_neq_f, dflt_int, dflt_bool, dflt_str, dflt_sl, dflt_pair, h, Prod.mk.injEq, and_true, true_and]
  have e1 : s.extract (((0 : Nat) : Int)).toNat ((p.size : Int)).toNat = s.extract 0 p.size := rfl
  rw [e1]
  refine ⟨fun hle => ⟨⟨by omega, by omega, hle⟩, fun he => ?_, fun he => ?_⟩, fun hlt => ?_⟩
  · simp [hasPre, he]; omega
  · simp [hasPre, he]
  · simp [hasPre]; omega

theorem signGo_drop (s : ByteArray) (l : List ByteArray) (i : Nat) (h : i < l.length) (b : ByteArray) : signGo s (l.drop i) b = signGo s (l.drop (i + 1)) (if hasPre s ((l[i]?).getD ByteArray.empty) = true ∧ b.size < ((l[i]?).getD ByteArray.empty).size then (l[i]?).getD ByteArray.empty else b) := by
  rw [List.drop_eq_getElem_cons h, signGo, List.getElem?_eq_getElem h]; rfl

theorem ok89 (F : LexF) (h : F.sign = signF) (hs : F.signs = signsL) (hp : F.hasPrefix = hasPre) (k1 : SpecOk prog 37 (S37 F)) (k2 : SpecOk prog 106 (S106 F)) : SpecOk prog 89 (S89 F) := by
  refine contract_by hm hE D89 fnok89 _ fun (z : ByteArray × Unit) hpre => ?_
  obtain ⟨s, ⟨⟩⟩ := z
  refine pack _ 0 (a89 Lv.std (fun (z : ByteArray × Int × Unit) => 0 ≤ z.2.1 ∧ z.2.1 ≤ signsL.length ∧ signF s = signGo s (signsL.drop z.2.1.toNat) z.1) (fun (z : ByteArray × Int × Unit) => (signsL.length - z.2.1).toNat)) (only_ok (F := F) (l := [37, 106]) (by simp only [List.forall_mem_cons]; exact ⟨at_ok k1 (by kernel_rfl), at_ok k2 (by kernel_rfl), fun _ h => by cases h⟩)) ?_
  have hlen : signsL.length = 22 := rfl
  refine n89_go Lv.std F _ _ s ?_
  simp only [n89, VC.holds, std_cmp, std_scmp, std_ar_add, std_ar_sub, std_ar_mul, std_ar, std_dv, std_shf, std_conv, std_mn, std_mx, std_beq, std_bnot, std_band, std_scat, std_byte, std_ext, std_slen, std_strOf, std_bytes, std_llen, std_get, std_setl, std_app, std_take, std_drop, std_rep, std_mhas, std_mval, std_mput, std_cast, std_toN, std_sub, std_add, std_inR, std_le3, std_leN, std_ltN, std_ne0, std_nonneg, std_catOk, std_room, std_mkOk, cmp_lss_t, cmp_lss_f, cmp_leq_t, cmp_leq_f, cmp_gtr_t, cmp_gtr_f, cmp_geq_t, cmp_geq_f, cmp_eql_t, cmp_eql_f, cmp_neq_t, cmp_neq_f, scmp_eql_t, scmp_eql_f, scmp_neq_t, scmp_neq_f, dflt_int, dflt_bool, dflt_str, dflt_sl, dflt_pair, h, hs, hp, Prod.mk.injEq, and_true, true_and, hlen]
  refine ⟨⟨by omega, by omega, rfl⟩, ?_⟩
  rintro ⟨b, i, _⟩ ⟨g0, g1, g2⟩
  simp only at g0 g1 g2 ⊢
  refine ⟨fun hlt => ?_, fun hge => ?_⟩
  · rw [signGo_drop s signsL i.toNat (by omega)] at g2
    simp (disch := omega) only [wrap_i64]
    have e : (i + 1).toNat = i.toNat + 1 := by omega
    rw [e]
    refine ⟨⟨g0, hlt⟩, fun hb => ⟨fun hc => ⟨⟨by omega, by omega, ?_⟩, by omega⟩, fun hc => ⟨⟨by omega, by omega, ?_⟩, by omega⟩⟩, fun hb => ⟨⟨by omega, by omega, ?_⟩, by omega⟩⟩
    · rw [g2, if_pos ⟨hb, by omega⟩]
    · rw [g2, if_neg (fun hh => by have := hh.2; omega)]
    · rw [g2, if_neg (fun hh => by rw [hb] at hh; cases hh.1)]
  · have e : List.drop i.toNat signsL = [] := List.drop_eq_nil_of_le (by omega)
    rw [g2, e, signGo]

theorem any_drop (s : ByteArray) (l : List ByteArray) (i : Nat) (h : i < l.length) : ((l.drop i).any fun k => decide (s = k)) = (decide (s = (l[i]?).getD ByteArray.empty) || (l.drop (i + 1)).any fun k => decide (s = k)) := by
  rw [List.drop_eq_getElem_cons h, List.any_cons, List.getElem?_eq_getElem h]; rfl

theorem ok92 (F : LexF) (h : F.rIsKeyword = isKeyF) (hs : F.keywords = keywordsL) (k1 : SpecOk prog 38 (S38 F)) : SpecOk prog 92 (S92 F) := by
  refine contract_by hm hE D92 fnok92 _ fun (z : ByteArray × Unit) hpre => ?_
  obtain ⟨s, ⟨⟩⟩ := z
  refine pack _ 0 (a92 Lv.std (fun (z : Int × Unit) => 0 ≤ z.1 ∧ z.1 ≤ keywordsL.length ∧ isKeyF s = (keywordsL.drop z.1.toNat).any fun k => decide (s = k)) (fun (z : Int × Unit) => (keywordsL.length - z.1).toNat)) (only_ok (F := F) (l := [38]) (by simp only [List.mem_singleton, forall_eq]; exact at_ok k1 (by kernel_rfl))) ?_
  have hlen : keywordsL.length = 28 := rfl
  refine n92_go Lv.std F _ _ s ?_
  simp only [n92, VC.holds, std_cmp, std_scmp, std_ar_add, std_ar_sub, std_ar_mul, std_ar, std_dv, std_shf, std_conv, std_mn, std_mx, std_beq, std_bnot, std_band, std_scat, std_byte, std_ext, std_slen, std_strOf, std_bytes, std_llen, std_get, std_setl, std_app, std_take, std_drop, std_rep, std_mhas, std_mval, std_mput, std_cast, std_toN, std_sub, std_add, std_inR, std_le3, std_leN, std_ltN, std_ne0, std_nonneg, std_catOk, std_room, std_mkOk, cmp_lss_t, cmp_lss_f, cmp_leq_t, cmp_leq_f, cmp_gtr_t, cmp_gtr_f, cmp_geq_t, cmp_geq_f, cmp_eql_t, cmp_eql_f, cmp_neq_t, cmp_neq_f, scmp_eql_t, scmp_eql_f, scmp_neq_t, scmp_neq_f, dflt_int, dflt_bool, dflt_str, dflt_sl, dflt_pair, h, hs, Prod.mk.injEq, and_true, true_and, hlen]
  refine ⟨⟨by omega, by omega, rfl⟩, ?_⟩
  rintro ⟨i, _⟩ ⟨g0, g1, g2⟩
  simp only at g0 g1 g2 ⊢
  refine ⟨fun hlt => ?_, fun hge => ?_⟩
  · rw [any_drop s keywordsL i.toNat (by omega)] at g2
    simp (disch := omega) only [wrap_i64]
    have e : (i + 1).toNat = i.toNat + 1 := by omega
    rw [e]
    refine ⟨⟨g0, hlt⟩, fun he => ?_, fun he => ⟨⟨by omega, by omega, ?_⟩, by omega⟩⟩
    · rw [g2, ← he]; simp
    · rw [g2, decide_eq_false (fun hh => he hh.symm)]; rfl
  · have e : List.drop i.toNat keywordsL = [] := List.drop_eq_nil_of_le (by omega)
    rw [g2, e]; rfl

theorem ok94 (F : LexF) (h : F.rIsNumber = isNumF) : SpecOk prog 94 (S94 F) := by
  refine contract_by hm hE D94 fnok94 _ fun (z : ByteArray × Unit) hpre => ?_
  obtain ⟨s, ⟨⟩⟩ := z
  refine pack _ 0 (a0) (only_ok (F := F) (l := []) (fun g h => by cases h)) ?_
  refine n94_go Lv.std F s ?_
  simp only [n94, VC.holds, std_cmp, std_scmp, std_ar_add, std_ar_sub, std_ar_mul, std_ar, std_dv, std_shf, std_conv, std_mn, std_mx, std_beq, std_bnot, std_band, std_scat, std_byte, std_ext, std_slen, std_strOf, std_bytes, std_llen, std_get, std_setl, std_app, std_take, std_drop, std_rep, std_mhas, std_mval, std_mput, std_cast, std_toN, std_sub, std_add, std_inR, std_le3, std_leN, std_ltN, std_ne0, std_nonneg, std_catOk, std_room, std_mkOk, cmp_lss_t, cmp_lss_f, cmp_leq_t, cmp_leq_f, cmp_gtr_t, cmp_gtr_f, cmp_geq_t, cmp_geq_f, cmp_eql_t, cmp_eql_f, cmp_neq_t, cmp_neq_f, scmp_eql_t, scmp_eql_f, scmp_neq_t, scmp_neq_f, dflt_int, dflt_bool, dflt_str, dflt_sl, dflt_pair, h, Prod.mk.injEq, and_true, true_and]
  have e1 : bs [48] = ByteArray.mk #[48] := rfl
  have e2 : bs [49, 48, 48, 48, 48, 48, 48, 48, 48, 48] = ByteArray.mk #[49, 48, 48, 48, 48, 48, 48, 48, 48, 48] := rfl
  have e3 : ∀ t : ByteArray, t ≠ ByteArray.mk #[] → t.size ≠ 0 := fun t ht he => ht (ByteArray.ext (Array.eq_empty_of_size_eq_zero he))
  unfold isNumF
  rw [e1, e2]
  refine ⟨fun h1 => ?_, fun h1 => ⟨fun h2 => ⟨⟨by omega, by have := e3 s h2; omega⟩, fun h3 => ⟨fun h4 => ?_, fun h4 => ⟨fun h5 => ?_, fun h5 => ?_⟩⟩, fun h3 => ?_⟩, fun h2 => ?_⟩⟩
  · rw [decide_eq_true h1]; rfl
  · have h4' : s.size < 10 := by omega
    rw [decide_eq_true (e3 s h2), decide_eq_true h3, decide_eq_true h4']; simp
  · rw [decide_eq_true (e3 s h2), decide_eq_true h3, decide_eq_true h5]; simp
  · have h4' : ¬ s.size < 10 := by omega
    rw [decide_eq_false h1, decide_eq_false h4', decide_eq_false h5]; simp
  · rw [decide_eq_false h1]; simp [h3]
  · have : s.size = 0 := by rw [h2]; rfl
    rw [decide_eq_false h1, decide_eq_false (fun hh => hh this)]; simp
end Go.Proofs.Tryd
set_option autoImplicit false
set_option linter.all false
namespace Go.Proofs.Tryd
open Go Go.VM
set_option maxRecDepth 100000
abbrev P3 (t u v : Ty) := Ds [t, u, v] → Prop
abbrev M3 (t u v : Ty) := Ds [t, u, v] → Nat
def a61 (L : Lv) (I : P3 It (.int .u8) .str) (mu : M3 It (.int .u8) .str) : Nat → LAnn
  | 1 => anH L [0, 1, 4, 5, 6, 7] [] [.s 7 It, .b 5 0 (.int .u8), .b 5 1 .str] I mu
  | _ => .no
def a23 (L : Lv) (I : P2 (.sl Lt) It) (mu : M2 (.sl Lt) It) : Nat → LAnn
  | 0 => anH L [0, 2, 3] [(2, none, 48, Lt)] [.r 2 Lt, .s 3 It] I mu
  | _ => .no
def a24 (L : Lv) (I : P2 (.sl Lt) It) (mu : M2 (.sl Lt) It) : Nat → LAnn
  | 0 => anH L [0, 7, 8] [(7, none, 48, Lt)] [.r 7 Lt, .s 8 It] I mu
  | _ => .no
def n61 (L : Lv) (F : LexF) (I : P3 It (.int .u8) .str) (mu : M3 It (.int .u8) .str) (s : ByteArray) (i : Int)  : VC :=
 VC.obl (Lv.inR L i (Lv.slen L s))
 (VC.obl True
 (VC.br (LexF.rIsLetter F (Lv.byte L s i))
 (VC.obl (LexF.pAt F s i ∧ LexF.pS F s)
 (VC.obl (Lv.le3 L i (LexF.rRun F s i true) (Lv.slen L s))
 (VC.obl True
 (VC.br (LexF.rIsKeyword F (Lv.ext L s (Lv.toN L i) (Lv.toN L (LexF.rRun F s i true))))
 (VC.ok (((3, Lv.ext L s (Lv.toN L i) (Lv.toN L (LexF.rRun F s i true)), i), ()) = (LexF.rToken F s i, ())))
 (VC.br (Lv.cmp L BinOp.leq (Lv.cast L (Lv.slen L (Lv.ext L s (Lv.toN L i) (Lv.toN L (LexF.rRun F s i true))))) 12)
 (VC.ok (((1, Lv.ext L s (Lv.toN L i) (Lv.toN L (LexF.rRun F s i true)), i), ()) = (LexF.rToken F s i, ())))
 (VC.ok (((0, Lv.ext L s (Lv.toN L i) (Lv.toN L (LexF.rRun F s i true)), i), ()) = (LexF.rToken F s i, ()))))))))
 (VC.obl (Lv.inR L i (Lv.slen L s))
 (VC.obl True
 (VC.br (LexF.rIsDigit F (Lv.byte L s i))
 (VC.obl (LexF.pAt F s i ∧ LexF.pS F s)
 (VC.obl (Lv.le3 L i (LexF.rRun F s i false) (Lv.slen L s))
 (VC.obl True
 (VC.br (LexF.rIsNumber F (Lv.ext L s (Lv.toN L i) (Lv.toN L (LexF.rRun F s i false))))
 (VC.ok (((2, Lv.ext L s (Lv.toN L i) (Lv.toN L (LexF.rRun F s i false)), i), ()) = (LexF.rToken F s i, ())))
 (VC.ok (((0, Lv.ext L s (Lv.toN L i) (Lv.toN L (LexF.rRun F s i false)), i), ()) = (LexF.rToken F s i, ())))))))
 (VC.obl True
 (VC.obl
 (St.mk 99 [(0, V.c (C.str s)), (1, V.c (C.int IntKind.i64 i)), (4, V.c (C.ptr 1 0)), (5, V.c (C.ptr 2 0)), (6, V.c (C.sl Ty.str (LexF.signs F))), (7, V.c (C.int IntKind.i64 0))]
 [(0, Ob.amb), (1, Ob.box 48 [C.int IntKind.u8 0, C.str ByteArray.empty, C.int IntKind.i64 0]), (2, Ob.box 48 [C.int IntKind.u8 0, C.str ByteArray.empty, C.int IntKind.i64 i])] 3 =
 St.mk 99 [(0, V.c (C.str s)), (1, V.c (C.int IntKind.i64 i)), (4, V.c (C.ptr 1 0)), (5, V.c (C.ptr 2 0)), (6, V.c (C.sl Ty.str (LexF.signs F))), (7, V.c (C.int IntKind.i64 0))]
 [(0, Ob.amb), (1, Ob.box 48 [C.int IntKind.u8 0, C.str ByteArray.empty, C.int IntKind.i64 0]),
 (2, Ob.box 48 [C.int IntKind.u8 0, C.str (ByteArray.mk (Array.mk [])), C.int IntKind.i64 i])]
 3)
 (VC.obl (I (0, 0, ByteArray.mk (Array.mk []), ()))
 (VC.all (Int × Int × ByteArray × Unit) fun (x : Int × Int × ByteArray × Unit) =>
 VC.imp (I x)
 (VC.br (Lv.cmp L BinOp.lss (Prod.fst x) (Lv.cast L (Lv.llen L Ty.str (LexF.signs F))))
 (VC.obl (Lv.inR L (Prod.fst x) (Lv.llen L Ty.str (LexF.signs F)))
 (VC.br (Lv.cmp L BinOp.gtr (Lv.cast L (Lv.slen L (Lv.get L Ty.str (LexF.signs F) (Lv.toN L (Prod.fst x))))) (Lv.cast L (Lv.slen L (Prod.fst (Prod.snd (Prod.snd x))))))
 (VC.obl (Lv.inR L (Prod.fst x) (Lv.llen L Ty.str (LexF.signs F)))
 (VC.br (Lv.cmp L BinOp.leq (Lv.ar L BinOp.add IntKind.i64 i (Lv.cast L (Lv.slen L (Lv.get L Ty.str (LexF.signs F) (Lv.toN L (Prod.fst x)))))) (Lv.cast L (Lv.slen L s)))
 (VC.obl (Lv.inR L (Prod.fst x) (Lv.llen L Ty.str (LexF.signs F)))
 (VC.obl (Lv.le3 L i (Lv.ar L BinOp.add IntKind.i64 i (Lv.cast L (Lv.slen L (Lv.get L Ty.str (LexF.signs F) (Lv.toN L (Prod.fst x)))))) (Lv.slen L s))
 (VC.obl (Lv.inR L (Prod.fst x) (Lv.llen L Ty.str (LexF.signs F)))
 (VC.br
 (Lv.scmp L BinOp.eql
 (Lv.ext L s (Lv.toN L i) (Lv.toN L (Lv.ar L BinOp.add IntKind.i64 i (Lv.cast L (Lv.slen L (Lv.get L Ty.str (LexF.signs F) (Lv.toN L (Prod.fst x))))))))
 (Lv.get L Ty.str (LexF.signs F) (Lv.toN L (Prod.fst x))))
 (VC.obl (Lv.inR L (Prod.fst x) (Lv.llen L Ty.str (LexF.signs F)))
 (VC.ok
 (St.mk 99
 [(0, V.c (C.str s)), (1, V.c (C.int IntKind.i64 i)), (4, V.c (C.ptr 1 0)), (5, V.c (C.ptr 2 0)), (6, V.c (C.sl Ty.str (LexF.signs F))),
 (7, V.c (C.int IntKind.i64 (Lv.ar L BinOp.add IntKind.i64 (Prod.fst x) 1)))]
 [(0, Ob.amb), (1, Ob.box 48 [C.int IntKind.u8 0, C.str ByteArray.empty, C.int IntKind.i64 0]),
 (2, Ob.box 48 [C.int IntKind.u8 4, C.str (Lv.get L Ty.str (LexF.signs F) (Lv.toN L (Prod.fst x))), C.int IntKind.i64 i])]
 3 =
 St.mk 99
 [(0, V.c (C.str s)), (1, V.c (C.int IntKind.i64 i)), (4, V.c (C.ptr 1 0)), (5, V.c (C.ptr 2 0)), (6, V.c (C.sl Ty.str (LexF.signs F))),
 (7, V.c (C.int IntKind.i64 (Lv.ar L BinOp.add IntKind.i64 (Prod.fst x) 1)))]
 [(0, Ob.amb), (1, Ob.box 48 [C.int IntKind.u8 0, C.str ByteArray.empty, C.int IntKind.i64 0]),
 (2, Ob.box 48 [C.int IntKind.u8 4, C.str (Lv.get L Ty.str (LexF.signs F) (Lv.toN L (Prod.fst x))), C.int IntKind.i64 i])]
 3 ∧
 I (Lv.ar L BinOp.add IntKind.i64 (Prod.fst x) 1, 4, Lv.get L Ty.str (LexF.signs F) (Lv.toN L (Prod.fst x)), ()) ∧
 mu (Lv.ar L BinOp.add IntKind.i64 (Prod.fst x) 1, 4, Lv.get L Ty.str (LexF.signs F) (Lv.toN L (Prod.fst x)), ()) < mu x)))
 (VC.ok
 (St.mk 99
 [(0, V.c (C.str s)), (1, V.c (C.int IntKind.i64 i)), (4, V.c (C.ptr 1 0)), (5, V.c (C.ptr 2 0)), (6, V.c (C.sl Ty.str (LexF.signs F))),
 (7, V.c (C.int IntKind.i64 (Lv.ar L BinOp.add IntKind.i64 (Prod.fst x) 1)))]
 [(0, Ob.amb), (1, Ob.box 48 [C.int IntKind.u8 0, C.str ByteArray.empty, C.int IntKind.i64 0]),
 (2, Ob.box 48 [C.int IntKind.u8 (Prod.fst (Prod.snd x)), C.str (Prod.fst (Prod.snd (Prod.snd x))), C.int IntKind.i64 i])]
 3 =
 St.mk 99
 [(0, V.c (C.str s)), (1, V.c (C.int IntKind.i64 i)), (4, V.c (C.ptr 1 0)), (5, V.c (C.ptr 2 0)), (6, V.c (C.sl Ty.str (LexF.signs F))),
 (7, V.c (C.int IntKind.i64 (Lv.ar L BinOp.add IntKind.i64 (Prod.fst x) 1)))]
 [(0, Ob.amb), (1, Ob.box 48 [C.int IntKind.u8 0, C.str ByteArray.empty, C.int IntKind.i64 0]),
 (2, Ob.box 48 [C.int IntKind.u8 (Prod.fst (Prod.snd x)), C.str (Prod.fst (Prod.snd (Prod.snd x))), C.int IntKind.i64 i])]
 3 ∧
 I (Lv.ar L BinOp.add IntKind.i64 (Prod.fst x) 1, Prod.fst (Prod.snd x), Prod.fst (Prod.snd (Prod.snd x)), ()) ∧
 mu (Lv.ar L BinOp.add IntKind.i64 (Prod.fst x) 1, Prod.fst (Prod.snd x), Prod.fst (Prod.snd (Prod.snd x)), ()) < mu x))))))
 (VC.ok
 (St.mk 99
 [(0, V.c (C.str s)), (1, V.c (C.int IntKind.i64 i)), (4, V.c (C.ptr 1 0)), (5, V.c (C.ptr 2 0)), (6, V.c (C.sl Ty.str (LexF.signs F))),
 (7, V.c (C.int IntKind.i64 (Lv.ar L BinOp.add IntKind.i64 (Prod.fst x) 1)))]
 [(0, Ob.amb), (1, Ob.box 48 [C.int IntKind.u8 0, C.str ByteArray.empty, C.int IntKind.i64 0]),
 (2, Ob.box 48 [C.int IntKind.u8 (Prod.fst (Prod.snd x)), C.str (Prod.fst (Prod.snd (Prod.snd x))), C.int IntKind.i64 i])]
 3 =
 St.mk 99
 [(0, V.c (C.str s)), (1, V.c (C.int IntKind.i64 i)), (4, V.c (C.ptr 1 0)), (5, V.c (C.ptr 2 0)), (6, V.c (C.sl Ty.str (LexF.signs F))),
 (7, V.c (C.int IntKind.i64 (Lv.ar L BinOp.add IntKind.i64 (Prod.fst x) 1)))]
 [(0, Ob.amb), (1, Ob.box 48 [C.int IntKind.u8 0, C.str ByteArray.empty, C.int IntKind.i64 0]),
 (2, Ob.box 48 [C.int IntKind.u8 (Prod.fst (Prod.snd x)), C.str (Prod.fst (Prod.snd (Prod.snd x))), C.int IntKind.i64 i])]
 3 ∧
 I (Lv.ar L BinOp.add IntKind.i64 (Prod.fst x) 1, Prod.fst (Prod.snd x), Prod.fst (Prod.snd (Prod.snd x)), ()) ∧
 mu (Lv.ar L BinOp.add IntKind.i64 (Prod.fst x) 1, Prod.fst (Prod.snd x), Prod.fst (Prod.snd (Prod.snd x)), ()) < mu x))))
 (VC.ok
 (St.mk 99
 [(0, V.c (C.str s)), (1, V.c (C.int IntKind.i64 i)), (4, V.c (C.ptr 1 0)), (5, V.c (C.ptr 2 0)), (6, V.c (C.sl Ty.str (LexF.signs F))),
 (7, V.c (C.int IntKind.i64 (Lv.ar L BinOp.add IntKind.i64 (Prod.fst x) 1)))]
 [(0, Ob.amb), (1, Ob.box 48 [C.int IntKind.u8 0, C.str ByteArray.empty, C.int IntKind.i64 0]),
 (2, Ob.box 48 [C.int IntKind.u8 (Prod.fst (Prod.snd x)), C.str (Prod.fst (Prod.snd (Prod.snd x))), C.int IntKind.i64 i])]
 3 =
 St.mk 99
 [(0, V.c (C.str s)), (1, V.c (C.int IntKind.i64 i)), (4, V.c (C.ptr 1 0)), (5, V.c (C.ptr 2 0)), (6, V.c (C.sl Ty.str (LexF.signs F))),
 (7, V.c (C.int IntKind.i64 (Lv.ar L BinOp.add IntKind.i64 (Prod.fst x) 1)))]
 [(0, Ob.amb), (1, Ob.box 48 [C.int IntKind.u8 0, C.str ByteArray.empty, C.int IntKind.i64 0]),
 (2, Ob.box 48 [C.int IntKind.u8 (Prod.fst (Prod.snd x)), C.str (Prod.fst (Prod.snd (Prod.snd x))), C.int IntKind.i64 i])]
 3 ∧
 I (Lv.ar L BinOp.add IntKind.i64 (Prod.fst x) 1, Prod.fst (Prod.snd x), Prod.fst (Prod.snd (Prod.snd x)), ()) ∧
 mu (Lv.ar L BinOp.add IntKind.i64 (Prod.fst x) 1, Prod.fst (Prod.snd x), Prod.fst (Prod.snd (Prod.snd x)), ()) < mu x))))
 (VC.ok (((Prod.fst (Prod.snd x), Prod.fst (Prod.snd (Prod.snd x)), i), ()) = (LexF.rToken F s i, ())))))))))))))
theorem n61_eq (L : Lv) (F : LexF) (I : P3 It (.int .u8) .str) (mu : M3 It (.int .u8) .str) (s : ByteArray) (i : Int) : vcO L F [37, 90, 91, 92, 93, 94] (D61 (a61 L I mu)) (S61 F) (s, i, ()) = n61 L F I mu s i := by kernel_rfl
theorem n61_go (L : Lv) (F : LexF) (I : P3 It (.int .u8) .str) (mu : M3 It (.int .u8) .str) (s : ByteArray) (i : Int) (h : VC.holds (n61 L F I mu s i)) : Holds (vcO L F [37, 90, 91, 92, 93, 94] (D61 (a61 L I mu)) (S61 F) (s, i, ())) := Holds.of_eq (n61_eq L F I mu s i) h
def n23 (L : Lv) (F : LexF) (I : P2 (.sl Lt) It) (mu : M2 (.sl Lt) It) (s : ByteArray)  : VC :=
 VC.obl True
 (VC.br (Lv.cmp L BinOp.neq (Prod.snd (LexF.chk F s)) 0)
 (VC.ok (([], Prod.fst (LexF.chk F s), Prod.snd (LexF.chk F s), ()) = (Prod.fst (LexF.scan F s), Prod.fst (Prod.snd (LexF.scan F s)), Prod.snd (Prod.snd (LexF.scan F s)), ())))
 (VC.obl (LexF.pAt F s 0 ∧ LexF.pS F s)
 (VC.obl
 (St.mk 52 [(0, V.c (C.str s)), (2, V.c (C.own 2 0)), (3, V.c (C.int IntKind.i64 (LexF.gap F s 0)))]
 [(0, Ob.amb), (2, Ob.row 48 Lt [])] 3 =
 St.mk 52 [(0, V.c (C.str s)), (2, V.c (C.own 2 (Lv.llen L Lt []))), (3, V.c (C.int IntKind.i64 (LexF.gap F s 0)))]
 [(0, Ob.amb), (2, Ob.row 48 Lt [])] 3)
 (VC.obl (I ([], LexF.gap F s 0, ()))
 (VC.all (List (Int × ByteArray × Int) × Int × Unit) fun (x : List (Int × ByteArray × Int) × Int × Unit) =>
 VC.imp (I x)
 (VC.br (Lv.cmp L BinOp.lss (Prod.fst (Prod.snd x)) (Lv.cast L (Lv.slen L s)))
 (VC.obl (LexF.pLt F s (Prod.fst (Prod.snd x)) ∧ LexF.pS F s)
 (VC.br (Prod.snd (LexF.token F s (Prod.fst (Prod.snd x))))
 (VC.br (Lv.cmp L BinOp.eql (Lv.cast L (Lv.llen L Lt (Prod.fst x))) 900)
 (VC.ok (([], Prod.fst (Prod.snd x), 5, ()) = (Prod.fst (LexF.scan F s), Prod.fst (Prod.snd (LexF.scan F s)), Prod.snd (Prod.snd (LexF.scan F s)), ())))
 (VC.obl
 (Lv.room L
 (Lv.add L
 (Lv.llen L Lt
 (Lv.take L Lt (Prod.fst x)
 (Lv.llen L Lt (Prod.fst x))))
 (Lv.llen L Lt
 (Lv.take L Lt
 [(Prod.fst (Prod.fst (LexF.token F s (Prod.fst (Prod.snd x)))), Prod.fst (Prod.snd (Prod.fst (LexF.token F s (Prod.fst (Prod.snd x))))),
 Prod.snd (Prod.snd (Prod.fst (LexF.token F s (Prod.fst (Prod.snd x))))))]
 1)))
 32)
 (VC.obl
 (LexF.pAt F s (Lv.ar L BinOp.add IntKind.i64 (Prod.fst (Prod.snd x)) (Lv.cast L (Lv.slen L (Prod.fst (Prod.snd (Prod.fst (LexF.token F s (Prod.fst (Prod.snd x))))))))) ∧
 LexF.pS F s)
 (VC.ok
 (St.mk 52
 [(0, V.c (C.str s)),
 (2,
 V.c
 (C.own 2
 (Lv.add L
 (Lv.llen L Lt
 (Lv.take L Lt (Prod.fst x)
 (Lv.llen L Lt (Prod.fst x))))
 (Lv.llen L Lt
 (Lv.take L Lt
 [(Prod.fst (Prod.fst (LexF.token F s (Prod.fst (Prod.snd x)))), Prod.fst (Prod.snd (Prod.fst (LexF.token F s (Prod.fst (Prod.snd x))))),
 Prod.snd (Prod.snd (Prod.fst (LexF.token F s (Prod.fst (Prod.snd x))))))]
 1))))),
 (3,
 V.c
 (C.int IntKind.i64
 (LexF.gap F s
 (Lv.ar L BinOp.add IntKind.i64 (Prod.fst (Prod.snd x))
 (Lv.cast L (Lv.slen L (Prod.fst (Prod.snd (Prod.fst (LexF.token F s (Prod.fst (Prod.snd x))))))))))))]
 [(0, Ob.amb),
 (2,
 Ob.row 48 Lt
 (Lv.app L Lt
 (Lv.take L Lt (Prod.fst x)
 (Lv.llen L Lt (Prod.fst x)))
 (Lv.take L Lt
 [(Prod.fst (Prod.fst (LexF.token F s (Prod.fst (Prod.snd x)))), Prod.fst (Prod.snd (Prod.fst (LexF.token F s (Prod.fst (Prod.snd x))))),
 Prod.snd (Prod.snd (Prod.fst (LexF.token F s (Prod.fst (Prod.snd x))))))]
 1)))]
 3 =
 St.mk 52
 [(0, V.c (C.str s)),
 (2,
 V.c
 (C.own 2
 (Lv.llen L Lt
 (Lv.app L Lt
 (Lv.take L Lt (Prod.fst x)
 (Lv.llen L Lt (Prod.fst x)))
 (Lv.take L Lt
 [(Prod.fst (Prod.fst (LexF.token F s (Prod.fst (Prod.snd x)))), Prod.fst (Prod.snd (Prod.fst (LexF.token F s (Prod.fst (Prod.snd x))))),
 Prod.snd (Prod.snd (Prod.fst (LexF.token F s (Prod.fst (Prod.snd x))))))]
 1))))),
 (3,
 V.c
 (C.int IntKind.i64
 (LexF.gap F s
 (Lv.ar L BinOp.add IntKind.i64 (Prod.fst (Prod.snd x))
 (Lv.cast L (Lv.slen L (Prod.fst (Prod.snd (Prod.fst (LexF.token F s (Prod.fst (Prod.snd x))))))))))))]
 [(0, Ob.amb),
 (2,
 Ob.row 48 Lt
 (Lv.app L Lt
 (Lv.take L Lt (Prod.fst x)
 (Lv.llen L Lt (Prod.fst x)))
 (Lv.take L Lt
 [(Prod.fst (Prod.fst (LexF.token F s (Prod.fst (Prod.snd x)))), Prod.fst (Prod.snd (Prod.fst (LexF.token F s (Prod.fst (Prod.snd x))))),
 Prod.snd (Prod.snd (Prod.fst (LexF.token F s (Prod.fst (Prod.snd x))))))]
 1)))]
 3 ∧
 I
 (Lv.app L Lt
 (Lv.take L Lt (Prod.fst x)
 (Lv.llen L Lt (Prod.fst x)))
 (Lv.take L Lt
 [(Prod.fst (Prod.fst (LexF.token F s (Prod.fst (Prod.snd x)))), Prod.fst (Prod.snd (Prod.fst (LexF.token F s (Prod.fst (Prod.snd x))))),
 Prod.snd (Prod.snd (Prod.fst (LexF.token F s (Prod.fst (Prod.snd x))))))]
 1),
 LexF.gap F s
 (Lv.ar L BinOp.add IntKind.i64 (Prod.fst (Prod.snd x)) (Lv.cast L (Lv.slen L (Prod.fst (Prod.snd (Prod.fst (LexF.token F s (Prod.fst (Prod.snd x))))))))),
 ()) ∧
 mu
 (Lv.app L Lt
 (Lv.take L Lt (Prod.fst x)
 (Lv.llen L Lt (Prod.fst x)))
 (Lv.take L Lt
 [(Prod.fst (Prod.fst (LexF.token F s (Prod.fst (Prod.snd x)))), Prod.fst (Prod.snd (Prod.fst (LexF.token F s (Prod.fst (Prod.snd x))))),
 Prod.snd (Prod.snd (Prod.fst (LexF.token F s (Prod.fst (Prod.snd x))))))]
 1),
 LexF.gap F s
 (Lv.ar L BinOp.add IntKind.i64 (Prod.fst (Prod.snd x)) (Lv.cast L (Lv.slen L (Prod.fst (Prod.snd (Prod.fst (LexF.token F s (Prod.fst (Prod.snd x))))))))),
 ()) <
 mu x)))))
 (VC.ok (([], Prod.fst (Prod.snd x), 4, ()) = (Prod.fst (LexF.scan F s), Prod.fst (Prod.snd (LexF.scan F s)), Prod.snd (Prod.snd (LexF.scan F s)), ())))))
 (VC.ok
 ((Lv.take L Lt (Prod.fst x)
 (Lv.llen L Lt (Prod.fst x)),
 0, 0, ()) =
 (Prod.fst (LexF.scan F s), Prod.fst (Prod.snd (LexF.scan F s)), Prod.snd (Prod.snd (LexF.scan F s)), ())))))))))
theorem n23_eq (L : Lv) (F : LexF) (I : P2 (.sl Lt) It) (mu : M2 (.sl Lt) It) (s : ByteArray) : vcO L F [56, 57, 58] (D23 (a23 L I mu)) (S23 F) (s, ()) = n23 L F I mu s := by kernel_rfl
theorem n23_go (L : Lv) (F : LexF) (I : P2 (.sl Lt) It) (mu : M2 (.sl Lt) It) (s : ByteArray) (h : VC.holds (n23 L F I mu s)) : Holds (vcO L F [56, 57, 58] (D23 (a23 L I mu)) (S23 F) (s, ())) := Holds.of_eq (n23_eq L F I mu s) h
def n24 (L : Lv) (F : LexF) (I : P2 (.sl Lt) It) (mu : M2 (.sl Lt) It) (s : ByteArray)  : VC :=
 VC.obl True
 (VC.br (Lv.cmp L BinOp.neq (Prod.snd (LexF.chk F s)) 0)
 (VC.ok (([], Prod.fst (LexF.chk F s), Prod.snd (LexF.chk F s), ()) = (Prod.fst (LexF.rScan F s), Prod.fst (Prod.snd (LexF.rScan F s)), Prod.snd (Prod.snd (LexF.rScan F s)), ())))
 (VC.obl (LexF.pAt F s 0 ∧ LexF.pS F s)
 (VC.obl
 (St.mk 49 [(0, V.c (C.str s)), (7, V.c (C.own 2 0)), (8, V.c (C.int IntKind.i64 (LexF.rGap F s 0)))]
 [(0, Ob.amb), (2, Ob.row 48 Lt [])] 3 =
 St.mk 49 [(0, V.c (C.str s)), (7, V.c (C.own 2 (Lv.llen L Lt []))), (8, V.c (C.int IntKind.i64 (LexF.rGap F s 0)))]
 [(0, Ob.amb), (2, Ob.row 48 Lt [])] 3)
 (VC.obl (I ([], LexF.rGap F s 0, ()))
 (VC.all (List (Int × ByteArray × Int) × Int × Unit) fun (x : List (Int × ByteArray × Int) × Int × Unit) =>
 VC.imp (I x)
 (VC.br (Lv.cmp L BinOp.lss (Prod.fst (Prod.snd x)) (Lv.cast L (Lv.slen L s)))
 (VC.obl (LexF.pLt F s (Prod.fst (Prod.snd x)) ∧ LexF.pS F s)
 (VC.br (Lv.cmp L BinOp.eql (Prod.fst (LexF.rToken F s (Prod.fst (Prod.snd x)))) 0)
 (VC.ok (([], Prod.fst (Prod.snd x), 4, ()) = (Prod.fst (LexF.rScan F s), Prod.fst (Prod.snd (LexF.rScan F s)), Prod.snd (Prod.snd (LexF.rScan F s)), ())))
 (VC.br (Lv.cmp L BinOp.eql (Lv.cast L (Lv.llen L Lt (Prod.fst x))) 900)
 (VC.ok (([], Prod.fst (Prod.snd x), 5, ()) = (Prod.fst (LexF.rScan F s), Prod.fst (Prod.snd (LexF.rScan F s)), Prod.snd (Prod.snd (LexF.rScan F s)), ())))
 (VC.obl
 (Lv.room L
 (Lv.add L
 (Lv.llen L Lt
 (Lv.take L Lt (Prod.fst x)
 (Lv.llen L Lt (Prod.fst x))))
 (Lv.llen L Lt
 (Lv.take L Lt
 [(Prod.fst (LexF.rToken F s (Prod.fst (Prod.snd x))), Prod.fst (Prod.snd (LexF.rToken F s (Prod.fst (Prod.snd x)))),
 Prod.snd (Prod.snd (LexF.rToken F s (Prod.fst (Prod.snd x)))))]
 1)))
 32)
 (VC.obl
 (LexF.pAt F s (Lv.ar L BinOp.add IntKind.i64 (Prod.fst (Prod.snd x)) (Lv.cast L (Lv.slen L (Prod.fst (Prod.snd (LexF.rToken F s (Prod.fst (Prod.snd x)))))))) ∧ LexF.pS F s)
 (VC.ok
 (St.mk 49
 [(0, V.c (C.str s)),
 (7,
 V.c
 (C.own 2
 (Lv.add L
 (Lv.llen L Lt
 (Lv.take L Lt (Prod.fst x)
 (Lv.llen L Lt (Prod.fst x))))
 (Lv.llen L Lt
 (Lv.take L Lt
 [(Prod.fst (LexF.rToken F s (Prod.fst (Prod.snd x))), Prod.fst (Prod.snd (LexF.rToken F s (Prod.fst (Prod.snd x)))),
 Prod.snd (Prod.snd (LexF.rToken F s (Prod.fst (Prod.snd x)))))]
 1))))),
 (8,
 V.c
 (C.int IntKind.i64
 (LexF.rGap F s
 (Lv.ar L BinOp.add IntKind.i64 (Prod.fst (Prod.snd x)) (Lv.cast L (Lv.slen L (Prod.fst (Prod.snd (LexF.rToken F s (Prod.fst (Prod.snd x)))))))))))]
 [(0, Ob.amb),
 (2,
 Ob.row 48 Lt
 (Lv.app L Lt
 (Lv.take L Lt (Prod.fst x)
 (Lv.llen L Lt (Prod.fst x)))
 (Lv.take L Lt
 [(Prod.fst (LexF.rToken F s (Prod.fst (Prod.snd x))), Prod.fst (Prod.snd (LexF.rToken F s (Prod.fst (Prod.snd x)))),
 Prod.snd (Prod.snd (LexF.rToken F s (Prod.fst (Prod.snd x)))))]
 1)))]
 3 =
 St.mk 49
 [(0, V.c (C.str s)),
 (7,
 V.c
 (C.own 2
 (Lv.llen L Lt
 (Lv.app L Lt
 (Lv.take L Lt (Prod.fst x)
 (Lv.llen L Lt (Prod.fst x)))
 (Lv.take L Lt
 [(Prod.fst (LexF.rToken F s (Prod.fst (Prod.snd x))), Prod.fst (Prod.snd (LexF.rToken F s (Prod.fst (Prod.snd x)))),
 Prod.snd (Prod.snd (LexF.rToken F s (Prod.fst (Prod.snd x)))))]
 1))))),
 (8,
 V.c
 (C.int IntKind.i64
 (LexF.rGap F s
 (Lv.ar L BinOp.add IntKind.i64 (Prod.fst (Prod.snd x)) (Lv.cast L (Lv.slen L (Prod.fst (Prod.snd (LexF.rToken F s (Prod.fst (Prod.snd x)))))))))))]
 [(0, Ob.amb),
 (2,
 Ob.row 48 Lt
 (Lv.app L Lt
 (Lv.take L Lt (Prod.fst x)
 (Lv.llen L Lt (Prod.fst x)))
 (Lv.take L Lt
 [(Prod.fst (LexF.rToken F s (Prod.fst (Prod.snd x))), Prod.fst (Prod.snd (LexF.rToken F s (Prod.fst (Prod.snd x)))),
 Prod.snd (Prod.snd (LexF.rToken F s (Prod.fst (Prod.snd x)))))]
 1)))]
 3 ∧
 I
 (Lv.app L Lt
 (Lv.take L Lt (Prod.fst x)
 (Lv.llen L Lt (Prod.fst x)))
 (Lv.take L Lt
 [(Prod.fst (LexF.rToken F s (Prod.fst (Prod.snd x))), Prod.fst (Prod.snd (LexF.rToken F s (Prod.fst (Prod.snd x)))),
 Prod.snd (Prod.snd (LexF.rToken F s (Prod.fst (Prod.snd x)))))]
 1),
 LexF.rGap F s (Lv.ar L BinOp.add IntKind.i64 (Prod.fst (Prod.snd x)) (Lv.cast L (Lv.slen L (Prod.fst (Prod.snd (LexF.rToken F s (Prod.fst (Prod.snd x)))))))),
 ()) ∧
 mu
 (Lv.app L Lt
 (Lv.take L Lt (Prod.fst x)
 (Lv.llen L Lt (Prod.fst x)))
 (Lv.take L Lt
 [(Prod.fst (LexF.rToken F s (Prod.fst (Prod.snd x))), Prod.fst (Prod.snd (LexF.rToken F s (Prod.fst (Prod.snd x)))),
 Prod.snd (Prod.snd (LexF.rToken F s (Prod.fst (Prod.snd x)))))]
 1),
 LexF.rGap F s (Lv.ar L BinOp.add IntKind.i64 (Prod.fst (Prod.snd x)) (Lv.cast L (Lv.slen L (Prod.fst (Prod.snd (LexF.rToken F s (Prod.fst (Prod.snd x)))))))),
 ()) <
 mu x)))))))
 (VC.ok
 ((Lv.take L Lt (Prod.fst x)
 (Lv.llen L Lt (Prod.fst x)),
 0, 0, ()) =
 (Prod.fst (LexF.rScan F s), Prod.fst (Prod.snd (LexF.rScan F s)), Prod.snd (Prod.snd (LexF.rScan F s)), ())))))))))
theorem n24_eq (L : Lv) (F : LexF) (I : P2 (.sl Lt) It) (mu : M2 (.sl Lt) It) (s : ByteArray) : vcO L F [59, 60, 61] (D24 (a24 L I mu)) (S24 F) (s, ()) = n24 L F I mu s := by kernel_rfl
theorem n24_go (L : Lv) (F : LexF) (I : P2 (.sl Lt) It) (mu : M2 (.sl Lt) It) (s : ByteArray) (h : VC.holds (n24 L F I mu s)) : Holds (vcO L F [59, 60, 61] (D24 (a24 L I mu)) (S24 F) (s, ())) := Holds.of_eq (n24_eq L F I mu s) h
def n26 (L : Lv) (F : LexF) (s : ByteArray)  : VC :=
 VC.br (Lv.scmp L BinOp.eql s (ByteArray.mk #[])) (VC.ok ((0, 4, ()) = (Prod.fst (LexF.kind F s), Prod.snd (LexF.kind F s), ())))
 (VC.obl (LexF.pAt F s 0 ∧ LexF.pS F s)
 (VC.br (Lv.cmp L BinOp.gtr (LexF.gap F s 0) 0) (VC.ok ((0, 4, ()) = (Prod.fst (LexF.kind F s), Prod.snd (LexF.kind F s), ())))
 (VC.obl (LexF.pLt F s 0 ∧ LexF.pS F s)
 (VC.br (Prod.snd (LexF.token F s 0))
 (VC.br (Lv.scmp L BinOp.neq (Prod.fst (Prod.snd (Prod.fst (LexF.token F s 0)))) s) (VC.ok ((0, 4, ()) = (Prod.fst (LexF.kind F s), Prod.snd (LexF.kind F s), ())))
 (VC.ok ((Prod.fst (Prod.fst (LexF.token F s 0)), 0, ()) = (Prod.fst (LexF.kind F s), Prod.snd (LexF.kind F s), ()))))
 (VC.ok ((0, 4, ()) = (Prod.fst (LexF.kind F s), Prod.snd (LexF.kind F s), ())))))))
theorem n26_eq (L : Lv) (F : LexF) (s : ByteArray) : vcO L F [57, 58] (D26 a0) (S26 F) (s, ()) = n26 L F s := by kernel_rfl
theorem n26_go (L : Lv) (F : LexF) (s : ByteArray) (h : VC.holds (n26 L F s)) : Holds (vcO L F [57, 58] (D26 a0) (S26 F) (s, ())) := Holds.of_eq (n26_eq L F s) h
def n27 (L : Lv) (F : LexF) (s : ByteArray)  : VC :=
 VC.br (Lv.scmp L BinOp.eql s (ByteArray.mk #[])) (VC.ok ((0, 4, ()) = (Prod.fst (LexF.rKind F s), Prod.snd (LexF.rKind F s), ())))
 (VC.obl (Lv.inR L 0 (Lv.slen L s))
 (VC.br (Lv.cmp L BinOp.eql (Lv.byte L s 0) 32) (VC.ok ((0, 4, ()) = (Prod.fst (LexF.rKind F s), Prod.snd (LexF.rKind F s), ())))
 (VC.obl (Lv.inR L 0 (Lv.slen L s))
 (VC.br (Lv.cmp L BinOp.eql (Lv.byte L s 0) 10) (VC.ok ((0, 4, ()) = (Prod.fst (LexF.rKind F s), Prod.snd (LexF.rKind F s), ())))
 (VC.obl (Lv.inR L 0 (Lv.slen L s))
 (VC.br (Lv.cmp L BinOp.eql (Lv.byte L s 0) 37) (VC.ok ((0, 4, ()) = (Prod.fst (LexF.rKind F s), Prod.snd (LexF.rKind F s), ())))
 (VC.obl (LexF.pLt F s 0 ∧ LexF.pS F s)
 (VC.br (Lv.cmp L BinOp.eql (Prod.fst (LexF.rToken F s 0)) 0) (VC.ok ((0, 4, ()) = (Prod.fst (LexF.rKind F s), Prod.snd (LexF.rKind F s), ())))
 (VC.br (Lv.scmp L BinOp.neq (Prod.fst (Prod.snd (LexF.rToken F s 0))) s) (VC.ok ((0, 4, ()) = (Prod.fst (LexF.rKind F s), Prod.snd (LexF.rKind F s), ())))
 (VC.ok ((Prod.fst (LexF.rToken F s 0), 0, ()) = (Prod.fst (LexF.rKind F s), Prod.snd (LexF.rKind F s), ()))))))))))))
theorem n27_eq (L : Lv) (F : LexF) (s : ByteArray) : vcO L F [61] (D27 a0) (S27 F) (s, ()) = n27 L F s := by kernel_rfl
theorem n27_go (L : Lv) (F : LexF) (s : ByteArray) (h : VC.holds (n27 L F s)) : Holds (vcO L F [61] (D27 a0) (S27 F) (s, ())) := Holds.of_eq (n27_eq L F s) h
def n63 (L : Lv) (F : LexF) (x : Lx)  : VC :=
 VC.obl (LexF.pS F (Prod.fst (Prod.snd x)))
 (VC.br (Lv.cmp L BinOp.eql (Prod.snd (LexF.kind F (Prod.fst (Prod.snd x)))) 0)
 (VC.br (Lv.cmp L BinOp.eql (Prod.fst (LexF.kind F (Prod.fst (Prod.snd x)))) (Prod.fst x)) (VC.ok ((true, ()) = (LexF.isRight F x, ())))
 (VC.ok ((false, ()) = (LexF.isRight F x, ()))))
 (VC.ok ((false, ()) = (LexF.isRight F x, ()))))
theorem n63_eq (L : Lv) (F : LexF) (x : Lx) : vcO L F [26] (D63 a0) (S63 F) (x, ()) = n63 L F x := by kernel_rfl
theorem n63_go (L : Lv) (F : LexF) (x : Lx) (h : VC.holds (n63 L F x)) : Holds (vcO L F [26] (D63 a0) (S63 F) (x, ())) := Holds.of_eq (n63_eq L F x) h

theorem chk_cases (s : ByteArray) : (chk s).2 = 0 ∨ (chk s).2 = 4 ∨ (chk s).2 = 5 := by
  have : ∀ n, (ckF s n).2 = 0 ∨ (ckF s n).2 = 4 := by
    intro n
    induction n with
    | zero => exact .inl rfl
    | succ n ih =>
      unfold ckF
      split
      · exact .inr rfl
      · exact ih
  unfold chk
  split
  · exact .inr (.inr rfl)
  · rcases this s.size with h | h
    · exact .inl h
    · exact .inr (.inl h)
theorem chk_ok {s : ByteArray} (h : (chk s).2 = 0) : s.size ≤ 2500 := by
  unfold chk at h
  split at h
  · cases h
  · omega
theorem gapF_bounds (s : ByteArray) : ∀ (n : Nat) (b : Bool), n ≤ s.size → (s.size : Int) - n ≤ gapF s n b ∧ gapF s n b ≤ s.size
  | 0, b, _ => by simp [gapF]
  | n + 1, b, h => by
    have h1 := gapF_bounds s n false (by omega)
    have h2 := gapF_bounds s n true (by omega)
    unfold gapF
    simp only
    repeat' split
    all_goals omega
theorem gap_bounds (s : ByteArray) (i : Int) (h0 : 0 ≤ i) (h1 : i ≤ s.size) : i ≤ gap s i ∧ gap s i ≤ s.size := by
  have := gapF_bounds s ((s.size : Int) - i).toNat false (by omega)
  unfold gap
  omega
theorem whN_bounds (s : ByteArray) (l : List Int) : ∀ n : Nat, n ≤ s.size → (s.size : Int) - n ≤ whN s l n ∧ whN s l n ≤ s.size
  | 0, _ => by simp [whN]
  | n + 1, h => by
    have := whN_bounds s l n (by omega)
    unfold whN
    split <;> omega
theorem whilF_size (s : ByteArray) (l : List Int) : (whilF s l).size ≤ s.size := by
  unfold whilF
  rw [ext_size]; omega
theorem signGo_size (s : ByteArray) : ∀ (l : List ByteArray) (b : ByteArray), b.size ≤ s.size → (signGo s l b).size ≤ s.size
  | [], b, h => h
  | x :: l, b, h => by
    unfold signGo
    refine signGo_size s l _ ?_
    split
    · rename_i hx
      have := hx.1
      unfold hasPre at this
      simp at this
      omega
    · exact h
theorem tok_size (s : ByteArray) (i : Int) (h0 : 0 ≤ i) (h1 : i < s.size) : (tokF s i).1.2.1.size ≤ s.size - i := by
  have hr : (s.extract i.toNat s.size).size = s.size - i := by rw [ext_size]; omega
  unfold tokF
  simp only
  split
  · have := whilF_size (s.extract i.toNat s.size) [4, 5]
    split <;> (simp only; omega)
  · split
    · have := whilF_size (s.extract i.toNat s.size) [5]
      simp only; omega
    · have := signGo_size (s.extract i.toNat s.size) signsL ByteArray.empty (by simp)
      unfold signF
      simp only; omega
theorem whN_pos (s : ByteArray) (l : List Int) (h0 : 0 < s.size) (h : isOfL (byteAt s 0) l = true) : 0 < whN s l s.size := by
  have := whN_step s l 0 (by omega) (by omega)
  rw [if_pos h] at this
  have e : ((s.size : Int) - 0).toNat = s.size := by omega
  rw [e] at this
  have := whN_bounds s l ((s.size : Int) - (0 + 1)).toNat (by omega)
  omega
theorem whilF_pos (s : ByteArray) (l : List Int) (h0 : 0 < s.size) (h : isOfL (byteAt s 0) l = true) : 0 < (whilF s l).size := by
  have h1 := whN_pos s l h0 h
  have h2 := whN_bounds s l s.size (by omega)
  unfold whilF
  rw [ext_size]; omega
theorem tok_pos (s : ByteArray) (i : Int) (h0 : 0 ≤ i) (h1 : i < s.size) (h : (tokF s i).2 = true) : 0 < (tokF s i).1.2.1.size := by
  have hr : (s.extract i.toNat s.size).size = s.size - i := by rw [ext_size]; omega
  unfold tokF at h ⊢
  simp only at h ⊢
  split
  · rename_i hc
    have := whilF_pos (s.extract i.toNat s.size) [4, 5] (by omega) (by simp [isOfL, contL, indexL, hc])
    split <;> (simp only; omega)
  · rename_i hc
    rw [if_neg hc] at h
    split
    · rename_i hc
      have := whilF_pos (s.extract i.toNat s.size) [5] (by omega) (by simp [isOfL, contL, indexL, hc])
      simp only; omega
    · rename_i hc
      rw [if_neg hc] at h
      simp only [decide_eq_true_eq] at h
      simp only; omega

theorem scanGo_more (s : ByteArray) : ∀ (n : Nat) (i : Int) (acc : List Lx), 0 ≤ i → i ≤ s.size → (s.size : Int) - i < n → ∀ m, n ≤ m → scanGo s m i acc = scanGo s n i acc
  | 0, i, acc, h0, h1, h2, m, hm => by omega
  | n + 1, i, acc, h0, h1, h2, m, hm => by
    obtain ⟨m, rfl⟩ : ∃ k, m = k + 1 := ⟨m - 1, by omega⟩
    unfold scanGo
    simp only
    by_cases hlt : i < s.size
    · rw [if_pos hlt, if_pos hlt]
      cases hp : (tokF s i).2 with
      | false => simp
      | true =>
        simp only [Bool.true_eq_false, if_false]
        split
        · rfl
        · have q1 := tok_size s i h0 hlt
          have q2 := tok_pos s i h0 hlt hp
          have q3 := gap_bounds s (i + (tokF s i).1.2.1.size) (by omega) (by omega)
          exact scanGo_more s n _ _ (by omega) (by omega) (by omega) m (by omega)
    · rw [if_neg hlt, if_neg hlt]

theorem scanGo_step (s : ByteArray) (i : Int) (acc : List Lx) (h0 : 0 ≤ i) (h1 : i < s.size) : scanGo s (s.size + 1) i acc = if (tokF s i).2 = false then ([], i, 4) else if acc.length = 900 then ([], i, 5) else scanGo s (s.size + 1) (gap s (i + (tokF s i).1.2.1.size)) (acc ++ [(tokF s i).1]) := by
  have e := scanGo_more s (s.size + 1)
  rw [show scanGo s (s.size + 1) i acc = _ from rfl]
  conv => lhs; unfold scanGo
  simp only
  rw [if_pos h1]
  cases hp : (tokF s i).2 with
  | false => simp
  | true =>
    simp only [Bool.true_eq_false, if_false]
    split
    · rfl
    · have q1 := tok_size s i h0 h1
      have q2 := tok_pos s i h0 h1 hp
      have q3 := gap_bounds s (i + (tokF s i).1.2.1.size) (by omega) (by omega)
      exact (scanGo_more s s.size _ _ (by omega) (by omega) (by omega) (s.size + 1) (by omega)).symm
theorem scanGo_done (s : ByteArray) (i : Int) (acc : List Lx) (n : Nat) (h1 : s.size ≤ i) : scanGo s n i acc = (acc, 0, 0) := by
  cases n with
  | zero => rfl
  | succ n => unfold scanGo; simp only; rw [if_neg (by omega)]

theorem ok23 (F : LexF) (hs : F.pS = fun s => s.size ≤ 1000000) (hp : F.pAt = fun s i => 0 ≤ i ∧ i ≤ s.size) (hl : F.pLt = fun s i => 0 ≤ i ∧ i < s.size) (h : F.scan = scanF) (hc : F.chk = chk) (hg : F.gap = gap) (ht : F.token = tokF)
    (k1 : SpecOk prog 56 (S56 F)) (k2 : SpecOk prog 57 (S57 F)) (k3 : SpecOk prog 58 (S58 F)) : SpecOk prog 23 (S23 F) := by
  refine contract_by hm hE D23 fnok23 _ fun (z : ByteArray × Unit) hpre => ?_
  obtain ⟨s, ⟨⟩⟩ := z
  refine pack _ 0 (a23 Lv.std (fun (z : List Lx × Int × Unit) => 0 ≤ z.2.1 ∧ z.2.1 ≤ s.size ∧ z.1.length ≤ 900 ∧ scanF s = scanGo s (s.size + 1) z.2.1 z.1) (fun (z : List Lx × Int × Unit) => (s.size - z.2.1).toNat)) (only_ok (F := F) (l := [56, 57, 58]) (by simp only [List.forall_mem_cons]; exact ⟨at_ok k1 (by kernel_rfl), at_ok k2 (by kernel_rfl), at_ok k3 (by kernel_rfl), fun _ h => by cases h⟩)) ?_
  refine n23_go Lv.std F _ _ s ?_
  simp only [n23, VC.holds, std_cmp, std_scmp, std_ar_add, std_ar_sub, std_ar_mul, std_ar, std_dv, std_shf, std_conv, std_mn, std_mx, std_beq, std_bnot, std_band, std_scat, std_byte, std_ext, std_slen, std_strOf, std_bytes, std_llen, std_get, std_setl, std_app, std_take, std_drop, std_rep, std_mhas, std_mval, std_mput, std_cast, std_toN, std_sub, std_add, std_inR, std_le3, std_leN, std_ltN, std_ne0, std_nonneg, std_catOk, std_room, std_mkOk, cmp_lss_t, cmp_lss_f, cmp_leq_t, cmp_leq_f, cmp_gtr_t, cmp_gtr_f, cmp_geq_t, cmp_geq_f, cmp_eql_t, cmp_eql_f, cmp_neq_t, cmp_neq_f, scmp_eql_t, scmp_eql_f, scmp_neq_t, scmp_neq_f, dflt_int, dflt_bool, dflt_str, dflt_sl, dflt_pair, h, hc, hg, ht, hs, hp, hl, Prod.mk.injEq, and_true, true_and, List.take_length, List.take_succ_cons, List.take_zero, List.length_cons, List.length_nil, List.length_append, Nat.zero_add]
  refine ⟨fun hne => ?_, fun h0 => ?_⟩
  · have : scanF s = ([], (chk s).1, (chk s).2) := by unfold scanF; simp only; rw [if_pos hne]
    rw [this]; exact ⟨rfl, rfl, rfl⟩
  · have hsz := chk_ok h0
    have hsc : scanF s = scanGo s (s.size + 1) (gap s 0) [] := by unfold scanF; simp only; rw [if_neg (by simp [h0])]
    have hg0 := gap_bounds s 0 (by omega) (by omega)
    refine ⟨⟨⟨by omega, by omega⟩, by omega⟩, ⟨by omega, by omega, by omega, hsc⟩, ?_⟩
    rintro ⟨l, i, _⟩ ⟨g0, g1, g2, g3⟩
    simp only at g0 g1 g2 g3 ⊢
    refine ⟨fun hlt => ⟨⟨⟨g0, hlt⟩, by omega⟩, fun hb => ⟨fun h9 => ?_, fun h9 => ?_⟩, fun hb => ?_⟩, fun hge => ?_⟩
    · rw [g3, scanGo_step s i l g0 hlt, if_neg (by simp [hb]), if_pos (by omega)]; exact ⟨rfl, rfl, rfl⟩
    · have q1 := tok_size s i g0 hlt
      have q2 := tok_pos s i g0 hlt hb
      have q3 := gap_bounds s (i + (tokF s i).1.2.1.size) (by omega) (by omega)
      simp (disch := omega) only [wrap_i64]
      refine ⟨⟨by omega, by omega⟩, ⟨⟨by omega, by omega⟩, by omega⟩, ⟨by omega, by omega, by omega, ?_⟩, by omega⟩
      rw [g3, scanGo_step s i l g0 hlt, if_neg (by simp [hb]), if_neg (by omega)]
    · rw [g3, scanGo_step s i l g0 hlt, if_pos hb]; exact ⟨rfl, rfl, rfl⟩
    · rw [g3, scanGo_done s i l _ hge]; exact ⟨rfl, rfl, rfl⟩

theorem ext_ext (s : ByteArray) (i k : Nat) (h : i + k ≤ s.size) : (s.extract i s.size).extract 0 k = s.extract i (i + k) := by
  apply ba_ext2
  · simp only [ext_size]; omega
  · intro m h0 h1
    simp only [ext_size] at h1
    rw [byteAt_ext h0 (by rw [ext_size]; omega), byteAt_ext (by omega) (by omega), byteAt_ext h0 (by omega)]
    congr 1; omega
theorem byteAt_rest (s : ByteArray) (i m : Int) (h0 : 0 ≤ i) (h1 : 0 ≤ m) (h2 : i + m < s.size) : byteAt (s.extract i.toNat s.size) m = byteAt s (i + m) := by
  rw [byteAt_ext h1 (by omega)]; congr 1; omega
theorem run_whN (s : ByteArray) (i : Int) (b : Bool) (l : List Int) (h0 : 0 ≤ i) (h1 : i ≤ s.size) (hl : ∀ c, isOfL c l = (isDig c || (b && isLet c))) : ∀ n : Nat, (n : Int) ≤ s.size - i → runN s b n = i + whN (s.extract i.toNat s.size) l n
  | 0, _ => by simp only [runN, whN, ext_size]; omega
  | n + 1, h => by
    have ih := run_whN s i b l h0 h1 hl n (by omega)
    have hr : ((s.extract i.toNat s.size).size : Int) = s.size - i := by rw [ext_size]; omega
    unfold runN whN
    simp only
    rw [byteAt_rest s i _ h0 (by omega) (by omega), hl, hr, show i + ((s.size : Int) - i - (n + 1 : Nat)) = (s.size : Int) - (n + 1 : Nat) by omega, ih]
    split <;> omega
theorem run_whil (s : ByteArray) (i : Int) (b : Bool) (l : List Int) (h0 : 0 ≤ i) (h1 : i ≤ s.size) (hl : ∀ c, isOfL c l = (isDig c || (b && isLet c))) :
    s.extract i.toNat (runF s i b).toNat = whilF (s.extract i.toNat s.size) l ∧ i ≤ runF s i b ∧ runF s i b ≤ s.size := by
  have hr : ((s.extract i.toNat s.size).size : Int) = s.size - i := by rw [ext_size]; omega
  have h2 := run_whN s i b l h0 h1 hl ((s.size : Int) - i).toNat (by omega)
  have h3 := whN_bounds (s.extract i.toNat s.size) l (s.extract i.toNat s.size).size (Nat.le_refl _)
  have e : ((s.size : Int) - i).toNat = (s.extract i.toNat s.size).size := by omega
  unfold runF
  rw [h2, e]
  refine ⟨?_, by omega, by omega⟩
  unfold whilF
  rw [ext_ext s i.toNat _ (by omega)]
  congr 1; omega
theorem isOf45 (c : Int) : isOfL c [4, 5] = (isDig c || (true && isLet c)) := by
  rw [Bool.eq_iff_iff]
  simp only [isOfL, contL, indexL, cls, isLet, isDig, decide_eq_true_eq, Bool.or_eq_true, Bool.and_eq_true, true_and]
  repeat' split
  all_goals (simp_all <;> try omega)
theorem isOf5 (c : Int) : isOfL c [5] = (isDig c || (false && isLet c)) := by
  rw [Bool.eq_iff_iff]
  simp only [isOfL, contL, indexL, cls, isLet, isDig, decide_eq_true_eq, Bool.or_eq_true, Bool.and_eq_true, Bool.false_and]
  repeat' split
  all_goals (simp_all <;> try omega)
theorem cls4 (c : Int) : cls c = 4 ↔ isLet c = true := by
  simp only [cls, isLet, isDig, Bool.and_eq_true, decide_eq_true_eq]
  repeat' split
  all_goals omega
theorem cls5 (c : Int) : cls c = 5 ↔ isDig c = true := by
  simp only [cls, isLet, isDig, Bool.and_eq_true, decide_eq_true_eq]
  repeat' split
  all_goals omega

theorem hasPre_rest (s x : ByteArray) (i : Int) (h0 : 0 ≤ i) (h1 : i ≤ s.size) : hasPre (s.extract i.toNat s.size) x = true ↔ (i + x.size ≤ s.size ∧ s.extract i.toNat (i + x.size).toNat = x) := by
  have hr : ((s.extract i.toNat s.size).size : Int) = s.size - i := by rw [ext_size]; omega
  simp only [hasPre, Bool.and_eq_true, decide_eq_true_eq]
  constructor
  · rintro ⟨q1, q2⟩
    refine ⟨by omega, ?_⟩
    rw [ext_ext s i.toNat x.size (by omega)] at q2
    rw [show (i + (x.size : Int)).toNat = i.toNat + x.size by omega]; exact q2
  · rintro ⟨q1, q2⟩
    refine ⟨by omega, ?_⟩
    rw [ext_ext s i.toNat x.size (by omega)]
    rw [show (i + (x.size : Int)).toNat = i.toNat + x.size by omega] at q2; exact q2

theorem signs_small : ∀ x ∈ signsL, x.size ≤ 2 := by decide +kernel
theorem tok_kind (s : ByteArray) (i : Int) : (tokF s i).1.1 = 1 ∨ (tokF s i).1.1 = 2 ∨ (tokF s i).1.1 = 3 ∨ (tokF s i).1.1 = 4 := by
  unfold tokF
  simp only
  repeat' split
  all_goals simp
theorem rTok_true (s : ByteArray) (i : Int) (h : (tokF s i).2 = true) : rTokF s i = (tokF s i).1 := by
  unfold rTokF; simp only; rw [h]; rfl
theorem rTok_kind (s : ByteArray) (i : Int) : (rTokF s i).1 = 0 ↔ (tokF s i).2 = false := by
  have := tok_kind s i
  cases h : (tokF s i).2 with
  | true => rw [rTok_true s i h]; simp; omega
  | false => unfold rTokF; simp only; rw [h]; simp
theorem rTok_text (s : ByteArray) (i : Int) : (rTokF s i).2.1 = (tokF s i).1.2.1 := rfl

set_option maxHeartbeats 1000000 in
theorem ok61 (F : LexF) (hs : F.pS = fun s => s.size ≤ 1000000) (hp : F.pAt = fun s i => 0 ≤ i ∧ i ≤ s.size) (hl : F.pLt = fun s i => 0 ≤ i ∧ i < s.size) (h : F.rToken = rTokF) (h1 : F.rIsLetter = isLet) (h2 : F.rIsDigit = isDig) (h3 : F.rRun = runF) (h4 : F.rIsKeyword = isKeyF) (h5 : F.rIsNumber = isNumF) (h6 : F.signs = signsL)
    (k1 : SpecOk prog 37 (S37 F)) (k2 : SpecOk prog 90 (S90 F)) (k3 : SpecOk prog 91 (S91 F)) (k4 : SpecOk prog 92 (S92 F)) (k5 : SpecOk prog 93 (S93 F)) (k6 : SpecOk prog 94 (S94 F)) : SpecOk prog 61 (S61 F) := by
  refine contract_by hm hE D61 fnok61 _ fun (z : ByteArray × Int × Unit) hpre => ?_
  obtain ⟨s, i, ⟨⟩⟩ := z
  obtain ⟨⟨g0, g1⟩, g2⟩ : (0 ≤ i ∧ i < s.size) ∧ s.size ≤ 1000000 := by have := hpre; simp only [S61, hs, hl] at this; exact this
  refine pack _ 0 (a61 Lv.std (fun (z : Int × Int × ByteArray × Unit) => 0 ≤ z.1 ∧ z.1 ≤ signsL.length ∧ z.2.1 = (if z.2.2.1.size = 0 then 0 else 4) ∧ z.2.2.1.size ≤ 1000000 ∧ signF (s.extract i.toNat s.size) = signGo (s.extract i.toNat s.size) (signsL.drop z.1.toNat) z.2.2.1) (fun (z : Int × Int × ByteArray × Unit) => (signsL.length - z.1).toNat)) (only_ok (F := F) (l := [37, 90, 91, 92, 93, 94]) (by simp only [List.forall_mem_cons]; exact ⟨at_ok k1 (by kernel_rfl), at_ok k2 (by kernel_rfl), at_ok k3 (by kernel_rfl), at_ok k4 (by kernel_rfl), at_ok k5 (by kernel_rfl), at_ok k6 (by kernel_rfl), fun _ h => by cases h⟩)) ?_
  have hlen : signsL.length = 22 := rfl
  have hbr := byteAt_rest s i 0 g0 (by omega) (by omega)
  rw [Int.add_zero] at hbr
  refine n61_go Lv.std F _ _ s i ?_
  simp only [n61, VC.holds, std_cmp, std_scmp, std_ar_add, std_ar_sub, std_ar_mul, std_ar, std_dv, std_shf, std_conv, std_mn, std_mx, std_beq, std_bnot, std_band, std_scat, std_byte, std_ext, std_slen, std_strOf, std_bytes, std_llen, std_get, std_setl, std_app, std_take, std_drop, std_rep, std_mhas, std_mval, std_mput, std_cast, std_toN, std_sub, std_add, std_inR, std_le3, std_leN, std_ltN, std_ne0, std_nonneg, std_catOk, std_room, std_mkOk, cmp_lss_t, cmp_lss_f, cmp_leq_t, cmp_leq_f, cmp_gtr_t, cmp_gtr_f, cmp_geq_t, cmp_geq_f, cmp_eql_t, cmp_eql_f, cmp_neq_t, cmp_neq_f, scmp_eql_t, scmp_eql_f, scmp_neq_t, scmp_neq_f, dflt_int, dflt_bool, dflt_str, dflt_sl, dflt_pair, h, h1, h2, h3, h4, h5, h6, hs, hp, Prod.mk.injEq, and_true, true_and, hlen]
  refine ⟨⟨g0, g1⟩, fun hlet => ?_, fun hlet => ⟨⟨g0, g1⟩, fun hdig => ?_, fun hdig => ?_⟩⟩
  · obtain ⟨r1, r2, r3⟩ := run_whil s i true [4, 5] g0 (by omega) isOf45
    have hc : cls (byteAt (s.extract i.toNat s.size) 0) = 4 := by rw [hbr]; exact (cls4 _).2 hlet
    rw [r1]
    refine ⟨⟨⟨g0, by omega⟩, g2⟩, ⟨g0, r2, r3⟩, fun hk => ?_, fun hk => ⟨fun hz => ?_, fun hz => ?_⟩⟩
    · unfold rTokF tokF; simp only; rw [if_pos hc, hk]; simp
    · unfold rTokF tokF; simp only; rw [if_pos hc, hk]; simp; omega
    · unfold rTokF tokF; simp only; rw [if_pos hc, hk]; simp; omega
  · obtain ⟨r1, r2, r3⟩ := run_whil s i false [5] g0 (by omega) isOf5
    have hc4 : ¬ cls (byteAt (s.extract i.toNat s.size) 0) = 4 := by rw [hbr, cls4, hlet]; simp
    have hc : cls (byteAt (s.extract i.toNat s.size) 0) = 5 := by rw [hbr]; exact (cls5 _).2 hdig
    rw [r1]
    refine ⟨⟨⟨g0, by omega⟩, g2⟩, ⟨g0, r2, r3⟩, fun hk => ?_, fun hk => ?_⟩
    · unfold rTokF tokF; simp only; rw [if_neg hc4, if_pos hc, hk]; simp
    · unfold rTokF tokF; simp only; rw [if_neg hc4, if_pos hc, hk]; simp
  · have hc4 : ¬ cls (byteAt (s.extract i.toNat s.size) 0) = 4 := by rw [hbr, cls4, hlet]; simp
    have hc5 : ¬ cls (byteAt (s.extract i.toNat s.size) 0) = 5 := by rw [hbr, cls5, hdig]; simp
    refine ⟨rfl, ⟨by omega, by omega, rfl, by decide, rfl⟩, ?_⟩
    rintro ⟨j, k, b, _⟩ ⟨q0, q1, q2, q3, q4⟩
    simp only at q0 q1 q2 q3 q4 ⊢
    refine ⟨fun hlt => ⟨⟨q0, hlt⟩, ?_⟩, fun hge => ?_⟩
    · rw [signGo_drop _ signsL j.toNat (by omega)] at q4
      have hx : ((signsL[j.toNat]?).getD ByteArray.empty).size ≤ 2 := by
        rw [List.getElem?_eq_getElem (by omega)]
        exact signs_small _ (List.getElem_mem _)
      generalize (signsL[j.toNat]?).getD ByteArray.empty = x at *
      have hpr := hasPre_rest s x i g0 (by omega)
      have e : (j + 1).toNat = j.toNat + 1 := by omega
      simp (disch := omega) only [wrap_i64]
      rw [e]
      refine ⟨fun hb => ⟨⟨q0, hlt⟩, fun hi => ⟨⟨q0, hlt⟩, ⟨g0, by omega, hi⟩, ⟨q0, hlt⟩, fun he => ⟨⟨q0, hlt⟩, ⟨by omega, by omega, ?_, by omega, ?_⟩, by omega⟩, fun he => ⟨⟨by omega, by omega, q2, q3, ?_⟩, by omega⟩⟩, fun hi => ⟨⟨by omega, by omega, q2, q3, ?_⟩, by omega⟩⟩, fun hb => ⟨⟨by omega, by omega, q2, q3, ?_⟩, by omega⟩⟩
      · rw [if_neg (by omega)]
      · rw [q4, if_pos ⟨hpr.2 ⟨hi, he⟩, by omega⟩]
      · rw [q4, if_neg (fun hh => he (hpr.1 hh.1).2)]
      · rw [q4, if_neg (fun hh => by have := (hpr.1 hh.1).1; omega)]
      · rw [q4, if_neg (fun hh => by have := hh.2; omega)]
    · have e : List.drop j.toNat signsL = [] := List.drop_eq_nil_of_le (by omega)
      rw [e, signGo] at q4
      unfold rTokF tokF
      simp only
      rw [if_neg hc4, if_neg hc5, q4, q2]
      by_cases hz : b.size = 0 <;> simp [hz]

theorem ok24 (F : LexF) (hs : F.pS = fun s => s.size ≤ 1000000) (hp : F.pAt = fun s i => 0 ≤ i ∧ i ≤ s.size) (hl : F.pLt = fun s i => 0 ≤ i ∧ i < s.size) (h : F.rScan = scanF) (hc : F.chk = chk) (hg : F.rGap = gap) (ht : F.rToken = rTokF)
    (k1 : SpecOk prog 59 (S59 F)) (k2 : SpecOk prog 60 (S60 F)) (k3 : SpecOk prog 61 (S61 F)) : SpecOk prog 24 (S24 F) := by
  refine contract_by hm hE D24 fnok24 _ fun (z : ByteArray × Unit) hpre => ?_
  obtain ⟨s, ⟨⟩⟩ := z
  refine pack _ 0 (a24 Lv.std (fun (z : List Lx × Int × Unit) => 0 ≤ z.2.1 ∧ z.2.1 ≤ s.size ∧ z.1.length ≤ 900 ∧ scanF s = scanGo s (s.size + 1) z.2.1 z.1) (fun (z : List Lx × Int × Unit) => (s.size - z.2.1).toNat)) (only_ok (F := F) (l := [59, 60, 61]) (by simp only [List.forall_mem_cons]; exact ⟨at_ok k1 (by kernel_rfl), at_ok k2 (by kernel_rfl), at_ok k3 (by kernel_rfl), fun _ h => by cases h⟩)) ?_
  refine n24_go Lv.std F _ _ s ?_
  simp only [n24, VC.holds, std_cmp, std_scmp, std_ar_add, std_ar_sub, std_ar_mul, std_ar, std_dv, std_shf, std_conv, std_mn, std_mx, std_beq, std_bnot, std_band, std_scat, std_byte, std_ext, std_slen, std_strOf, std_bytes, std_llen, std_get, std_setl, std_app, std_take, std_drop, std_rep, std_mhas, std_mval, std_mput, std_cast, std_toN, std_sub, std_add, std_inR, std_le3, std_leN, std_ltN, std_ne0, std_nonneg, std_catOk, std_room, std_mkOk, cmp_lss_t, cmp_lss_f, cmp_leq_t, cmp_leq_f, cmp_gtr_t, cmp_gtr_f, cmp_geq_t, cmp_geq_f, cmp_eql_t, cmp_eql_f, cmp_neq_t, cmp_neq_f, scmp_eql_t, scmp_eql_f, scmp_neq_t, scmp_neq_f, dflt_int, dflt_bool, dflt_str, dflt_sl, dflt_pair, h, hc, hg, ht, hs, hp, hl, Prod.mk.injEq, and_true, true_and, List.take_length, List.take_succ_cons, List.take_zero, List.length_cons, List.length_nil, List.length_append, Nat.zero_add]
  refine ⟨fun hne => ?_, fun h0 => ?_⟩
  · have : scanF s = ([], (chk s).1, (chk s).2) := by unfold scanF; simp only; rw [if_pos hne]
    rw [this]; exact ⟨rfl, rfl, rfl⟩
  · have hsz := chk_ok h0
    have hsc : scanF s = scanGo s (s.size + 1) (gap s 0) [] := by unfold scanF; simp only; rw [if_neg (by simp [h0])]
    have hg0 := gap_bounds s 0 (by omega) (by omega)
    refine ⟨⟨⟨by omega, by omega⟩, by omega⟩, ⟨by omega, by omega, by omega, hsc⟩, ?_⟩
    rintro ⟨l, i, _⟩ ⟨g0, g1, g2, g3⟩
    simp only at g0 g1 g2 g3 ⊢
    refine ⟨fun hlt => ⟨⟨⟨g0, hlt⟩, by omega⟩, fun hb => ?_, fun hb => ?_⟩, fun hge => ?_⟩
    · rw [g3, scanGo_step s i l g0 hlt, if_pos ((rTok_kind s i).1 hb)]; exact ⟨rfl, rfl, rfl⟩
    · have hb' : (tokF s i).2 = true := by
        cases hq : (tokF s i).2 with
        | true => rfl
        | false => exact absurd ((rTok_kind s i).2 hq) hb
      have q1 := tok_size s i g0 hlt
      have q2 := tok_pos s i g0 hlt hb'
      have q3 := gap_bounds s (i + (tokF s i).1.2.1.size) (by omega) (by omega)
      rw [rTok_true s i hb']
      simp (disch := omega) only [wrap_i64]
      refine ⟨fun h9 => ?_, fun h9 => ⟨⟨by omega, by omega⟩, ⟨⟨by omega, by omega⟩, by omega⟩, ⟨by omega, by omega, by omega, ?_⟩, by omega⟩⟩
      · rw [g3, scanGo_step s i l g0 hlt, if_neg (by simp [hb']), if_pos (by omega)]; exact ⟨rfl, rfl, rfl⟩
      · rw [g3, scanGo_step s i l g0 hlt, if_neg (by simp [hb']), if_neg (by omega)]
    · rw [g3, scanGo_done s i l _ hge]; exact ⟨rfl, rfl, rfl⟩

theorem empty_iff (s : ByteArray) : s = ByteArray.mk #[] ↔ s.size = 0 :=
  ⟨fun h => by rw [h]; rfl, fun h => ByteArray.ext (Array.eq_empty_of_size_eq_zero h)⟩

theorem ok26 (F : LexF) (hs : F.pS = fun s => s.size ≤ 1000000) (hp : F.pAt = fun s i => 0 ≤ i ∧ i ≤ s.size) (hl : F.pLt = fun s i => 0 ≤ i ∧ i < s.size) (h : F.kind = kindF) (hg : F.gap = gap) (ht : F.token = tokF)
    (k2 : SpecOk prog 57 (S57 F)) (k3 : SpecOk prog 58 (S58 F)) : SpecOk prog 26 (S26 F) := by
  refine contract_by hm hE D26 fnok26 _ fun (z : ByteArray × Unit) hpre => ?_
  obtain ⟨s, ⟨⟩⟩ := z
  have g2 : s.size ≤ 1000000 := by have := hpre; simp only [S26, hs] at this; exact this
  refine pack _ 0 (a0) (only_ok (F := F) (l := [57, 58]) (by simp only [List.forall_mem_cons]; exact ⟨at_ok k2 (by kernel_rfl), at_ok k3 (by kernel_rfl), fun _ h => by cases h⟩)) ?_
  refine n26_go Lv.std F s ?_
  simp only [n26, VC.holds, std_cmp, std_scmp, std_ar_add, std_ar_sub, std_ar_mul, std_ar, std_dv, std_shf, std_conv, std_mn, std_mx, std_beq, std_bnot, std_band, std_scat, std_byte, std_ext, std_slen, std_strOf, std_bytes, std_llen, std_get, std_setl, std_app, std_take, std_drop, std_rep, std_mhas, std_mval, std_mput, std_cast, std_toN, std_sub, std_add, std_inR, std_le3, std_leN, std_ltN, std_ne0, std_nonneg, std_catOk, std_room, std_mkOk, cmp_lss_t, cmp_lss_f, cmp_leq_t, cmp_leq_f, cmp_gtr_t, cmp_gtr_f, cmp_geq_t, cmp_geq_f, cmp_eql_t, cmp_eql_f, cmp_neq_t, cmp_neq_f, scmp_eql_t, scmp_eql_f, scmp_neq_t, scmp_neq_f, dflt_int, dflt_bool, dflt_str, dflt_sl, dflt_pair, h, hg, ht, hs, hp, hl, Prod.mk.injEq, and_true, true_and, empty_iff, ne_eq]
  refine ⟨fun he => ?_, fun he => ⟨⟨⟨by omega, by omega⟩, g2⟩, fun hgp => ?_, fun hgp => ⟨⟨⟨by omega, by omega⟩, g2⟩, fun hb => ⟨fun hx => ?_, fun hx => ?_⟩, fun hb => ?_⟩⟩⟩
  · unfold kindF; rw [if_pos (.inl he)]; exact ⟨rfl, rfl⟩
  · unfold kindF; rw [if_pos (.inr hgp)]; exact ⟨rfl, rfl⟩
  · unfold kindF; simp only; rw [if_neg (by omega), if_pos (.inr hx)]; exact ⟨rfl, rfl⟩
  · unfold kindF; simp only; rw [if_neg (by omega), if_neg (by simp [hb, hx])]; exact ⟨rfl, rfl⟩
  · unfold kindF; simp only; rw [if_neg (by omega), if_pos (.inl hb)]; exact ⟨rfl, rfl⟩

theorem gap_zero (s : ByteArray) (h : 0 < s.size) : 0 < gap s 0 ↔ byteAt s 0 = 32 ∨ byteAt s 0 = 10 ∨ byteAt s 0 = 37 := by
  have h1 := gapF_step s 0 false (by omega) (by omega)
  have h2 := gapF_bounds s ((s.size : Int) - (0 + 1)).toNat false (by omega)
  have h3 := gapF_bounds s ((s.size : Int) - (0 + 1)).toNat true (by omega)
  unfold gap
  rw [h1]
  simp only [Bool.false_eq_true, if_false]
  repeat' split
  all_goals omega

theorem ok27 (F : LexF) (hs : F.pS = fun s => s.size ≤ 1000000) (hl : F.pLt = fun s i => 0 ≤ i ∧ i < s.size) (h : F.rKind = kindF) (ht : F.rToken = rTokF)
    (k3 : SpecOk prog 61 (S61 F)) : SpecOk prog 27 (S27 F) := by
  refine contract_by hm hE D27 fnok27 _ fun (z : ByteArray × Unit) hpre => ?_
  obtain ⟨s, ⟨⟩⟩ := z
  have g2 : s.size ≤ 1000000 := by have := hpre; simp only [S27, hs] at this; exact this
  refine pack _ 0 (a0) (only_ok (F := F) (l := [61]) (by simp only [List.mem_singleton, forall_eq]; exact at_ok k3 (by kernel_rfl))) ?_
  refine n27_go Lv.std F s ?_
  simp only [n27, VC.holds, std_cmp, std_scmp, std_ar_add, std_ar_sub, std_ar_mul, std_ar, std_dv, std_shf, std_conv, std_mn, std_mx, std_beq, std_bnot, std_band, std_scat, std_byte, std_ext, std_slen, std_strOf, std_bytes, std_llen, std_get, std_setl, std_app, std_take, std_drop, std_rep, std_mhas, std_mval, std_mput, std_cast, std_toN, std_sub, std_add, std_inR, std_le3, std_leN, std_ltN, std_ne0, std_nonneg, std_catOk, std_room, std_mkOk, cmp_lss_t, cmp_lss_f, cmp_leq_t, cmp_leq_f, cmp_gtr_t, cmp_gtr_f, cmp_geq_t, cmp_geq_f, cmp_eql_t, cmp_eql_f, cmp_neq_t, cmp_neq_f, scmp_eql_t, scmp_eql_f, scmp_neq_t, scmp_neq_f, dflt_int, dflt_bool, dflt_str, dflt_sl, dflt_pair, h, ht, hs, hl, Prod.mk.injEq, and_true, true_and, empty_iff, ne_eq]
  by_cases he : s.size = 0
  · refine ⟨fun _ => ?_, fun h => absurd he h⟩
    unfold kindF; rw [if_pos (.inl he)]; exact ⟨rfl, rfl⟩
  · have hz := gap_zero s (by omega)
    have bad : 0 < gap s 0 → kindF s = (0, 4) := fun hq => by unfold kindF; rw [if_pos (.inr hq)]
    refine ⟨fun h => absurd h he, fun _ => ⟨⟨by omega, by omega⟩, fun h32 => ?_, fun h32 => ⟨⟨by omega, by omega⟩, fun h10 => ?_, fun h10 => ⟨⟨by omega, by omega⟩, fun h37 => ?_, fun h37 => ⟨⟨⟨by omega, by omega⟩, g2⟩, fun hk => ?_, fun hk => ⟨fun hx => ?_, fun hx => ?_⟩⟩⟩⟩⟩⟩
    · rw [bad (hz.2 (.inl h32))]; exact ⟨rfl, rfl⟩
    · rw [bad (hz.2 (.inr (.inl h10)))]; exact ⟨rfl, rfl⟩
    · rw [bad (hz.2 (.inr (.inr h37)))]; exact ⟨rfl, rfl⟩
    · unfold kindF; simp only; rw [if_neg (by rw [hz]; omega), if_pos (.inl ((rTok_kind s 0).1 hk))]; exact ⟨rfl, rfl⟩
    · unfold kindF; simp only; rw [if_neg (by rw [hz]; omega), if_pos (.inr (by rw [← rTok_text]; exact hx))]; exact ⟨rfl, rfl⟩
    · have hb : (tokF s 0).2 = true := by
        cases hq : (tokF s 0).2 with
        | true => rfl
        | false => exact absurd ((rTok_kind s 0).2 hq) hk
      have hx' : (tokF s 0).1.2.1 = s := by rw [← rTok_text]; exact hx
      unfold kindF; simp only; rw [if_neg (by rw [hz]; omega), if_neg (by rw [hb, hx']; simp), rTok_true s 0 hb]; exact ⟨rfl, rfl⟩

theorem ok63 (F : LexF) (hs : F.pS = fun s => s.size ≤ 1000000) (hp : F.pLx = fun x => x.2.1.size ≤ 1000000) (h : F.isRight = isRightF) (ht : F.kind = kindF)
    (k3 : SpecOk prog 26 (S26 F)) : SpecOk prog 63 (S63 F) := by
  refine contract_by hm hE D63 fnok63 _ fun (z : Lx × Unit) hpre => ?_
  obtain ⟨x, ⟨⟩⟩ := z
  have g2 : x.2.1.size ≤ 1000000 := by have := hpre; simp only [S63, hp] at this; exact this
  refine pack _ 0 (a0) (only_ok (F := F) (l := [26]) (by simp only [List.mem_singleton, forall_eq]; exact at_ok k3 (by kernel_rfl))) ?_
  refine n63_go Lv.std F x ?_
  simp only [n63, VC.holds, std_cmp, std_scmp, std_ar_add, std_ar_sub, std_ar_mul, std_ar, std_dv, std_shf, std_conv, std_mn, std_mx, std_beq, std_bnot, std_band, std_scat, std_byte, std_ext, std_slen, std_strOf, std_bytes, std_llen, std_get, std_setl, std_app, std_take, std_drop, std_rep, std_mhas, std_mval, std_mput, std_cast, std_toN, std_sub, std_add, std_inR, std_le3, std_leN, std_ltN, std_ne0, std_nonneg, std_catOk, std_room, std_mkOk, cmp_lss_t, cmp_lss_f, cmp_leq_t, cmp_leq_f, cmp_gtr_t, cmp_gtr_f, cmp_geq_t, cmp_geq_f, cmp_eql_t, cmp_eql_f, cmp_neq_t, cmp_neq_f, scmp_eql_t, scmp_eql_f, scmp_neq_t, scmp_neq_f, dflt_int, dflt_bool, dflt_str, dflt_sl, dflt_pair, h, ht, hs, Prod.mk.injEq, and_true, true_and]
  refine ⟨g2, fun h1 => ⟨fun h2 => ?_, fun h2 => ?_⟩, fun h1 => ?_⟩
  · simp [isRightF, h1, h2]
  · simp [isRightF, h1, h2]
  · simp [isRightF, h1]

end Go.Proofs.Tryd
set_option autoImplicit false
set_option linter.all false
namespace Go.Proofs.Tryd
open Go Go.VM
set_option maxRecDepth 100000
def n97 (L : Lv) (F : LexF) (x y : Lx)  : VC :=
 VC.obl (Lv.catOk L (Prod.fst (Prod.snd x)) (Prod.fst (Prod.snd y)))
 (VC.obl (LexF.pLt F (Lv.scat L (Prod.fst (Prod.snd x)) (Prod.fst (Prod.snd y))) 0 ∧ LexF.pS F (Lv.scat L (Prod.fst (Prod.snd x)) (Prod.fst (Prod.snd y))))
 (VC.br (Prod.snd (LexF.token F (Lv.scat L (Prod.fst (Prod.snd x)) (Prod.fst (Prod.snd y))) 0))
 (VC.br (Lv.scmp L BinOp.neq (Prod.fst (Prod.snd (Prod.fst (LexF.token F (Lv.scat L (Prod.fst (Prod.snd x)) (Prod.fst (Prod.snd y))) 0)))) (Prod.fst (Prod.snd x)))
 (VC.ok ((true, ()) = (LexF.needBlank F x y, ()))) (VC.ok ((false, ()) = (LexF.needBlank F x y, ()))))
 (VC.ok ((true, ()) = (LexF.needBlank F x y, ())))))
theorem n97_eq (L : Lv) (F : LexF) (x y : Lx) : vcO L F [58] (D97 a0) (S97 F) (x, y, ()) = n97 L F x y := by kernel_rfl
theorem n97_go (L : Lv) (F : LexF) (x y : Lx) (h : VC.holds (n97 L F x y)) : Holds (vcO L F [58] (D97 a0) (S97 F) (x, y, ())) := Holds.of_eq (n97_eq L F x y) h
def n65 (L : Lv) (F : LexF) (x y : Lx)  : VC :=
 VC.obl (Lv.catOk L (Prod.fst (Prod.snd x)) (Prod.fst (Prod.snd y)))
 (VC.obl (LexF.pLt F (Lv.scat L (Prod.fst (Prod.snd x)) (Prod.fst (Prod.snd y))) 0 ∧ LexF.pS F (Lv.scat L (Prod.fst (Prod.snd x)) (Prod.fst (Prod.snd y))))
 (VC.br (Lv.scmp L BinOp.neq (Prod.fst (Prod.snd (LexF.rToken F (Lv.scat L (Prod.fst (Prod.snd x)) (Prod.fst (Prod.snd y))) 0))) (Prod.fst (Prod.snd x)))
 (VC.ok ((true, ()) = (LexF.rApart F x y, ())))
 (VC.br (Lv.cmp L BinOp.neq (Prod.fst (LexF.rToken F (Lv.scat L (Prod.fst (Prod.snd x)) (Prod.fst (Prod.snd y))) 0)) (Prod.fst x)) (VC.ok ((true, ()) = (LexF.rApart F x y, ())))
 (VC.ok ((false, ()) = (LexF.rApart F x y, ()))))))
theorem n65_eq (L : Lv) (F : LexF) (x y : Lx) : vcO L F [61] (D65 a0) (S65 F) (x, y, ()) = n65 L F x y := by kernel_rfl
theorem n65_go (L : Lv) (F : LexF) (x y : Lx) (h : VC.holds (n65 L F x y)) : Holds (vcO L F [61] (D65 a0) (S65 F) (x, y, ())) := Holds.of_eq (n65_eq L F x y) h

def pLx2F (x y : Lx) : Prop := 0 < x.2.1.size ∧ x.2.1.size ≤ 3000 ∧ y.2.1.size ≤ 3000

theorem ok97 (F : LexF) (hs : F.pS = fun s => s.size ≤ 1000000) (hl : F.pLt = fun s i => 0 ≤ i ∧ i < s.size) (hp : F.pLx2 = pLx2F) (h : F.needBlank = needF) (ht : F.token = tokF)
    (k3 : SpecOk prog 58 (S58 F)) : SpecOk prog 97 (S97 F) := by
  refine contract_by hm hE D97 fnok97 _ fun (z : Lx × Lx × Unit) hpre => ?_
  obtain ⟨x, y, ⟨⟩⟩ := z
  have hpre' : F.pLx2 x y := hpre
  rw [hp] at hpre'
  obtain ⟨g1, g2, g3⟩ := hpre'
  refine pack _ 0 (a0) (only_ok (F := F) (l := [58]) (by simp only [List.mem_singleton, forall_eq]; exact at_ok k3 (by kernel_rfl))) ?_
  refine n97_go Lv.std F x y ?_
  simp only [n97, VC.holds, std_cmp, std_scmp, std_ar_add, std_ar_sub, std_ar_mul, std_ar, std_dv, std_shf, std_conv, std_mn, std_mx, std_beq, std_bnot, std_band, std_scat, std_byte, std_ext, std_slen, std_strOf, std_bytes, std_llen, std_get, std_setl, std_app, std_take, std_drop, std_rep, std_mhas, std_mval, std_mput, std_cast, std_toN, std_sub, std_add, std_inR, std_le3, std_leN, std_ltN, std_ne0, std_nonneg, std_catOk, std_room, std_mkOk, cmp_lss_t, cmp_lss_f, cmp_leq_t, cmp_leq_f, cmp_gtr_t, cmp_gtr_f, cmp_geq_t, cmp_geq_f, cmp_eql_t, cmp_eql_f, cmp_neq_t, cmp_neq_f, scmp_eql_t, scmp_eql_f, scmp_neq_t, scmp_neq_f, dflt_int, dflt_bool, dflt_str, dflt_sl, dflt_pair, h, ht, hs, hl, Prod.mk.injEq, and_true, true_and, app_size]
  refine ⟨by omega, ⟨⟨by omega, by omega⟩, by omega⟩, fun hb => ⟨fun hx => ?_, fun hx => ?_⟩, fun hb => ?_⟩
  · simp only [needF, hb]; rw [decide_eq_true hx]; rfl
  · simp only [needF, hb]; rw [decide_eq_false (fun hh => hh hx)]; rfl
  · simp only [needF, hb]; rfl

theorem ok65 (F : LexF) (hs : F.pS = fun s => s.size ≤ 1000000) (hl : F.pLt = fun s i => 0 ≤ i ∧ i < s.size) (hp : F.pLx2 = pLx2F) (h : F.rApart = apartF) (ht : F.rToken = rTokF)
    (k3 : SpecOk prog 61 (S61 F)) : SpecOk prog 65 (S65 F) := by
  refine contract_by hm hE D65 fnok65 _ fun (z : Lx × Lx × Unit) hpre => ?_
  obtain ⟨x, y, ⟨⟩⟩ := z
  have hpre' : F.pLx2 x y := hpre
  rw [hp] at hpre'
  obtain ⟨g1, g2, g3⟩ := hpre'
  refine pack _ 0 (a0) (only_ok (F := F) (l := [61]) (by simp only [List.mem_singleton, forall_eq]; exact at_ok k3 (by kernel_rfl))) ?_
  refine n65_go Lv.std F x y ?_
  simp only [n65, VC.holds, std_cmp, std_scmp, std_ar_add, std_ar_sub, std_ar_mul, std_ar, std_dv, std_shf, std_conv, std_mn, std_mx, std_beq, std_bnot, std_band, std_scat, std_byte, std_ext, std_slen, std_strOf, std_bytes, std_llen, std_get, std_setl, std_app, std_take, std_drop, std_rep, std_mhas, std_mval, std_mput, std_cast, std_toN, std_sub, std_add, std_inR, std_le3, std_leN, std_ltN, std_ne0, std_nonneg, std_catOk, std_room, std_mkOk, cmp_lss_t, cmp_lss_f, cmp_leq_t, cmp_leq_f, cmp_gtr_t, cmp_gtr_f, cmp_geq_t, cmp_geq_f, cmp_eql_t, cmp_eql_f, cmp_neq_t, cmp_neq_f, scmp_eql_t, scmp_eql_f, scmp_neq_t, scmp_neq_f, dflt_int, dflt_bool, dflt_str, dflt_sl, dflt_pair, h, ht, hs, hl, Prod.mk.injEq, and_true, true_and, app_size]
  refine ⟨by omega, ⟨⟨by omega, by omega⟩, by omega⟩, fun hb => ?_, fun hb => ⟨fun hx => ?_, fun hx => ?_⟩⟩
  · simp only [apartF]; rw [decide_eq_true hb]; rfl
  · simp only [apartF]; rw [decide_eq_true hx, Bool.or_true]
  · simp only [apartF]; rw [decide_eq_false (fun hh => hh hb), decide_eq_false (fun hh => hh hx)]; rfl
end Go.Proofs.Tryd
