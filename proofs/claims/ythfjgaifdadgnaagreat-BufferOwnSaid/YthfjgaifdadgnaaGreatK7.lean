/- What functions of the weak memory compute, proved through the condition generator, and plain facts of it. Conditions: none of ours. -/
import Derived.Test.YthfjgaifdadgnaaGreatProg
import Derived.Test.YthfjgaifdadgnaaGreatK6
set_option autoImplicit false
set_option linter.all false
namespace Go.Proofs.Tryz
open Go Go.VM
def T01 : TT := (.node (.node (.node (.node (.node (.node (.node (.node .leaf 1 ⟨.fn, 1, 8, [.fn], .bool⟩ .leaf) 2 ⟨.int .i64, 1, 8, [.int .i64], .int .i64⟩ (.node .leaf 3 ⟨.int .i64, 1, 8, [.int .i64], .int .i64⟩ .leaf)) 4 ⟨.bool, 1, 1, [.bool], .bool⟩ (.node (.node .leaf 5 ⟨.int .u8, 1, 1, [.int .u8], .int .u8⟩ .leaf) 6 ⟨.int .u8, 1, 1, [.int .u8], .int .u8⟩ .leaf)) 7 ⟨.st [(0, 2), (1, 3), (2, 4), (3, 6)], 4, 24, [.int .i64, .int .i64, .bool, .int .u8], .pair (.int .i64) (.pair (.int .i64) (.pair (.bool) (.int .u8)))⟩ (.node (.node (.node .leaf 8 ⟨.st [(0, 2), (1, 3), (2, 4), (3, 6)], 4, 24, [.int .i64, .int .i64, .bool, .int .u8], .pair (.int .i64) (.pair (.int .i64) (.pair (.bool) (.int .u8)))⟩ .leaf) 9 ⟨.str, 1, 16, [.str], .str⟩ (.node .leaf 10 ⟨.str, 1, 16, [.str], .str⟩ .leaf)) 11 ⟨.str, 1, 16, [.str], .str⟩ (.node (.node .leaf 12 ⟨.int .u64, 1, 8, [.int .u64], .int .u64⟩ .leaf) 15 ⟨.ptr 229, 1, 8, [.ptr], .bool⟩ .leaf))) 16 ⟨.ptr 232, 1, 8, [.ptr], .bool⟩ (.node (.node (.node (.node .leaf 17 ⟨.ptr 241, 1, 8, [.ptr], .bool⟩ .leaf) 20 ⟨.ifc [], 1, 16, [.ifc], .bool⟩ (.node .leaf 21 ⟨.int .i32, 1, 4, [.int .i32], .int .i32⟩ .leaf)) 22 ⟨.sl 3, 1, 24, [.sl], .sl (.int .i64)⟩ (.node (.node .leaf 23 ⟨.sl 54, 1, 24, [.sl], .sl (.sl (.pair (.int .u8) (.pair (.int .i64) (.pair (.int .i64) (.pair (.int .i64) (.pair (.int .i64) (.int .i64)))))))⟩ .leaf) 24 ⟨.st [(0, 22), (1, 23), (2, 3)], 3, 56, [.sl, .sl, .int .i64], .pair (.sl (.int .i64)) (.pair (.sl (.sl (.pair (.int .u8) (.pair (.int .i64) (.pair (.int .i64) (.pair (.int .i64) (.pair (.int .i64) (.int .i64)))))))) (.int .i64))⟩ .leaf)) 25 ⟨.st [(0, 22), (1, 23), (2, 3)], 3, 56, [.sl, .sl, .int .i64], .pair (.sl (.int .i64)) (.pair (.sl (.sl (.pair (.int .u8) (.pair (.int .i64) (.pair (.int .i64) (.pair (.int .i64) (.pair (.int .i64) (.int .i64)))))))) (.int .i64))⟩ (.node (.node (.node .leaf 26 ⟨.fn, 1, 8, [.fn], .bool⟩ .leaf) 27 ⟨.fn, 1, 8, [.fn], .bool⟩ .leaf) 28 ⟨.sl 38, 1, 24, [.sl], .sl (.pair (.sl (.int .i64)) (.pair (.sl (.sl (.int .i64))) (.sl (.int .u8))))⟩ (.node (.node .leaf 29 ⟨.int .i64, 1, 8, [.int .i64], .int .i64⟩ .leaf) 31 ⟨.fn, 1, 8, [.fn], .bool⟩ .leaf)))) 32 ⟨.fn, 1, 8, [.fn], .bool⟩ (.node (.node (.node (.node (.node .leaf 33 ⟨.fn, 1, 8, [.fn], .bool⟩ .leaf) 34 ⟨.fn, 1, 8, [.fn], .bool⟩ (.node .leaf 35 ⟨.sl 22, 1, 24, [.sl], .sl (.sl (.int .i64))⟩ .leaf)) 36 ⟨.sl 5, 1, 24, [.sl], .sl (.int .u8)⟩ (.node (.node .leaf 37 ⟨.st [(0, 22), (1, 35), (2, 36)], 3, 72, [.sl, .sl, .sl], .pair (.sl (.int .i64)) (.pair (.sl (.sl (.int .i64))) (.sl (.int .u8)))⟩ .leaf) 38 ⟨.st [(0, 22), (1, 35), (2, 36)], 3, 72, [.sl, .sl, .sl], .pair (.sl (.int .i64)) (.pair (.sl (.sl (.int .i64))) (.sl (.int .u8)))⟩ .leaf)) 40 ⟨.fn, 1, 8, [.fn], .bool⟩ (.node (.node (.node .leaf 41 ⟨.fn, 1, 8, [.fn], .bool⟩ .leaf) 42 ⟨.fn, 1, 8, [.fn], .bool⟩ (.node .leaf 43 ⟨.fn, 1, 8, [.fn], .bool⟩ .leaf)) 45 ⟨.fn, 1, 8, [.fn], .bool⟩ (.node (.node .leaf 47 ⟨.fn, 1, 8, [.fn], .bool⟩ .leaf) 48 ⟨.fn, 1, 8, [.fn], .bool⟩ .leaf))) 50 ⟨.fn, 1, 8, [.fn], .bool⟩ (.node (.node (.node (.node .leaf 51 ⟨.fn, 1, 8, [.fn], .bool⟩ .leaf) 52 ⟨.fn, 1, 8, [.fn], .bool⟩ (.node .leaf 53 ⟨.fn, 1, 8, [.fn], .bool⟩ .leaf)) 54 ⟨.sl 56, 1, 24, [.sl], .sl (.pair (.int .u8) (.pair (.int .i64) (.pair (.int .i64) (.pair (.int .i64) (.pair (.int .i64) (.int .i64))))))⟩ (.node (.node .leaf 55 ⟨.st [(0, 5), (1, 3), (2, 3), (3, 3), (4, 3), (5, 3)], 6, 48, [.int .u8, .int .i64, .int .i64, .int .i64, .int .i64, .int .i64], .pair (.int .u8) (.pair (.int .i64) (.pair (.int .i64) (.pair (.int .i64) (.pair (.int .i64) (.int .i64)))))⟩ .leaf) 56 ⟨.st [(0, 5), (1, 3), (2, 3), (3, 3), (4, 3), (5, 3)], 6, 48, [.int .u8, .int .i64, .int .i64, .int .i64, .int .i64, .int .i64], .pair (.int .u8) (.pair (.int .i64) (.pair (.int .i64) (.pair (.int .i64) (.pair (.int .i64) (.int .i64)))))⟩ .leaf)) 57 ⟨.sl 99, 1, 24, [.sl], .sl (.pair (.int .i64) (.pair (.sl (.int .i64)) (.pair (.sl (.pair (.int .i64) (.int .i64))) (.pair (.sl (.int .i64)) (.bool)))))⟩ (.node (.node (.node .leaf 58 ⟨.st [(0, 22), (1, 57)], 2, 48, [.sl, .sl], .pair (.sl (.int .i64)) (.sl (.pair (.int .i64) (.pair (.sl (.int .i64)) (.pair (.sl (.pair (.int .i64) (.int .i64))) (.pair (.sl (.int .i64)) (.bool))))))⟩ .leaf) 59 ⟨.st [(0, 22), (1, 57)], 2, 48, [.sl, .sl], .pair (.sl (.int .i64)) (.sl (.pair (.int .i64) (.pair (.sl (.int .i64)) (.pair (.sl (.pair (.int .i64) (.int .i64))) (.pair (.sl (.int .i64)) (.bool))))))⟩ .leaf) 61 ⟨.fn, 1, 8, [.fn], .bool⟩ (.node (.node .leaf 62 ⟨.fn, 1, 8, [.fn], .bool⟩ .leaf) 63 ⟨.fn, 1, 8, [.fn], .bool⟩ .leaf))))) 64 ⟨.fn, 1, 8, [.fn], .bool⟩ (.node (.node (.node (.node (.node (.node .leaf 65 ⟨.fn, 1, 8, [.fn], .bool⟩ .leaf) 66 ⟨.sl 84, 1, 24, [.sl], .sl (.pair (.int .i64) (.bool))⟩ (.node .leaf 68 ⟨.fn, 1, 8, [.fn], .bool⟩ .leaf)) 69 ⟨.fn, 1, 8, [.fn], .bool⟩ (.node (.node .leaf 71 ⟨.fn, 1, 8, [.fn], .bool⟩ .leaf) 72 ⟨.fn, 1, 8, [.fn], .bool⟩ .leaf)) 73 ⟨.fn, 1, 8, [.fn], .bool⟩ (.node (.node (.node .leaf 75 ⟨.fn, 1, 8, [.fn], .bool⟩ .leaf) 76 ⟨.fn, 1, 8, [.fn], .bool⟩ (.node .leaf 77 ⟨.fn, 1, 8, [.fn], .bool⟩ .leaf)) 79 ⟨.fn, 1, 8, [.fn], .bool⟩ (.node (.node .leaf 81 ⟨.fn, 1, 8, [.fn], .bool⟩ .leaf) 82 ⟨.fn, 1, 8, [.fn], .bool⟩ .leaf))) 83 ⟨.st [(0, 3), (1, 4)], 2, 16, [.int .i64, .bool], .pair (.int .i64) (.bool)⟩ (.node (.node (.node (.node .leaf 84 ⟨.st [(0, 3), (1, 4)], 2, 16, [.int .i64, .bool], .pair (.int .i64) (.bool)⟩ .leaf) 85 ⟨.fn, 1, 8, [.fn], .bool⟩ (.node .leaf 86 ⟨.fn, 1, 8, [.fn], .bool⟩ .leaf)) 87 ⟨.fn, 1, 8, [.fn], .bool⟩ (.node (.node .leaf 88 ⟨.fn, 1, 8, [.fn], .bool⟩ .leaf) 89 ⟨.fn, 1, 8, [.fn], .bool⟩ .leaf)) 90 ⟨.fn, 1, 8, [.fn], .bool⟩ (.node (.node (.node .leaf 91 ⟨.fn, 1, 8, [.fn], .bool⟩ .leaf) 92 ⟨.st [(0, 36)], 1, 24, [.sl], .wrap (.sl (.int .u8))⟩ .leaf) 93 ⟨.st [(0, 36)], 1, 24, [.sl], .wrap (.sl (.int .u8))⟩ (.node (.node .leaf 94 ⟨.fn, 1, 8, [.fn], .bool⟩ .leaf) 95 ⟨.fn, 1, 8, [.fn], .bool⟩ .leaf)))) 96 ⟨.fn, 1, 8, [.fn], .bool⟩ (.node (.node (.node (.node (.node .leaf 97 ⟨.sl 134, 1, 24, [.sl], .sl (.pair (.int .i64) (.int .i64))⟩ .leaf) 98 ⟨.st [(0, 3), (1, 22), (2, 97), (3, 22), (4, 4)], 5, 88, [.int .i64, .sl, .sl, .sl, .bool], .pair (.int .i64) (.pair (.sl (.int .i64)) (.pair (.sl (.pair (.int .i64) (.int .i64))) (.pair (.sl (.int .i64)) (.bool))))⟩ (.node .leaf 99 ⟨.st [(0, 3), (1, 22), (2, 97), (3, 22), (4, 4)], 5, 88, [.int .i64, .sl, .sl, .sl, .bool], .pair (.int .i64) (.pair (.sl (.int .i64)) (.pair (.sl (.pair (.int .i64) (.int .i64))) (.pair (.sl (.int .i64)) (.bool))))⟩ .leaf)) 100 ⟨.fn, 1, 8, [.fn], .bool⟩ (.node (.node .leaf 101 ⟨.fn, 1, 8, [.fn], .bool⟩ .leaf) 102 ⟨.st [(0, 25), (3, 4)], 4, 64, [.sl, .sl, .int .i64, .bool], .pair (.pair (.sl (.int .i64)) (.pair (.sl (.sl (.pair (.int .u8) (.pair (.int .i64) (.pair (.int .i64) (.pair (.int .i64) (.pair (.int .i64) (.int .i64)))))))) (.int .i64))) (.bool)⟩ .leaf)) 103 ⟨.st [(0, 25), (3, 4)], 4, 64, [.sl, .sl, .int .i64, .bool], .pair (.pair (.sl (.int .i64)) (.pair (.sl (.sl (.pair (.int .u8) (.pair (.int .i64) (.pair (.int .i64) (.pair (.int .i64) (.pair (.int .i64) (.int .i64)))))))) (.int .i64))) (.bool)⟩ (.node (.node (.node .leaf 104 ⟨.fn, 1, 8, [.fn], .bool⟩ .leaf) 105 ⟨.fn, 1, 8, [.fn], .bool⟩ .leaf) 106 ⟨.fn, 1, 8, [.fn], .bool⟩ (.node (.node .leaf 108 ⟨.fn, 1, 8, [.fn], .bool⟩ .leaf) 109 ⟨.sl 114, 1, 24, [.sl], .sl (.pair (.pair (.sl (.int .i64)) (.sl (.pair (.int .i64) (.pair (.sl (.int .i64)) (.pair (.sl (.pair (.int .i64) (.int .i64))) (.pair (.sl (.int .i64)) (.bool))))))) (.pair (.int .i64) (.int .i64)))⟩ .leaf))) 111 ⟨.fn, 1, 8, [.fn], .bool⟩ (.node (.node (.node (.node .leaf 112 ⟨.fn, 1, 8, [.fn], .bool⟩ .leaf) 113 ⟨.st [(0, 59), (2, 3), (3, 3)], 4, 64, [.sl, .sl, .int .i64, .int .i64], .pair (.pair (.sl (.int .i64)) (.sl (.pair (.int .i64) (.pair (.sl (.int .i64)) (.pair (.sl (.pair (.int .i64) (.int .i64))) (.pair (.sl (.int .i64)) (.bool))))))) (.pair (.int .i64) (.int .i64))⟩ (.node .leaf 114 ⟨.st [(0, 59), (2, 3), (3, 3)], 4, 64, [.sl, .sl, .int .i64, .int .i64], .pair (.pair (.sl (.int .i64)) (.sl (.pair (.int .i64) (.pair (.sl (.int .i64)) (.pair (.sl (.pair (.int .i64) (.int .i64))) (.pair (.sl (.int .i64)) (.bool))))))) (.pair (.int .i64) (.int .i64))⟩ .leaf)) 115 ⟨.fn, 1, 8, [.fn], .bool⟩ (.node (.node .leaf 116 ⟨.fn, 1, 8, [.fn], .bool⟩ .leaf) 117 ⟨.fn, 1, 8, [.fn], .bool⟩ .leaf)) 118 ⟨.fn, 1, 8, [.fn], .bool⟩ (.node (.node (.node .leaf 119 ⟨.sl 123, 1, 24, [.sl], .sl (.pair (.pair (.sl (.int .i64)) (.sl (.pair (.int .i64) (.pair (.sl (.int .i64)) (.pair (.sl (.pair (.int .i64) (.int .i64))) (.pair (.sl (.int .i64)) (.bool))))))) (.pair (.int .i64) (.int .i64)))⟩ .leaf) 121 ⟨.fn, 1, 8, [.fn], .bool⟩ .leaf) 122 ⟨.st [(0, 59), (2, 3), (3, 3)], 4, 64, [.sl, .sl, .int .i64, .int .i64], .pair (.pair (.sl (.int .i64)) (.sl (.pair (.int .i64) (.pair (.sl (.int .i64)) (.pair (.sl (.pair (.int .i64) (.int .i64))) (.pair (.sl (.int .i64)) (.bool))))))) (.pair (.int .i64) (.int .i64))⟩ (.node (.node .leaf 123 ⟨.st [(0, 59), (2, 3), (3, 3)], 4, 64, [.sl, .sl, .int .i64, .int .i64], .pair (.pair (.sl (.int .i64)) (.sl (.pair (.int .i64) (.pair (.sl (.int .i64)) (.pair (.sl (.pair (.int .i64) (.int .i64))) (.pair (.sl (.int .i64)) (.bool))))))) (.pair (.int .i64) (.int .i64))⟩ .leaf) 124 ⟨.fn, 1, 8, [.fn], .bool⟩ .leaf)))))) 125 ⟨.fn, 1, 8, [.fn], .bool⟩ (.node (.node (.node (.node (.node (.node (.node .leaf 126 ⟨.fn, 1, 8, [.fn], .bool⟩ .leaf) 127 ⟨.fn, 1, 8, [.fn], .bool⟩ (.node .leaf 128 ⟨.fn, 1, 8, [.fn], .bool⟩ .leaf)) 129 ⟨.fn, 1, 8, [.fn], .bool⟩ (.node (.node .leaf 130 ⟨.fn, 1, 8, [.fn], .bool⟩ .leaf) 131 ⟨.fn, 1, 8, [.fn], .bool⟩ .leaf)) 132 ⟨.fn, 1, 8, [.fn], .bool⟩ (.node (.node (.node .leaf 133 ⟨.st [(0, 3), (1, 3)], 2, 16, [.int .i64, .int .i64], .pair (.int .i64) (.int .i64)⟩ .leaf) 134 ⟨.st [(0, 3), (1, 3)], 2, 16, [.int .i64, .int .i64], .pair (.int .i64) (.int .i64)⟩ (.node .leaf 135 ⟨.fn, 1, 8, [.fn], .bool⟩ .leaf)) 136 ⟨.fn, 1, 8, [.fn], .bool⟩ (.node (.node .leaf 137 ⟨.fn, 1, 8, [.fn], .bool⟩ .leaf) 138 ⟨.fn, 1, 8, [.fn], .bool⟩ .leaf))) 139 ⟨.fn, 1, 8, [.fn], .bool⟩ (.node (.node (.node (.node .leaf 140 ⟨.fn, 1, 8, [.fn], .bool⟩ .leaf) 141 ⟨.fn, 1, 8, [.fn], .bool⟩ (.node .leaf 142 ⟨.fn, 1, 8, [.fn], .bool⟩ .leaf)) 143 ⟨.ptr 99, 1, 8, [.ptr], .bool⟩ (.node (.node .leaf 144 ⟨.fn, 1, 8, [.fn], .bool⟩ .leaf) 145 ⟨.ptr 59, 1, 8, [.ptr], .bool⟩ .leaf)) 147 ⟨.fn, 1, 8, [.fn], .bool⟩ (.node (.node (.node .leaf 148 ⟨.fn, 1, 8, [.fn], .bool⟩ .leaf) 149 ⟨.fn, 1, 8, [.fn], .bool⟩ .leaf) 150 ⟨.fn, 1, 8, [.fn], .bool⟩ (.node (.node .leaf 151 ⟨.fn, 1, 8, [.fn], .bool⟩ .leaf) 152 ⟨.arr 4 3, 4, 32, [.int .i64, .int .i64, .int .i64, .int .i64], .bool⟩ .leaf)))) 153 ⟨.fn, 1, 8, [.fn], .bool⟩ (.node (.node (.node (.node (.node .leaf 154 ⟨.map 9 4, 1, 8, [.map], .bool⟩ .leaf) 155 ⟨.fn, 1, 8, [.fn], .bool⟩ (.node .leaf 156 ⟨.fn, 1, 8, [.fn], .bool⟩ .leaf)) 157 ⟨.fn, 1, 8, [.fn], .bool⟩ (.node (.node .leaf 158 ⟨.fn, 1, 8, [.fn], .bool⟩ .leaf) 159 ⟨.fn, 1, 8, [.fn], .bool⟩ .leaf)) 160 ⟨.fn, 1, 8, [.fn], .bool⟩ (.node (.node (.node .leaf 161 ⟨.sl 191, 1, 24, [.sl], .sl (.sl (.str))⟩ .leaf) 162 ⟨.st [(0, 161)], 1, 24, [.sl], .wrap (.sl (.sl (.str)))⟩ .leaf) 163 ⟨.st [(0, 161)], 1, 24, [.sl], .wrap (.sl (.sl (.str)))⟩ (.node (.node .leaf 164 ⟨.fn, 1, 8, [.fn], .bool⟩ .leaf) 165 ⟨.fn, 1, 8, [.fn], .bool⟩ .leaf))) 166 ⟨.fn, 1, 8, [.fn], .bool⟩ (.node (.node (.node (.node .leaf 167 ⟨.int .u16, 1, 2, [.int .u16], .int .u16⟩ .leaf) 168 ⟨.int .u16, 1, 2, [.int .u16], .int .u16⟩ (.node .leaf 170 ⟨.fn, 1, 8, [.fn], .bool⟩ .leaf)) 171 ⟨.fn, 1, 8, [.fn], .bool⟩ (.node (.node .leaf 172 ⟨.fn, 1, 8, [.fn], .bool⟩ .leaf) 173 ⟨.fn, 1, 8, [.fn], .bool⟩ .leaf)) 174 ⟨.fn, 1, 8, [.fn], .bool⟩ (.node (.node (.node .leaf 175 ⟨.fn, 1, 8, [.fn], .bool⟩ .leaf) 176 ⟨.fn, 1, 8, [.fn], .bool⟩ .leaf) 177 ⟨.fn, 1, 8, [.fn], .bool⟩ (.node (.node .leaf 178 ⟨.fn, 1, 8, [.fn], .bool⟩ .leaf) 179 ⟨.fn, 1, 8, [.fn], .bool⟩ .leaf))))) 180 ⟨.fn, 1, 8, [.fn], .bool⟩ (.node (.node (.node (.node (.node (.node .leaf 181 ⟨.fn, 1, 8, [.fn], .bool⟩ .leaf) 182 ⟨.fn, 1, 8, [.fn], .bool⟩ (.node .leaf 183 ⟨.fn, 1, 8, [.fn], .bool⟩ .leaf)) 184 ⟨.int .u64, 1, 8, [.int .u64], .int .u64⟩ (.node (.node .leaf 185 ⟨.fn, 1, 8, [.fn], .bool⟩ .leaf) 186 ⟨.fn, 1, 8, [.fn], .bool⟩ .leaf)) 187 ⟨.fn, 1, 8, [.fn], .bool⟩ (.node (.node (.node .leaf 188 ⟨.fn, 1, 8, [.fn], .bool⟩ .leaf) 189 ⟨.fn, 1, 8, [.fn], .bool⟩ (.node .leaf 190 ⟨.ptr 163, 1, 8, [.ptr], .bool⟩ .leaf)) 191 ⟨.sl 9, 1, 24, [.sl], .sl (.str)⟩ (.node (.node .leaf 192 ⟨.fn, 1, 8, [.fn], .bool⟩ .leaf) 193 ⟨.fn, 1, 8, [.fn], .bool⟩ .leaf))) 194 ⟨.fn, 1, 8, [.fn], .bool⟩ (.node (.node (.node (.node .leaf 195 ⟨.fn, 1, 8, [.fn], .bool⟩ .leaf) 196 ⟨.fn, 1, 8, [.fn], .bool⟩ (.node .leaf 197 ⟨.fn, 1, 8, [.fn], .bool⟩ .leaf)) 198 ⟨.map 5 197, 1, 8, [.map], .bool⟩ (.node (.node .leaf 199 ⟨.fn, 1, 8, [.fn], .bool⟩ .leaf) 200 ⟨.st [(0, 56), (6, 3)], 7, 56, [.int .u8, .int .i64, .int .i64, .int .i64, .int .i64, .int .i64, .int .i64], .pair (.pair (.int .u8) (.pair (.int .i64) (.pair (.int .i64) (.pair (.int .i64) (.pair (.int .i64) (.int .i64)))))) (.int .i64)⟩ .leaf)) 201 ⟨.st [(0, 56), (6, 3)], 7, 56, [.int .u8, .int .i64, .int .i64, .int .i64, .int .i64, .int .i64, .int .i64], .pair (.pair (.int .u8) (.pair (.int .i64) (.pair (.int .i64) (.pair (.int .i64) (.pair (.int .i64) (.int .i64)))))) (.int .i64)⟩ (.node (.node (.node .leaf 202 ⟨.fn, 1, 8, [.fn], .bool⟩ .leaf) 203 ⟨.fn, 1, 8, [.fn], .bool⟩ .leaf) 204 ⟨.fn, 1, 8, [.fn], .bool⟩ (.node (.node .leaf 205 ⟨.int .i64, 1, 8, [.int .i64], .int .i64⟩ .leaf) 207 ⟨.fn, 1, 8, [.fn], .bool⟩ .leaf)))) 208 ⟨.fn, 1, 8, [.fn], .bool⟩ (.node (.node (.node (.node (.node .leaf 209 ⟨.fn, 1, 8, [.fn], .bool⟩ .leaf) 210 ⟨.fn, 1, 8, [.fn], .bool⟩ (.node .leaf 211 ⟨.fn, 1, 8, [.fn], .bool⟩ .leaf)) 212 ⟨.int .u32, 1, 4, [.int .u32], .int .u32⟩ (.node (.node .leaf 213 ⟨.fn, 1, 8, [.fn], .bool⟩ .leaf) 214 ⟨.int .u64, 1, 8, [.int .u64], .int .u64⟩ .leaf)) 215 ⟨.fn, 1, 8, [.fn], .bool⟩ (.node (.node (.node .leaf 216 ⟨.fn, 1, 8, [.fn], .bool⟩ .leaf) 217 ⟨.fn, 1, 8, [.fn], .bool⟩ .leaf) 218 ⟨.int .u64, 1, 8, [.int .u64], .int .u64⟩ (.node (.node .leaf 219 ⟨.fn, 1, 8, [.fn], .bool⟩ .leaf) 220 ⟨.fn, 1, 8, [.fn], .bool⟩ .leaf))) 221 ⟨.fn, 1, 8, [.fn], .bool⟩ (.node (.node (.node (.node .leaf 222 ⟨.ptr 3, 1, 8, [.ptr], .bool⟩ .leaf) 223 ⟨.fn, 1, 8, [.fn], .bool⟩ (.node .leaf 224 ⟨.ptr 218, 1, 8, [.ptr], .bool⟩ .leaf)) 226 ⟨.fn, 1, 8, [.fn], .bool⟩ (.node (.node .leaf 227 ⟨.fn, 1, 8, [.fn], .bool⟩ .leaf) 233 ⟨.fn, 1, 8, [.fn], .bool⟩ .leaf)) 234 ⟨.int .u8, 1, 1, [.int .u8], .int .u8⟩ (.node (.node (.node .leaf 235 ⟨.int .u8, 1, 1, [.int .u8], .int .u8⟩ .leaf) 236 ⟨.fn, 1, 8, [.fn], .bool⟩ .leaf) 237 ⟨.ptr 5, 1, 8, [.ptr], .bool⟩ (.node (.node .leaf 238 ⟨.int .i32, 1, 4, [.int .i32], .int .i32⟩ .leaf) 239 ⟨.int .i32, 1, 4, [.int .i32], .int .i32⟩ .leaf)))))))
theorem T01ok : T01.ok prog = true := by kernel_rfl
def E01 : Ev := fun t => T01.look t
theorem hE : ∀ t i, E01 t = some i → TIok prog t i := fun t i h => TT.ok_look T01 t i T01ok h
theorem hm : prog.follows .mixedOrders = true := by kernel_rfl
end Go.Proofs.Tryz
set_option autoImplicit false
set_option linter.all false
namespace Go.Proofs.Tryz
open Go Go.VM
set_option maxRecDepth 100000
theorem at18 : prog.funcs[18]? = some f18 := by kernel_rfl
theorem at19 : prog.funcs[19]? = some f19 := by kernel_rfl
def pl19 : Nat → Plan
  | _ => []
noncomputable def D19 (ann : Nat → LAnn) : FnD := ⟨f19.body.getD .skip, f19.ntmps, f19.results.toList, pl19, ann⟩
theorem fnok19 (ann : Nat → LAnn) : FnOk prog 19 (D19 ann) := ⟨f19, at19, by kernel_rfl, by kernel_rfl, rfl, rfl, by kernel_rfl⟩
theorem at20 : prog.funcs[20]? = some f20 := by kernel_rfl
def pl20 : Nat → Plan
  | 1 => [(7, []), (0, [7]), (1, [7, 0]), (2, [7, 0]), (3, [7]), (4, [7, 0, 1, 2, 3]), (5, [7, 0, 1, 2, 3]), (6, [7]), (8, [])]
  | 5 => [(0, []), (1, []), (2, [0, 1]), (3, [0, 1, 2]), (4, [0, 1, 2]), (5, [0, 1, 2, 3, 4]), (6, [0, 1, 2]), (7, [0, 1, 2]), (8, [0, 1]), (9, [0, 1]), (10, []), (11, []), (12, [])]
  | _ => []
noncomputable def D20 (ann : Nat → LAnn) : FnD := ⟨f20.body.getD .skip, f20.ntmps, f20.results.toList, pl20, ann⟩
theorem fnok20 (ann : Nat → LAnn) : FnOk prog 20 (D20 ann) := ⟨f20, at20, by kernel_rfl, by kernel_rfl, rfl, rfl, by kernel_rfl⟩
theorem at21 : prog.funcs[21]? = some f21 := by kernel_rfl
def pl21 : Nat → Plan
  | _ => []
noncomputable def D21 (ann : Nat → LAnn) : FnD := ⟨f21.body.getD .skip, f21.ntmps, f21.results.toList, pl21, ann⟩
theorem fnok21 (ann : Nat → LAnn) : FnOk prog 21 (D21 ann) := ⟨f21, at21, by kernel_rfl, by kernel_rfl, rfl, rfl, by kernel_rfl⟩
theorem at22 : prog.funcs[22]? = some f22 := by kernel_rfl
def pl22 : Nat → Plan
  | 23 => [(0, []), (1, []), (2, [0, 1]), (3, []), (4, []), (5, [0, 1, 2, 3, 4]), (6, []), (7, []), (8, [0, 1, 2, 3, 4, 5, 6, 7]), (9, [0, 1, 2, 3, 4, 5, 6, 7]), (10, [0, 1, 2, 3, 4, 5, 6, 7, 8, 9]), (11, [0, 1, 2, 3, 4, 5, 6, 7]), (12, [0, 1, 2, 3, 4, 5, 6, 7]), (13, [0, 1, 2, 3, 4, 5, 6, 7]), (14, []), (15, [])]
  | _ => []
noncomputable def D22 (ann : Nat → LAnn) : FnD := ⟨f22.body.getD .skip, f22.ntmps, f22.results.toList, pl22, ann⟩
theorem fnok22 (ann : Nat → LAnn) : FnOk prog 22 (D22 ann) := ⟨f22, at22, by kernel_rfl, by kernel_rfl, rfl, rfl, by kernel_rfl⟩
theorem at24 : prog.funcs[24]? = some f24 := by kernel_rfl
def pl24 : Nat → Plan
  | _ => []
noncomputable def D24 (ann : Nat → LAnn) : FnD := ⟨f24.body.getD .skip, f24.ntmps, f24.results.toList, pl24, ann⟩
theorem fnok24 (ann : Nat → LAnn) : FnOk prog 24 (D24 ann) := ⟨f24, at24, by kernel_rfl, by kernel_rfl, rfl, rfl, by kernel_rfl⟩
theorem at27 : prog.funcs[27]? = some f27 := by kernel_rfl
def pl27 : Nat → Plan
  | _ => []
noncomputable def D27 (ann : Nat → LAnn) : FnD := ⟨f27.body.getD .skip, f27.ntmps, f27.results.toList, pl27, ann⟩
theorem fnok27 (ann : Nat → LAnn) : FnOk prog 27 (D27 ann) := ⟨f27, at27, by kernel_rfl, by kernel_rfl, rfl, rfl, by kernel_rfl⟩
theorem at29 : prog.funcs[29]? = some f29 := by kernel_rfl
def pl29 : Nat → Plan
  | 4 => [(6, []), (0, [6]), (1, [6]), (2, [6]), (3, [6, 0, 1, 2]), (4, [6, 0, 1, 2]), (5, [6]), (7, [])]
  | 13 => [(0, []), (1, [0]), (2, [0]), (3, [0]), (4, []), (5, [0, 1, 2, 3, 4]), (6, [0, 1, 2, 3, 4, 5]), (7, [0, 1, 2, 3, 4, 5]), (8, []), (9, []), (10, [])]
  | _ => []
noncomputable def D29 (ann : Nat → LAnn) : FnD := ⟨f29.body.getD .skip, f29.ntmps, f29.results.toList, pl29, ann⟩
theorem fnok29 (ann : Nat → LAnn) : FnOk prog 29 (D29 ann) := ⟨f29, at29, by kernel_rfl, by kernel_rfl, rfl, rfl, by kernel_rfl⟩
theorem at35 : prog.funcs[35]? = some f35 := by kernel_rfl
def pl35 : Nat → Plan
  | 6 => [(0, []), (1, [0]), (2, []), (3, []), (4, [0, 1, 2, 3]), (5, [0, 1, 2, 3, 4]), (6, [0, 1, 2, 3]), (7, [0, 1, 2, 3]), (8, []), (9, [])]
  | _ => []
noncomputable def D35 (ann : Nat → LAnn) : FnD := ⟨f35.body.getD .skip, f35.ntmps, f35.results.toList, pl35, ann⟩
theorem fnok35 (ann : Nat → LAnn) : FnOk prog 35 (D35 ann) := ⟨f35, at35, by kernel_rfl, by kernel_rfl, rfl, rfl, by kernel_rfl⟩
theorem at38 : prog.funcs[38]? = some f38 := by kernel_rfl
def pl38 : Nat → Plan
  | _ => []
noncomputable def D38 (ann : Nat → LAnn) : FnD := ⟨f38.body.getD .skip, f38.ntmps, f38.results.toList, pl38, ann⟩
theorem fnok38 (ann : Nat → LAnn) : FnOk prog 38 (D38 ann) := ⟨f38, at38, by kernel_rfl, by kernel_rfl, rfl, rfl, by kernel_rfl⟩
theorem at46 : prog.funcs[46]? = some f46 := by kernel_rfl
def pl46 : Nat → Plan
  | _ => []
noncomputable def D46 (ann : Nat → LAnn) : FnD := ⟨f46.body.getD .skip, f46.ntmps, f46.results.toList, pl46, ann⟩
theorem fnok46 (ann : Nat → LAnn) : FnOk prog 46 (D46 ann) := ⟨f46, at46, by kernel_rfl, by kernel_rfl, rfl, rfl, by kernel_rfl⟩
theorem at54 : prog.funcs[54]? = some f54 := by kernel_rfl
def pl54 : Nat → Plan
  | _ => []
noncomputable def D54 (ann : Nat → LAnn) : FnD := ⟨f54.body.getD .skip, f54.ntmps, f54.results.toList, pl54, ann⟩
theorem fnok54 (ann : Nat → LAnn) : FnOk prog 54 (D54 ann) := ⟨f54, at54, by kernel_rfl, by kernel_rfl, rfl, rfl, by kernel_rfl⟩
theorem at60 : prog.funcs[60]? = some f60 := by kernel_rfl
def pl60 : Nat → Plan
  | _ => []
noncomputable def D60 (ann : Nat → LAnn) : FnD := ⟨f60.body.getD .skip, f60.ntmps, f60.results.toList, pl60, ann⟩
theorem fnok60 (ann : Nat → LAnn) : FnOk prog 60 (D60 ann) := ⟨f60, at60, by kernel_rfl, by kernel_rfl, rfl, rfl, by kernel_rfl⟩
theorem at61 : prog.funcs[61]? = some f61 := by kernel_rfl
def pl61 : Nat → Plan
  | _ => []
noncomputable def D61 (ann : Nat → LAnn) : FnD := ⟨f61.body.getD .skip, f61.ntmps, f61.results.toList, pl61, ann⟩
theorem fnok61 (ann : Nat → LAnn) : FnOk prog 61 (D61 ann) := ⟨f61, at61, by kernel_rfl, by kernel_rfl, rfl, rfl, by kernel_rfl⟩
theorem at62 : prog.funcs[62]? = some f62 := by kernel_rfl
def pl62 : Nat → Plan
  | _ => []
noncomputable def D62 (ann : Nat → LAnn) : FnD := ⟨f62.body.getD .skip, f62.ntmps, f62.results.toList, pl62, ann⟩
theorem fnok62 (ann : Nat → LAnn) : FnOk prog 62 (D62 ann) := ⟨f62, at62, by kernel_rfl, by kernel_rfl, rfl, rfl, by kernel_rfl⟩
theorem at63 : prog.funcs[63]? = some f63 := by kernel_rfl
def pl63 : Nat → Plan
  | _ => []
noncomputable def D63 (ann : Nat → LAnn) : FnD := ⟨f63.body.getD .skip, f63.ntmps, f63.results.toList, pl63, ann⟩
theorem fnok63 (ann : Nat → LAnn) : FnOk prog 63 (D63 ann) := ⟨f63, at63, by kernel_rfl, by kernel_rfl, rfl, rfl, by kernel_rfl⟩
theorem at64 : prog.funcs[64]? = some f64 := by kernel_rfl
def pl64 : Nat → Plan
  | _ => []
noncomputable def D64 (ann : Nat → LAnn) : FnD := ⟨f64.body.getD .skip, f64.ntmps, f64.results.toList, pl64, ann⟩
theorem fnok64 (ann : Nat → LAnn) : FnOk prog 64 (D64 ann) := ⟨f64, at64, by kernel_rfl, by kernel_rfl, rfl, rfl, by kernel_rfl⟩
theorem at66 : prog.funcs[66]? = some f66 := by kernel_rfl
def pl66 : Nat → Plan
  | 6 => [(0, []), (1, [0]), (2, [0, 1]), (3, [0]), (4, [0]), (5, [0]), (6, []), (7, []), (8, [0, 1, 2, 3, 4, 5, 6, 7])]
  | 9 => [(8, []), (0, [8]), (1, [8, 0]), (2, [8, 0, 1]), (3, [8, 0]), (4, [8, 0]), (5, [8, 0]), (6, [8, 0, 1, 2, 3, 4, 5]), (7, [8]), (9, [])]
  | _ => []
noncomputable def D66 (ann : Nat → LAnn) : FnD := ⟨f66.body.getD .skip, f66.ntmps, f66.results.toList, pl66, ann⟩
theorem fnok66 (ann : Nat → LAnn) : FnOk prog 66 (D66 ann) := ⟨f66, at66, by kernel_rfl, by kernel_rfl, rfl, rfl, by kernel_rfl⟩
theorem at67 : prog.funcs[67]? = some f67 := by kernel_rfl
def pl67 : Nat → Plan
  | _ => []
noncomputable def D67 (ann : Nat → LAnn) : FnD := ⟨f67.body.getD .skip, f67.ntmps, f67.results.toList, pl67, ann⟩
theorem fnok67 (ann : Nat → LAnn) : FnOk prog 67 (D67 ann) := ⟨f67, at67, by kernel_rfl, by kernel_rfl, rfl, rfl, by kernel_rfl⟩
theorem at68 : prog.funcs[68]? = some f68 := by kernel_rfl
def pl68 : Nat → Plan
  | 1 => [(0, []), (1, [0]), (2, [0]), (3, []), (4, []), (5, []), (6, [5]), (7, [5]), (8, []), (9, [5, 6, 7, 8]), (10, []), (11, []), (12, []), (13, [])]
  | _ => []
noncomputable def D68 (ann : Nat → LAnn) : FnD := ⟨f68.body.getD .skip, f68.ntmps, f68.results.toList, pl68, ann⟩
theorem fnok68 (ann : Nat → LAnn) : FnOk prog 68 (D68 ann) := ⟨f68, at68, by kernel_rfl, by kernel_rfl, rfl, rfl, by kernel_rfl⟩
theorem at69 : prog.funcs[69]? = some f69 := by kernel_rfl
def pl69 : Nat → Plan
  | _ => []
noncomputable def D69 (ann : Nat → LAnn) : FnD := ⟨f69.body.getD .skip, f69.ntmps, f69.results.toList, pl69, ann⟩
theorem fnok69 (ann : Nat → LAnn) : FnOk prog 69 (D69 ann) := ⟨f69, at69, by kernel_rfl, by kernel_rfl, rfl, rfl, by kernel_rfl⟩
theorem at70 : prog.funcs[70]? = some f70 := by kernel_rfl
def pl70 : Nat → Plan
  | 1 => [(0, []), (1, []), (2, [0, 1]), (3, [0, 1]), (4, []), (5, [0, 1, 2, 3, 4]), (6, [0, 1, 2, 3, 4]), (7, [0, 1, 2, 3, 4, 5, 6]), (8, [0, 1, 2, 3, 4, 5, 6]), (9, []), (10, [0, 1, 2, 3, 4, 5, 6, 7, 8, 9]), (11, [0, 1, 2, 3, 4, 5, 6, 7, 8, 9]), (12, [0, 1, 2, 3, 4, 5, 6, 7, 8, 9, 10, 11]), (13, [0, 1, 2, 3, 4, 5, 6, 7, 8, 9, 10, 11]), (14, []), (15, []), (16, []), (17, [])]
  | _ => []
noncomputable def D70 (ann : Nat → LAnn) : FnD := ⟨f70.body.getD .skip, f70.ntmps, f70.results.toList, pl70, ann⟩
theorem fnok70 (ann : Nat → LAnn) : FnOk prog 70 (D70 ann) := ⟨f70, at70, by kernel_rfl, by kernel_rfl, rfl, rfl, by kernel_rfl⟩
theorem at71 : prog.funcs[71]? = some f71 := by kernel_rfl
def pl71 : Nat → Plan
  | 6 => [(0, []), (1, []), (2, [0, 1]), (3, [0, 1]), (4, [0, 1]), (5, [0, 1, 2, 3, 4]), (6, [0, 1]), (7, [0, 1]), (8, [0, 1]), (9, []), (10, [])]
  | 10 => [(0, []), (1, []), (2, [0, 1]), (3, [0, 1]), (4, [0, 1]), (5, [0, 1]), (6, []), (7, [0, 1, 2, 3, 4, 5, 6]), (8, [0, 1, 2, 3, 4, 5, 6]), (9, [0, 1, 2, 3, 4, 5, 6, 7, 8]), (10, [0, 1, 2, 3, 4, 5, 6, 7, 8]), (11, []), (12, [9, 10, 11]), (13, []), (14, []), (15, [])]
  | _ => []
noncomputable def D71 (ann : Nat → LAnn) : FnD := ⟨f71.body.getD .skip, f71.ntmps, f71.results.toList, pl71, ann⟩
theorem fnok71 (ann : Nat → LAnn) : FnOk prog 71 (D71 ann) := ⟨f71, at71, by kernel_rfl, by kernel_rfl, rfl, rfl, by kernel_rfl⟩
theorem at72 : prog.funcs[72]? = some f72 := by kernel_rfl
def pl72 : Nat → Plan
  | 3 => [(0, []), (1, [0]), (2, [0, 1]), (3, [0, 1, 2]), (4, [0, 1, 2, 3]), (5, [0, 1, 2, 3, 4]), (6, [0, 1, 2, 3]), (7, [0, 1, 2, 3]), (8, [0, 1, 2, 3, 4, 5, 6, 7]), (9, [0, 1, 2, 3, 4, 5, 6, 7, 8]), (10, [0, 1, 2, 3, 4, 5, 6, 7]), (11, [0, 1, 2, 3, 4, 5, 6, 7]), (12, [2, 3]), (13, [2, 3]), (14, []), (15, [])]
  | _ => []
noncomputable def D72 (ann : Nat → LAnn) : FnD := ⟨f72.body.getD .skip, f72.ntmps, f72.results.toList, pl72, ann⟩
theorem fnok72 (ann : Nat → LAnn) : FnOk prog 72 (D72 ann) := ⟨f72, at72, by kernel_rfl, by kernel_rfl, rfl, rfl, by kernel_rfl⟩
theorem at74 : prog.funcs[74]? = some f74 := by kernel_rfl
def pl74 : Nat → Plan
  | 7 => [(0, []), (1, []), (2, [0, 1]), (3, []), (4, []), (5, [0, 1, 2, 3, 4]), (6, [0, 1, 2, 3, 4]), (7, [0, 1, 2, 3, 4, 5, 6]), (8, [0, 1, 2, 3, 4]), (9, [0, 1, 2, 3, 4]), (10, []), (11, [])]
  | 12 => [(0, []), (1, []), (2, [0, 1]), (3, []), (4, []), (5, [])]
  | _ => []
noncomputable def D74 (ann : Nat → LAnn) : FnD := ⟨f74.body.getD .skip, f74.ntmps, f74.results.toList, pl74, ann⟩
theorem fnok74 (ann : Nat → LAnn) : FnOk prog 74 (D74 ann) := ⟨f74, at74, by kernel_rfl, by kernel_rfl, rfl, rfl, by kernel_rfl⟩
theorem at75 : prog.funcs[75]? = some f75 := by kernel_rfl
def pl75 : Nat → Plan
  | 4 => [(0, []), (1, [0]), (2, []), (3, []), (4, [0, 1, 2, 3]), (5, [0, 1, 2, 3, 4]), (6, [0, 1, 2, 3]), (7, [0, 1, 2, 3]), (8, [])]
  | 6 => [(0, []), (1, [0]), (2, []), (3, []), (4, [0, 1, 2, 3]), (5, [0, 1, 2, 3, 4]), (6, [0, 1, 2, 3]), (7, [0, 1, 2, 3]), (8, [])]
  | _ => []
noncomputable def D75 (ann : Nat → LAnn) : FnD := ⟨f75.body.getD .skip, f75.ntmps, f75.results.toList, pl75, ann⟩
theorem fnok75 (ann : Nat → LAnn) : FnOk prog 75 (D75 ann) := ⟨f75, at75, by kernel_rfl, by kernel_rfl, rfl, rfl, by kernel_rfl⟩
theorem at76 : prog.funcs[76]? = some f76 := by kernel_rfl
def pl76 : Nat → Plan
  | _ => []
noncomputable def D76 (ann : Nat → LAnn) : FnD := ⟨f76.body.getD .skip, f76.ntmps, f76.results.toList, pl76, ann⟩
theorem fnok76 (ann : Nat → LAnn) : FnOk prog 76 (D76 ann) := ⟨f76, at76, by kernel_rfl, by kernel_rfl, rfl, rfl, by kernel_rfl⟩
theorem at77 : prog.funcs[77]? = some f77 := by kernel_rfl
def pl77 : Nat → Plan
  | _ => []
noncomputable def D77 (ann : Nat → LAnn) : FnD := ⟨f77.body.getD .skip, f77.ntmps, f77.results.toList, pl77, ann⟩
theorem fnok77 (ann : Nat → LAnn) : FnOk prog 77 (D77 ann) := ⟨f77, at77, by kernel_rfl, by kernel_rfl, rfl, rfl, by kernel_rfl⟩
theorem at78 : prog.funcs[78]? = some f78 := by kernel_rfl
def pl78 : Nat → Plan
  | _ => []
noncomputable def D78 (ann : Nat → LAnn) : FnD := ⟨f78.body.getD .skip, f78.ntmps, f78.results.toList, pl78, ann⟩
theorem fnok78 (ann : Nat → LAnn) : FnOk prog 78 (D78 ann) := ⟨f78, at78, by kernel_rfl, by kernel_rfl, rfl, rfl, by kernel_rfl⟩
theorem at79 : prog.funcs[79]? = some f79 := by kernel_rfl
def pl79 : Nat → Plan
  | 4 => [(0, []), (1, []), (2, [0, 1]), (3, [0, 1]), (4, [0, 1]), (5, []), (6, []), (7, [])]
  | _ => []
noncomputable def D79 (ann : Nat → LAnn) : FnD := ⟨f79.body.getD .skip, f79.ntmps, f79.results.toList, pl79, ann⟩
theorem fnok79 (ann : Nat → LAnn) : FnOk prog 79 (D79 ann) := ⟨f79, at79, by kernel_rfl, by kernel_rfl, rfl, rfl, by kernel_rfl⟩
theorem at80 : prog.funcs[80]? = some f80 := by kernel_rfl
def pl80 : Nat → Plan
  | _ => []
noncomputable def D80 (ann : Nat → LAnn) : FnD := ⟨f80.body.getD .skip, f80.ntmps, f80.results.toList, pl80, ann⟩
theorem fnok80 (ann : Nat → LAnn) : FnOk prog 80 (D80 ann) := ⟨f80, at80, by kernel_rfl, by kernel_rfl, rfl, rfl, by kernel_rfl⟩
theorem at81 : prog.funcs[81]? = some f81 := by kernel_rfl
def pl81 : Nat → Plan
  | _ => []
noncomputable def D81 (ann : Nat → LAnn) : FnD := ⟨f81.body.getD .skip, f81.ntmps, f81.results.toList, pl81, ann⟩
theorem fnok81 (ann : Nat → LAnn) : FnOk prog 81 (D81 ann) := ⟨f81, at81, by kernel_rfl, by kernel_rfl, rfl, rfl, by kernel_rfl⟩
theorem at82 : prog.funcs[82]? = some f82 := by kernel_rfl
def pl82 : Nat → Plan
  | _ => []
noncomputable def D82 (ann : Nat → LAnn) : FnD := ⟨f82.body.getD .skip, f82.ntmps, f82.results.toList, pl82, ann⟩
theorem fnok82 (ann : Nat → LAnn) : FnOk prog 82 (D82 ann) := ⟨f82, at82, by kernel_rfl, by kernel_rfl, rfl, rfl, by kernel_rfl⟩
theorem at83 : prog.funcs[83]? = some f83 := by kernel_rfl
def pl83 : Nat → Plan
  | _ => []
noncomputable def D83 (ann : Nat → LAnn) : FnD := ⟨f83.body.getD .skip, f83.ntmps, f83.results.toList, pl83, ann⟩
theorem fnok83 (ann : Nat → LAnn) : FnOk prog 83 (D83 ann) := ⟨f83, at83, by kernel_rfl, by kernel_rfl, rfl, rfl, by kernel_rfl⟩
theorem at84 : prog.funcs[84]? = some f84 := by kernel_rfl
def pl84 : Nat → Plan
  | _ => []
noncomputable def D84 (ann : Nat → LAnn) : FnD := ⟨f84.body.getD .skip, f84.ntmps, f84.results.toList, pl84, ann⟩
theorem fnok84 (ann : Nat → LAnn) : FnOk prog 84 (D84 ann) := ⟨f84, at84, by kernel_rfl, by kernel_rfl, rfl, rfl, by kernel_rfl⟩
theorem at85 : prog.funcs[85]? = some f85 := by kernel_rfl
def pl85 : Nat → Plan
  | _ => []
noncomputable def D85 (ann : Nat → LAnn) : FnD := ⟨f85.body.getD .skip, f85.ntmps, f85.results.toList, pl85, ann⟩
theorem fnok85 (ann : Nat → LAnn) : FnOk prog 85 (D85 ann) := ⟨f85, at85, by kernel_rfl, by kernel_rfl, rfl, rfl, by kernel_rfl⟩
theorem at86 : prog.funcs[86]? = some f86 := by kernel_rfl
def pl86 : Nat → Plan
  | _ => []
noncomputable def D86 (ann : Nat → LAnn) : FnD := ⟨f86.body.getD .skip, f86.ntmps, f86.results.toList, pl86, ann⟩
theorem fnok86 (ann : Nat → LAnn) : FnOk prog 86 (D86 ann) := ⟨f86, at86, by kernel_rfl, by kernel_rfl, rfl, rfl, by kernel_rfl⟩
theorem at87 : prog.funcs[87]? = some f87 := by kernel_rfl
def pl87 : Nat → Plan
  | _ => []
noncomputable def D87 (ann : Nat → LAnn) : FnD := ⟨f87.body.getD .skip, f87.ntmps, f87.results.toList, pl87, ann⟩
theorem fnok87 (ann : Nat → LAnn) : FnOk prog 87 (D87 ann) := ⟨f87, at87, by kernel_rfl, by kernel_rfl, rfl, rfl, by kernel_rfl⟩
theorem at90 : prog.funcs[90]? = some f90 := by kernel_rfl
def pl90 : Nat → Plan
  | _ => []
noncomputable def D90 (ann : Nat → LAnn) : FnD := ⟨f90.body.getD .skip, f90.ntmps, f90.results.toList, pl90, ann⟩
theorem fnok90 (ann : Nat → LAnn) : FnOk prog 90 (D90 ann) := ⟨f90, at90, by kernel_rfl, by kernel_rfl, rfl, rfl, by kernel_rfl⟩
theorem at92 : prog.funcs[92]? = some f92 := by kernel_rfl
def pl92 : Nat → Plan
  | _ => []
noncomputable def D92 (ann : Nat → LAnn) : FnD := ⟨f92.body.getD .skip, f92.ntmps, f92.results.toList, pl92, ann⟩
theorem fnok92 (ann : Nat → LAnn) : FnOk prog 92 (D92 ann) := ⟨f92, at92, by kernel_rfl, by kernel_rfl, rfl, rfl, by kernel_rfl⟩
theorem at96 : prog.funcs[96]? = some f96 := by kernel_rfl
def pl96 : Nat → Plan
  | _ => []
noncomputable def D96 (ann : Nat → LAnn) : FnD := ⟨f96.body.getD .skip, f96.ntmps, f96.results.toList, pl96, ann⟩
theorem fnok96 (ann : Nat → LAnn) : FnOk prog 96 (D96 ann) := ⟨f96, at96, by kernel_rfl, by kernel_rfl, rfl, rfl, by kernel_rfl⟩
theorem at99 : prog.funcs[99]? = some f99 := by kernel_rfl
def pl99 : Nat → Plan
  | 4 => [(0, []), (1, []), (2, [0, 1]), (3, [0, 1]), (4, [0, 1]), (5, [0, 1]), (6, [0, 1]), (7, [0, 1]), (8, [0, 1]), (9, [0, 1, 2, 3, 4, 5, 6, 7, 8]), (10, [0, 1, 2, 3, 4, 5, 6, 7, 8]), (11, [0, 1, 2, 3, 4, 5, 6, 7, 8]), (12, [0, 1, 2, 3, 4, 5, 6, 7, 8]), (13, [0, 1, 2, 3, 4, 5, 6, 7, 8]), (14, [0, 1, 2, 3, 4, 5, 6, 7, 8]), (15, [0, 1, 2, 3, 4, 5, 6, 7, 8]), (16, []), (17, [])]
  | 7 => [(13, []), (0, [13]), (1, [13]), (2, [13]), (3, [13, 0, 1, 2]), (4, [13, 0, 1, 2]), (5, [13]), (6, [13]), (7, [13, 0, 1, 2, 3, 4, 5, 6]), (8, [13, 0, 1, 2, 3, 4, 5, 6]), (9, [13, 0, 1, 2, 3, 4, 5, 6]), (10, [13, 0, 1, 2, 3, 4, 5, 6]), (11, [13]), (12, [13]), (14, [])]
  | _ => []
noncomputable def D99 (ann : Nat → LAnn) : FnD := ⟨f99.body.getD .skip, f99.ntmps, f99.results.toList, pl99, ann⟩
theorem fnok99 (ann : Nat → LAnn) : FnOk prog 99 (D99 ann) := ⟨f99, at99, by kernel_rfl, by kernel_rfl, rfl, rfl, by kernel_rfl⟩
theorem at101 : prog.funcs[101]? = some f101 := by kernel_rfl
def pl101 : Nat → Plan
  | _ => []
noncomputable def D101 (ann : Nat → LAnn) : FnD := ⟨f101.body.getD .skip, f101.ntmps, f101.results.toList, pl101, ann⟩
theorem fnok101 (ann : Nat → LAnn) : FnOk prog 101 (D101 ann) := ⟨f101, at101, by kernel_rfl, by kernel_rfl, rfl, rfl, by kernel_rfl⟩
end Go.Proofs.Tryz
