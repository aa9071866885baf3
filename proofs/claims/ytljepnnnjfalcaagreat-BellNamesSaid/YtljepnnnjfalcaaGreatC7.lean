/- What functions of the weak memory compute, proved through the condition generator, and plain facts of it. Conditions: none of ours. -/
import Derived.Test.YtljepnnnjfalcaaGreatProg
import Derived.Test.YtljepnnnjfalcaaGreatC6
set_option autoImplicit false
set_option maxRecDepth 100000
set_option linter.all false
namespace Go.Proofs.Tryz
open Go Go.VM
def T01:TT:=(.node (.node (.node (.node (.node (.node (.node (.node (.node .leaf 1 ⟨.fn,1,8,[.fn],.bool⟩ .leaf) 2 ⟨.int .i64,1,8,[.int .i64],.int .i64⟩ .leaf) 3 ⟨.int .i64,1,8,[.int .i64],.int .i64⟩ (.node .leaf 4 ⟨.bool,1,1,[.bool],.bool⟩ .leaf)) 5 ⟨.int .u8,1,1,[.int .u8],.int .u8⟩ (.node (.node .leaf 6 ⟨.int .u8,1,1,[.int .u8],.int .u8⟩ .leaf) 7 ⟨.st [(0,2),(1,3),(2,4),(3,6)],4,24,[.int .i64,.int .i64,.bool,.int .u8],.pair (.int .i64) (.pair (.int .i64) (.pair (.bool) (.int .u8)))⟩ (.node .leaf 8 ⟨.st [(0,2),(1,3),(2,4),(3,6)],4,24,[.int .i64,.int .i64,.bool,.int .u8],.pair (.int .i64) (.pair (.int .i64) (.pair (.bool) (.int .u8)))⟩ .leaf))) 9 ⟨.str,1,16,[.str],.str⟩ (.node (.node (.node (.node .leaf 10 ⟨.str,1,16,[.str],.str⟩ .leaf) 11 ⟨.str,1,16,[.str],.str⟩ .leaf) 12 ⟨.int .u64,1,8,[.int .u64],.int .u64⟩ (.node .leaf 15 ⟨.ptr 296,1,8,[.ptr],.bool⟩ .leaf)) 16 ⟨.ptr 299,1,8,[.ptr],.bool⟩ (.node (.node .leaf 17 ⟨.ptr 307,1,8,[.ptr],.bool⟩ .leaf) 20 ⟨.ifc [],1,16,[.ifc],.bool⟩ (.node .leaf 21 ⟨.int .i32,1,4,[.int .i32],.int .i32⟩ .leaf)))) 22 ⟨.sl 3,1,24,[.sl],.sl (.int .i64)⟩ (.node (.node (.node (.node (.node .leaf 23 ⟨.int .i64,1,8,[.int .i64],.int .i64⟩ .leaf) 25 ⟨.fn,1,8,[.fn],.bool⟩ .leaf) 26 ⟨.sl 22,1,24,[.sl],.sl (.sl (.int .i64))⟩ (.node .leaf 27 ⟨.st [(0,3),(1,3),(2,4),(3,22),(4,26)],5,72,[.int .i64,.int .i64,.bool,.sl,.sl],.pair (.int .i64) (.pair (.int .i64) (.pair (.bool) (.pair (.sl (.int .i64)) (.sl (.sl (.int .i64))))))⟩ .leaf)) 28 ⟨.st [(0,3),(1,3),(2,4),(3,22),(4,26)],5,72,[.int .i64,.int .i64,.bool,.sl,.sl],.pair (.int .i64) (.pair (.int .i64) (.pair (.bool) (.pair (.sl (.int .i64)) (.sl (.sl (.int .i64))))))⟩ (.node (.node .leaf 29 ⟨.fn,1,8,[.fn],.bool⟩ .leaf) 30 ⟨.st [(0,3),(1,26),(2,22)],3,56,[.int .i64,.sl,.sl],.pair (.int .i64) (.pair (.sl (.sl (.int .i64))) (.sl (.int .i64)))⟩ (.node .leaf 31 ⟨.st [(0,3),(1,26),(2,22)],3,56,[.int .i64,.sl,.sl],.pair (.int .i64) (.pair (.sl (.sl (.int .i64))) (.sl (.int .i64)))⟩ .leaf))) 33 ⟨.fn,1,8,[.fn],.bool⟩ (.node (.node (.node .leaf 34 ⟨.fn,1,8,[.fn],.bool⟩ .leaf) 35 ⟨.fn,1,8,[.fn],.bool⟩ (.node .leaf 36 ⟨.sl 140,1,24,[.sl],.sl (.pair (.int .u8) (.pair (.int .i64) (.pair (.int .i64) (.pair (.int .i64) (.pair (.int .i64) (.int .i64))))))⟩ .leaf)) 38 ⟨.fn,1,8,[.fn],.bool⟩ (.node (.node .leaf 39 ⟨.fn,1,8,[.fn],.bool⟩ .leaf) 40 ⟨.fn,1,8,[.fn],.bool⟩ (.node .leaf 41 ⟨.fn,1,8,[.fn],.bool⟩ .leaf))))) 42 ⟨.fn,1,8,[.fn],.bool⟩ (.node (.node (.node (.node (.node (.node .leaf 43 ⟨.sl 137,1,24,[.sl],.sl (.pair (.int .i64) (.pair (.sl (.int .i64)) (.pair (.sl (.pair (.int .i64) (.int .i64))) (.pair (.sl (.int .i64)) (.bool)))))⟩ .leaf) 44 ⟨.st [(0,22),(1,43)],2,48,[.sl,.sl],.pair (.sl (.int .i64)) (.sl (.pair (.int .i64) (.pair (.sl (.int .i64)) (.pair (.sl (.pair (.int .i64) (.int .i64))) (.pair (.sl (.int .i64)) (.bool))))))⟩ .leaf) 45 ⟨.st [(0,22),(1,43)],2,48,[.sl,.sl],.pair (.sl (.int .i64)) (.sl (.pair (.int .i64) (.pair (.sl (.int .i64)) (.pair (.sl (.pair (.int .i64) (.int .i64))) (.pair (.sl (.int .i64)) (.bool))))))⟩ (.node .leaf 47 ⟨.fn,1,8,[.fn],.bool⟩ .leaf)) 48 ⟨.sl 36,1,24,[.sl],.sl (.sl (.pair (.int .u8) (.pair (.int .i64) (.pair (.int .i64) (.pair (.int .i64) (.pair (.int .i64) (.int .i64)))))))⟩ (.node (.node .leaf 49 ⟨.st [(0,22),(1,48),(2,3)],3,56,[.sl,.sl,.int .i64],.pair (.sl (.int .i64)) (.pair (.sl (.sl (.pair (.int .u8) (.pair (.int .i64) (.pair (.int .i64) (.pair (.int .i64) (.pair (.int .i64) (.int .i64)))))))) (.int .i64))⟩ .leaf) 50 ⟨.st [(0,22),(1,48),(2,3)],3,56,[.sl,.sl,.int .i64],.pair (.sl (.int .i64)) (.pair (.sl (.sl (.pair (.int .u8) (.pair (.int .i64) (.pair (.int .i64) (.pair (.int .i64) (.pair (.int .i64) (.int .i64)))))))) (.int .i64))⟩ (.node .leaf 51 ⟨.fn,1,8,[.fn],.bool⟩ .leaf))) 52 ⟨.fn,1,8,[.fn],.bool⟩ (.node (.node (.node .leaf 53 ⟨.fn,1,8,[.fn],.bool⟩ .leaf) 54 ⟨.sl 5,1,24,[.sl],.sl (.int .u8)⟩ (.node .leaf 55 ⟨.sl 54,1,24,[.sl],.sl (.sl (.int .u8))⟩ .leaf)) 56 ⟨.st [(0,5),(1,5),(2,54),(3,55)],4,56,[.int .u8,.int .u8,.sl,.sl],.pair (.int .u8) (.pair (.int .u8) (.pair (.sl (.int .u8)) (.sl (.sl (.int .u8)))))⟩ (.node (.node .leaf 57 ⟨.st [(0,5),(1,5),(2,54),(3,55)],4,56,[.int .u8,.int .u8,.sl,.sl],.pair (.int .u8) (.pair (.int .u8) (.pair (.sl (.int .u8)) (.sl (.sl (.int .u8)))))⟩ .leaf) 58 ⟨.st [(0,54)],1,24,[.sl],.wrap (.sl (.int .u8))⟩ (.node .leaf 59 ⟨.st [(0,54)],1,24,[.sl],.wrap (.sl (.int .u8))⟩ .leaf)))) 60 ⟨.fn,1,8,[.fn],.bool⟩ (.node (.node (.node (.node (.node .leaf 61 ⟨.fn,1,8,[.fn],.bool⟩ .leaf) 62 ⟨.fn,1,8,[.fn],.bool⟩ .leaf) 63 ⟨.fn,1,8,[.fn],.bool⟩ (.node .leaf 64 ⟨.fn,1,8,[.fn],.bool⟩ .leaf)) 66 ⟨.fn,1,8,[.fn],.bool⟩ (.node (.node .leaf 68 ⟨.fn,1,8,[.fn],.bool⟩ .leaf) 69 ⟨.fn,1,8,[.fn],.bool⟩ (.node .leaf 70 ⟨.fn,1,8,[.fn],.bool⟩ .leaf))) 71 ⟨.fn,1,8,[.fn],.bool⟩ (.node (.node (.node .leaf 72 ⟨.fn,1,8,[.fn],.bool⟩ .leaf) 73 ⟨.fn,1,8,[.fn],.bool⟩ (.node .leaf 74 ⟨.fn,1,8,[.fn],.bool⟩ .leaf)) 75 ⟨.fn,1,8,[.fn],.bool⟩ (.node (.node .leaf 77 ⟨.fn,1,8,[.fn],.bool⟩ .leaf) 78 ⟨.fn,1,8,[.fn],.bool⟩ (.node .leaf 79 ⟨.fn,1,8,[.fn],.bool⟩ .leaf)))))) 80 ⟨.fn,1,8,[.fn],.bool⟩ (.node (.node (.node (.node (.node (.node (.node .leaf 82 ⟨.fn,1,8,[.fn],.bool⟩ .leaf) 83 ⟨.fn,1,8,[.fn],.bool⟩ .leaf) 84 ⟨.fn,1,8,[.fn],.bool⟩ (.node .leaf 85 ⟨.fn,1,8,[.fn],.bool⟩ .leaf)) 87 ⟨.fn,1,8,[.fn],.bool⟩ (.node (.node .leaf 88 ⟨.fn,1,8,[.fn],.bool⟩ .leaf) 89 ⟨.sl 94,1,24,[.sl],.sl (.pair (.int .i64) (.bool))⟩ (.node .leaf 91 ⟨.fn,1,8,[.fn],.bool⟩ .leaf))) 92 ⟨.fn,1,8,[.fn],.bool⟩ (.node (.node (.node (.node .leaf 93 ⟨.st [(0,3),(1,4)],2,16,[.int .i64,.bool],.pair (.int .i64) (.bool)⟩ .leaf) 94 ⟨.st [(0,3),(1,4)],2,16,[.int .i64,.bool],.pair (.int .i64) (.bool)⟩ .leaf) 95 ⟨.sl 31,1,24,[.sl],.sl (.pair (.int .i64) (.pair (.sl (.sl (.int .i64))) (.sl (.int .i64))))⟩ (.node .leaf 97 ⟨.fn,1,8,[.fn],.bool⟩ .leaf)) 99 ⟨.fn,1,8,[.fn],.bool⟩ (.node (.node .leaf 100 ⟨.fn,1,8,[.fn],.bool⟩ .leaf) 101 ⟨.fn,1,8,[.fn],.bool⟩ (.node .leaf 102 ⟨.fn,1,8,[.fn],.bool⟩ .leaf)))) 103 ⟨.fn,1,8,[.fn],.bool⟩ (.node (.node (.node (.node (.node .leaf 104 ⟨.fn,1,8,[.fn],.bool⟩ .leaf) 105 ⟨.st [(0,28)],5,72,[.int .i64,.int .i64,.bool,.sl,.sl],.wrap (.pair (.int .i64) (.pair (.int .i64) (.pair (.bool) (.pair (.sl (.int .i64)) (.sl (.sl (.int .i64)))))))⟩ .leaf) 106 ⟨.st [(0,28)],5,72,[.int .i64,.int .i64,.bool,.sl,.sl],.wrap (.pair (.int .i64) (.pair (.int .i64) (.pair (.bool) (.pair (.sl (.int .i64)) (.sl (.sl (.int .i64)))))))⟩ (.node .leaf 108 ⟨.fn,1,8,[.fn],.bool⟩ .leaf)) 109 ⟨.fn,1,8,[.fn],.bool⟩ (.node (.node .leaf 110 ⟨.sl 114,1,24,[.sl],.sl (.pair (.sl (.int .i64)) (.pair (.sl (.sl (.int .i64))) (.sl (.int .u8))))⟩ .leaf) 112 ⟨.fn,1,8,[.fn],.bool⟩ (.node .leaf 113 ⟨.st [(0,22),(1,26),(2,54)],3,72,[.sl,.sl,.sl],.pair (.sl (.int .i64)) (.pair (.sl (.sl (.int .i64))) (.sl (.int .u8)))⟩ .leaf))) 114 ⟨.st [(0,22),(1,26),(2,54)],3,72,[.sl,.sl,.sl],.pair (.sl (.int .i64)) (.pair (.sl (.sl (.int .i64))) (.sl (.int .u8)))⟩ (.node (.node (.node .leaf 115 ⟨.fn,1,8,[.fn],.bool⟩ .leaf) 116 ⟨.fn,1,8,[.fn],.bool⟩ (.node .leaf 117 ⟨.fn,1,8,[.fn],.bool⟩ .leaf)) 119 ⟨.fn,1,8,[.fn],.bool⟩ (.node (.node .leaf 120 ⟨.fn,1,8,[.fn],.bool⟩ .leaf) 121 ⟨.fn,1,8,[.fn],.bool⟩ (.node .leaf 122 ⟨.fn,1,8,[.fn],.bool⟩ .leaf))))) 123 ⟨.fn,1,8,[.fn],.bool⟩ (.node (.node (.node (.node (.node (.node .leaf 124 ⟨.fn,1,8,[.fn],.bool⟩ .leaf) 125 ⟨.fn,1,8,[.fn],.bool⟩ .leaf) 126 ⟨.fn,1,8,[.fn],.bool⟩ (.node .leaf 127 ⟨.fn,1,8,[.fn],.bool⟩ .leaf)) 128 ⟨.fn,1,8,[.fn],.bool⟩ (.node (.node .leaf 129 ⟨.fn,1,8,[.fn],.bool⟩ .leaf) 130 ⟨.fn,1,8,[.fn],.bool⟩ (.node .leaf 131 ⟨.fn,1,8,[.fn],.bool⟩ .leaf))) 132 ⟨.fn,1,8,[.fn],.bool⟩ (.node (.node (.node .leaf 133 ⟨.fn,1,8,[.fn],.bool⟩ .leaf) 134 ⟨.fn,1,8,[.fn],.bool⟩ (.node .leaf 135 ⟨.sl 190,1,24,[.sl],.sl (.pair (.int .i64) (.int .i64))⟩ .leaf)) 136 ⟨.st [(0,3),(1,22),(2,135),(3,22),(4,4)],5,88,[.int .i64,.sl,.sl,.sl,.bool],.pair (.int .i64) (.pair (.sl (.int .i64)) (.pair (.sl (.pair (.int .i64) (.int .i64))) (.pair (.sl (.int .i64)) (.bool))))⟩ (.node (.node .leaf 137 ⟨.st [(0,3),(1,22),(2,135),(3,22),(4,4)],5,88,[.int .i64,.sl,.sl,.sl,.bool],.pair (.int .i64) (.pair (.sl (.int .i64)) (.pair (.sl (.pair (.int .i64) (.int .i64))) (.pair (.sl (.int .i64)) (.bool))))⟩ .leaf) 138 ⟨.fn,1,8,[.fn],.bool⟩ (.node .leaf 139 ⟨.st [(0,5),(1,3),(2,3),(3,3),(4,3),(5,3)],6,48,[.int .u8,.int .i64,.int .i64,.int .i64,.int .i64,.int .i64],.pair (.int .u8) (.pair (.int .i64) (.pair (.int .i64) (.pair (.int .i64) (.pair (.int .i64) (.int .i64)))))⟩ .leaf)))) 140 ⟨.st [(0,5),(1,3),(2,3),(3,3),(4,3),(5,3)],6,48,[.int .u8,.int .i64,.int .i64,.int .i64,.int .i64,.int .i64],.pair (.int .u8) (.pair (.int .i64) (.pair (.int .i64) (.pair (.int .i64) (.pair (.int .i64) (.int .i64)))))⟩ (.node (.node (.node (.node (.node .leaf 141 ⟨.fn,1,8,[.fn],.bool⟩ .leaf) 142 ⟨.fn,1,8,[.fn],.bool⟩ .leaf) 143 ⟨.fn,1,8,[.fn],.bool⟩ (.node .leaf 144 ⟨.fn,1,8,[.fn],.bool⟩ .leaf)) 145 ⟨.fn,1,8,[.fn],.bool⟩ (.node (.node .leaf 146 ⟨.fn,1,8,[.fn],.bool⟩ .leaf) 147 ⟨.fn,1,8,[.fn],.bool⟩ (.node .leaf 148 ⟨.st [(0,50),(3,4)],4,64,[.sl,.sl,.int .i64,.bool],.pair (.pair (.sl (.int .i64)) (.pair (.sl (.sl (.pair (.int .u8) (.pair (.int .i64) (.pair (.int .i64) (.pair (.int .i64) (.pair (.int .i64) (.int .i64)))))))) (.int .i64))) (.bool)⟩ .leaf))) 149 ⟨.st [(0,50),(3,4)],4,64,[.sl,.sl,.int .i64,.bool],.pair (.pair (.sl (.int .i64)) (.pair (.sl (.sl (.pair (.int .u8) (.pair (.int .i64) (.pair (.int .i64) (.pair (.int .i64) (.pair (.int .i64) (.int .i64)))))))) (.int .i64))) (.bool)⟩ (.node (.node (.node .leaf 150 ⟨.fn,1,8,[.fn],.bool⟩ .leaf) 151 ⟨.fn,1,8,[.fn],.bool⟩ (.node .leaf 152 ⟨.fn,1,8,[.fn],.bool⟩ .leaf)) 153 ⟨.fn,1,8,[.fn],.bool⟩ (.node (.node .leaf 154 ⟨.fn,1,8,[.fn],.bool⟩ .leaf) 155 ⟨.fn,1,8,[.fn],.bool⟩ (.node .leaf 156 ⟨.sl 160,1,24,[.sl],.sl (.pair (.pair (.sl (.int .i64)) (.sl (.pair (.int .i64) (.pair (.sl (.int .i64)) (.pair (.sl (.pair (.int .i64) (.int .i64))) (.pair (.sl (.int .i64)) (.bool))))))) (.pair (.int .i64) (.int .i64)))⟩ .leaf))))))) 158 ⟨.fn,1,8,[.fn],.bool⟩ (.node (.node (.node (.node (.node (.node (.node (.node .leaf 159 ⟨.st [(0,45),(2,3),(3,3)],4,64,[.sl,.sl,.int .i64,.int .i64],.pair (.pair (.sl (.int .i64)) (.sl (.pair (.int .i64) (.pair (.sl (.int .i64)) (.pair (.sl (.pair (.int .i64) (.int .i64))) (.pair (.sl (.int .i64)) (.bool))))))) (.pair (.int .i64) (.int .i64))⟩ .leaf) 160 ⟨.st [(0,45),(2,3),(3,3)],4,64,[.sl,.sl,.int .i64,.int .i64],.pair (.pair (.sl (.int .i64)) (.sl (.pair (.int .i64) (.pair (.sl (.int .i64)) (.pair (.sl (.pair (.int .i64) (.int .i64))) (.pair (.sl (.int .i64)) (.bool))))))) (.pair (.int .i64) (.int .i64))⟩ .leaf) 161 ⟨.fn,1,8,[.fn],.bool⟩ (.node .leaf 162 ⟨.fn,1,8,[.fn],.bool⟩ .leaf)) 163 ⟨.fn,1,8,[.fn],.bool⟩ (.node (.node .leaf 164 ⟨.map 3 4,1,8,[.map],.bool⟩ .leaf) 165 ⟨.fn,1,8,[.fn],.bool⟩ (.node .leaf 166 ⟨.fn,1,8,[.fn],.bool⟩ .leaf))) 167 ⟨.fn,1,8,[.fn],.bool⟩ (.node (.node (.node (.node .leaf 168 ⟨.fn,1,8,[.fn],.bool⟩ .leaf) 169 ⟨.sl 174,1,24,[.sl],.sl (.pair (.pair (.sl (.int .i64)) (.sl (.pair (.int .i64) (.pair (.sl (.int .i64)) (.pair (.sl (.pair (.int .i64) (.int .i64))) (.pair (.sl (.int .i64)) (.bool))))))) (.pair (.int .i64) (.int .i64)))⟩ .leaf) 171 ⟨.fn,1,8,[.fn],.bool⟩ (.node .leaf 172 ⟨.fn,1,8,[.fn],.bool⟩ .leaf)) 173 ⟨.st [(0,45),(2,3),(3,3)],4,64,[.sl,.sl,.int .i64,.int .i64],.pair (.pair (.sl (.int .i64)) (.sl (.pair (.int .i64) (.pair (.sl (.int .i64)) (.pair (.sl (.pair (.int .i64) (.int .i64))) (.pair (.sl (.int .i64)) (.bool))))))) (.pair (.int .i64) (.int .i64))⟩ (.node (.node .leaf 174 ⟨.st [(0,45),(2,3),(3,3)],4,64,[.sl,.sl,.int .i64,.int .i64],.pair (.pair (.sl (.int .i64)) (.sl (.pair (.int .i64) (.pair (.sl (.int .i64)) (.pair (.sl (.pair (.int .i64) (.int .i64))) (.pair (.sl (.int .i64)) (.bool))))))) (.pair (.int .i64) (.int .i64))⟩ .leaf) 175 ⟨.fn,1,8,[.fn],.bool⟩ (.node .leaf 176 ⟨.fn,1,8,[.fn],.bool⟩ .leaf)))) 177 ⟨.fn,1,8,[.fn],.bool⟩ (.node (.node (.node (.node (.node .leaf 178 ⟨.fn,1,8,[.fn],.bool⟩ .leaf) 179 ⟨.fn,1,8,[.fn],.bool⟩ .leaf) 180 ⟨.ptr 182,1,8,[.ptr],.bool⟩ (.node .leaf 181 ⟨.st [(0,36),(1,3)],2,32,[.sl,.int .i64],.pair (.sl (.pair (.int .u8) (.pair (.int .i64) (.pair (.int .i64) (.pair (.int .i64) (.pair (.int .i64) (.int .i64))))))) (.int .i64)⟩ .leaf)) 182 ⟨.st [(0,36),(1,3)],2,32,[.sl,.int .i64],.pair (.sl (.pair (.int .u8) (.pair (.int .i64) (.pair (.int .i64) (.pair (.int .i64) (.pair (.int .i64) (.int .i64))))))) (.int .i64)⟩ (.node (.node .leaf 183 ⟨.fn,1,8,[.fn],.bool⟩ .leaf) 184 ⟨.fn,1,8,[.fn],.bool⟩ (.node .leaf 185 ⟨.fn,1,8,[.fn],.bool⟩ .leaf))) 186 ⟨.fn,1,8,[.fn],.bool⟩ (.node (.node (.node .leaf 187 ⟨.fn,1,8,[.fn],.bool⟩ .leaf) 188 ⟨.ptr 137,1,8,[.ptr],.bool⟩ (.node .leaf 189 ⟨.st [(0,3),(1,3)],2,16,[.int .i64,.int .i64],.pair (.int .i64) (.int .i64)⟩ .leaf)) 190 ⟨.st [(0,3),(1,3)],2,16,[.int .i64,.int .i64],.pair (.int .i64) (.int .i64)⟩ (.node (.node .leaf 191 ⟨.fn,1,8,[.fn],.bool⟩ .leaf) 192 ⟨.fn,1,8,[.fn],.bool⟩ (.node .leaf 193 ⟨.fn,1,8,[.fn],.bool⟩ .leaf))))) 194 ⟨.ptr 45,1,8,[.ptr],.bool⟩ (.node (.node (.node (.node (.node (.node .leaf 196 ⟨.fn,1,8,[.fn],.bool⟩ .leaf) 197 ⟨.fn,1,8,[.fn],.bool⟩ .leaf) 198 ⟨.fn,1,8,[.fn],.bool⟩ (.node .leaf 199 ⟨.fn,1,8,[.fn],.bool⟩ .leaf)) 200 ⟨.fn,1,8,[.fn],.bool⟩ (.node (.node .leaf 201 ⟨.arr 4 3,4,32,[.int .i64,.int .i64,.int .i64,.int .i64],.bool⟩ .leaf) 202 ⟨.fn,1,8,[.fn],.bool⟩ (.node .leaf 203 ⟨.fn,1,8,[.fn],.bool⟩ .leaf))) 204 ⟨.fn,1,8,[.fn],.bool⟩ (.node (.node (.node .leaf 205 ⟨.fn,1,8,[.fn],.bool⟩ .leaf) 206 ⟨.fn,1,8,[.fn],.bool⟩ (.node .leaf 207 ⟨.fn,1,8,[.fn],.bool⟩ .leaf)) 208 ⟨.fn,1,8,[.fn],.bool⟩ (.node (.node .leaf 209 ⟨.fn,1,8,[.fn],.bool⟩ .leaf) 210 ⟨.fn,1,8,[.fn],.bool⟩ (.node .leaf 211 ⟨.fn,1,8,[.fn],.bool⟩ .leaf)))) 212 ⟨.fn,1,8,[.fn],.bool⟩ (.node (.node (.node (.node (.node .leaf 213 ⟨.fn,1,8,[.fn],.bool⟩ .leaf) 214 ⟨.fn,1,8,[.fn],.bool⟩ .leaf) 215 ⟨.int .u64,1,8,[.int .u64],.int .u64⟩ (.node .leaf 216 ⟨.fn,1,8,[.fn],.bool⟩ .leaf)) 217 ⟨.sl 263,1,24,[.sl],.sl (.sl (.str))⟩ (.node (.node .leaf 218 ⟨.st [(0,217)],1,24,[.sl],.wrap (.sl (.sl (.str)))⟩ .leaf) 219 ⟨.st [(0,217)],1,24,[.sl],.wrap (.sl (.sl (.str)))⟩ (.node .leaf 220 ⟨.fn,1,8,[.fn],.bool⟩ .leaf))) 221 ⟨.fn,1,8,[.fn],.bool⟩ (.node (.node (.node .leaf 222 ⟨.fn,1,8,[.fn],.bool⟩ .leaf) 223 ⟨.fn,1,8,[.fn],.bool⟩ (.node .leaf 224 ⟨.fn,1,8,[.fn],.bool⟩ .leaf)) 225 ⟨.map 9 4,1,8,[.map],.bool⟩ (.node (.node .leaf 226 ⟨.fn,1,8,[.fn],.bool⟩ .leaf) 227 ⟨.fn,1,8,[.fn],.bool⟩ (.node .leaf 228 ⟨.fn,1,8,[.fn],.bool⟩ .leaf)))))) 229 ⟨.fn,1,8,[.fn],.bool⟩ (.node (.node (.node (.node (.node (.node (.node .leaf 230 ⟨.fn,1,8,[.fn],.bool⟩ .leaf) 231 ⟨.fn,1,8,[.fn],.bool⟩ .leaf) 232 ⟨.fn,1,8,[.fn],.bool⟩ (.node .leaf 233 ⟨.fn,1,8,[.fn],.bool⟩ .leaf)) 234 ⟨.int .u16,1,2,[.int .u16],.int .u16⟩ (.node (.node .leaf 235 ⟨.int .u16,1,2,[.int .u16],.int .u16⟩ .leaf) 237 ⟨.fn,1,8,[.fn],.bool⟩ (.node .leaf 238 ⟨.fn,1,8,[.fn],.bool⟩ .leaf))) 239 ⟨.fn,1,8,[.fn],.bool⟩ (.node (.node (.node (.node .leaf 240 ⟨.fn,1,8,[.fn],.bool⟩ .leaf) 241 ⟨.fn,1,8,[.fn],.bool⟩ .leaf) 242 ⟨.fn,1,8,[.fn],.bool⟩ (.node .leaf 243 ⟨.fn,1,8,[.fn],.bool⟩ .leaf)) 244 ⟨.fn,1,8,[.fn],.bool⟩ (.node (.node .leaf 245 ⟨.fn,1,8,[.fn],.bool⟩ .leaf) 246 ⟨.map 5 245,1,8,[.map],.bool⟩ (.node .leaf 247 ⟨.fn,1,8,[.fn],.bool⟩ .leaf)))) 248 ⟨.st [(0,140),(6,3)],7,56,[.int .u8,.int .i64,.int .i64,.int .i64,.int .i64,.int .i64,.int .i64],.pair (.pair (.int .u8) (.pair (.int .i64) (.pair (.int .i64) (.pair (.int .i64) (.pair (.int .i64) (.int .i64)))))) (.int .i64)⟩ (.node (.node (.node (.node (.node .leaf 249 ⟨.st [(0,140),(6,3)],7,56,[.int .u8,.int .i64,.int .i64,.int .i64,.int .i64,.int .i64,.int .i64],.pair (.pair (.int .u8) (.pair (.int .i64) (.pair (.int .i64) (.pair (.int .i64) (.pair (.int .i64) (.int .i64)))))) (.int .i64)⟩ .leaf) 250 ⟨.fn,1,8,[.fn],.bool⟩ .leaf) 251 ⟨.fn,1,8,[.fn],.bool⟩ (.node .leaf 252 ⟨.int .i64,1,8,[.int .i64],.int .i64⟩ .leaf)) 254 ⟨.fn,1,8,[.fn],.bool⟩ (.node (.node .leaf 255 ⟨.fn,1,8,[.fn],.bool⟩ .leaf) 256 ⟨.fn,1,8,[.fn],.bool⟩ (.node .leaf 257 ⟨.fn,1,8,[.fn],.bool⟩ .leaf))) 258 ⟨.fn,1,8,[.fn],.bool⟩ (.node (.node (.node .leaf 259 ⟨.int .u32,1,4,[.int .u32],.int .u32⟩ .leaf) 260 ⟨.fn,1,8,[.fn],.bool⟩ (.node .leaf 261 ⟨.int .u64,1,8,[.int .u64],.int .u64⟩ .leaf)) 262 ⟨.ptr 219,1,8,[.ptr],.bool⟩ (.node (.node .leaf 263 ⟨.sl 9,1,24,[.sl],.sl (.str)⟩ .leaf) 264 ⟨.fn,1,8,[.fn],.bool⟩ (.node .leaf 265 ⟨.fn,1,8,[.fn],.bool⟩ .leaf))))) 266 ⟨.fn,1,8,[.fn],.bool⟩ (.node (.node (.node (.node (.node (.node .leaf 267 ⟨.fn,1,8,[.fn],.bool⟩ .leaf) 268 ⟨.fn,1,8,[.fn],.bool⟩ .leaf) 269 ⟨.fn,1,8,[.fn],.bool⟩ (.node .leaf 270 ⟨.fn,1,8,[.fn],.bool⟩ .leaf)) 271 ⟨.int .u64,1,8,[.int .u64],.int .u64⟩ (.node (.node .leaf 272 ⟨.fn,1,8,[.fn],.bool⟩ .leaf) 273 ⟨.fn,1,8,[.fn],.bool⟩ (.node .leaf 274 ⟨.fn,1,8,[.fn],.bool⟩ .leaf))) 275 ⟨.ptr 3,1,8,[.ptr],.bool⟩ (.node (.node (.node .leaf 276 ⟨.fn,1,8,[.fn],.bool⟩ .leaf) 277 ⟨.fn,1,8,[.fn],.bool⟩ (.node .leaf 278 ⟨.fn,1,8,[.fn],.bool⟩ .leaf)) 279 ⟨.fn,1,8,[.fn],.bool⟩ (.node (.node .leaf 280 ⟨.fn,1,8,[.fn],.bool⟩ .leaf) 281 ⟨.fn,1,8,[.fn],.bool⟩ (.node .leaf 282 ⟨.fn,1,8,[.fn],.bool⟩ .leaf)))) 283 ⟨.fn,1,8,[.fn],.bool⟩ (.node (.node (.node (.node (.node .leaf 284 ⟨.ptr 271,1,8,[.ptr],.bool⟩ .leaf) 286 ⟨.fn,1,8,[.fn],.bool⟩ .leaf) 287 ⟨.fn,1,8,[.fn],.bool⟩ (.node .leaf 288 ⟨.fn,1,8,[.fn],.bool⟩ .leaf)) 289 ⟨.fn,1,8,[.fn],.bool⟩ (.node (.node .leaf 290 ⟨.fn,1,8,[.fn],.bool⟩ .leaf) 291 ⟨.fn,1,8,[.fn],.bool⟩ (.node .leaf 292 ⟨.fn,1,8,[.fn],.bool⟩ .leaf))) 293 ⟨.fn,1,8,[.fn],.bool⟩ (.node (.node (.node .leaf 294 ⟨.fn,1,8,[.fn],.bool⟩ .leaf) 300 ⟨.int .u8,1,1,[.int .u8],.int .u8⟩ (.node .leaf 301 ⟨.int .u8,1,1,[.int .u8],.int .u8⟩ .leaf)) 302 ⟨.fn,1,8,[.fn],.bool⟩ (.node (.node .leaf 303 ⟨.ptr 5,1,8,[.ptr],.bool⟩ .leaf) 304 ⟨.int .i32,1,4,[.int .i32],.int .i32⟩ (.node .leaf 305 ⟨.int .i32,1,4,[.int .i32],.int .i32⟩ .leaf))))))))
theorem T01ok:T01.ok prog = true:=by kernel_rfl
def E01:Ev:=fun t=>T01.look t
theorem hE:∀ t i,E01 t = some i→TIok prog t i:=fun t i h=>TT.ok_look T01 t i T01ok h
theorem hm:prog.follows .mixedOrders = true:=by kernel_rfl
end Go.Proofs.Tryz
namespace Go.Proofs.Tryz
open Go Go.VM
theorem at19:prog.funcs[64]? = some f64:=by kernel_rfl
def pl19:Nat→Plan
 | _=>[]
noncomputable def D19 (ann:Nat→LAnn):FnD:=⟨f64.body.getD .skip,f64.ntmps,f64.results.toList,pl19,ann⟩
theorem fnok19 (ann:Nat→LAnn):FnOk prog 64 (D19 ann):=⟨f64,at19,by kernel_rfl,by kernel_rfl,rfl,rfl,by kernel_rfl⟩
theorem at20:prog.funcs[50]? = some f50:=by kernel_rfl
def pl20:Nat→Plan
 | 1=>[(7,[]),(0,[7]),(1,[7,0]),(2,[7,0]),(3,[7]),(4,[7,0,1,2,3]),(5,[7,0,1,2,3]),(6,[7]),(8,[])]
 | 5=>[(0,[]),(1,[]),(2,[0,1]),(3,[0,1,2]),(4,[0,1,2]),(5,[0,1,2,3,4]),(6,[0,1,2]),(7,[0,1,2]),(8,[0,1]),(9,[0,1]),(10,[]),(11,[]),(12,[])]
 | _=>[]
noncomputable def D20 (ann:Nat→LAnn):FnD:=⟨f50.body.getD .skip,f50.ntmps,f50.results.toList,pl20,ann⟩
theorem fnok20 (ann:Nat→LAnn):FnOk prog 50 (D20 ann):=⟨f50,at20,by kernel_rfl,by kernel_rfl,rfl,rfl,by kernel_rfl⟩
theorem at38:prog.funcs[98]? = some f98:=by kernel_rfl
def pl38:Nat→Plan
 | _=>[]
noncomputable def D38 (ann:Nat→LAnn):FnD:=⟨f98.body.getD .skip,f98.ntmps,f98.results.toList,pl38,ann⟩
theorem fnok38 (ann:Nat→LAnn):FnOk prog 98 (D38 ann):=⟨f98,at38,by kernel_rfl,by kernel_rfl,rfl,rfl,by kernel_rfl⟩
theorem at46:prog.funcs[71]? = some f71:=by kernel_rfl
def pl46:Nat→Plan
 | _=>[]
noncomputable def D46 (ann:Nat→LAnn):FnD:=⟨f71.body.getD .skip,f71.ntmps,f71.results.toList,pl46,ann⟩
theorem fnok46 (ann:Nat→LAnn):FnOk prog 71 (D46 ann):=⟨f71,at46,by kernel_rfl,by kernel_rfl,rfl,rfl,by kernel_rfl⟩
theorem at51:prog.funcs[69]? = some f69:=by kernel_rfl
def pl51:Nat→Plan
 | 18=>[(0,[]),(1,[0]),(2,[0,1]),(3,[0,1,2]),(4,[0,1]),(5,[0,1]),(6,[]),(7,[])]
 | _=>[]
noncomputable def D51 (ann:Nat→LAnn):FnD:=⟨f69.body.getD .skip,f69.ntmps,f69.results.toList,pl51,ann⟩
theorem fnok51 (ann:Nat→LAnn):FnOk prog 69 (D51 ann):=⟨f69,at51,by kernel_rfl,by kernel_rfl,rfl,rfl,by kernel_rfl⟩
theorem at54:prog.funcs[37]? = some f37:=by kernel_rfl
def pl54:Nat→Plan
 | _=>[]
noncomputable def D54 (ann:Nat→LAnn):FnD:=⟨f37.body.getD .skip,f37.ntmps,f37.results.toList,pl54,ann⟩
theorem fnok54 (ann:Nat→LAnn):FnOk prog 37 (D54 ann):=⟨f37,at54,by kernel_rfl,by kernel_rfl,rfl,rfl,by kernel_rfl⟩
theorem at62:prog.funcs[111]? = some f111:=by kernel_rfl
def pl62:Nat→Plan
 | _=>[]
noncomputable def D62 (ann:Nat→LAnn):FnD:=⟨f111.body.getD .skip,f111.ntmps,f111.results.toList,pl62,ann⟩
theorem fnok62 (ann:Nat→LAnn):FnOk prog 111 (D62 ann):=⟨f111,at62,by kernel_rfl,by kernel_rfl,rfl,rfl,by kernel_rfl⟩
theorem at63:prog.funcs[84]? = some f84:=by kernel_rfl
def pl63:Nat→Plan
 | _=>[]
noncomputable def D63 (ann:Nat→LAnn):FnD:=⟨f84.body.getD .skip,f84.ntmps,f84.results.toList,pl63,ann⟩
theorem fnok63 (ann:Nat→LAnn):FnOk prog 84 (D63 ann):=⟨f84,at63,by kernel_rfl,by kernel_rfl,rfl,rfl,by kernel_rfl⟩
theorem at64:prog.funcs[97]? = some f97:=by kernel_rfl
def pl64:Nat→Plan
 | _=>[]
noncomputable def D64 (ann:Nat→LAnn):FnD:=⟨f97.body.getD .skip,f97.ntmps,f97.results.toList,pl64,ann⟩
theorem fnok64 (ann:Nat→LAnn):FnOk prog 97 (D64 ann):=⟨f97,at64,by kernel_rfl,by kernel_rfl,rfl,rfl,by kernel_rfl⟩
theorem at66:prog.funcs[115]? = some f115:=by kernel_rfl
def pl66:Nat→Plan
 | 6=>[(0,[]),(1,[0]),(2,[0,1]),(3,[0]),(4,[0]),(5,[0]),(6,[]),(7,[]),(8,[0,1,2,3,4,5,6,7])]
 | 9=>[(8,[]),(0,[8]),(1,[8,0]),(2,[8,0,1]),(3,[8,0]),(4,[8,0]),(5,[8,0]),(6,[8,0,1,2,3,4,5]),(7,[8]),(9,[])]
 | _=>[]
noncomputable def D66 (ann:Nat→LAnn):FnD:=⟨f115.body.getD .skip,f115.ntmps,f115.results.toList,pl66,ann⟩
theorem fnok66 (ann:Nat→LAnn):FnOk prog 115 (D66 ann):=⟨f115,at66,by kernel_rfl,by kernel_rfl,rfl,rfl,by kernel_rfl⟩
theorem at69:prog.funcs[118]? = some f118:=by kernel_rfl
def pl69:Nat→Plan
 | _=>[]
noncomputable def D69 (ann:Nat→LAnn):FnD:=⟨f118.body.getD .skip,f118.ntmps,f118.results.toList,pl69,ann⟩
theorem fnok69 (ann:Nat→LAnn):FnOk prog 118 (D69 ann):=⟨f118,at69,by kernel_rfl,by kernel_rfl,rfl,rfl,by kernel_rfl⟩
theorem at70:prog.funcs[119]? = some f119:=by kernel_rfl
def pl70:Nat→Plan
 | 1=>[(0,[]),(1,[]),(2,[0,1]),(3,[0,1]),(4,[]),(5,[0,1,2,3,4]),(6,[0,1,2,3,4]),(7,[0,1,2,3,4,5,6]),(8,[0,1,2,3,4,5,6]),(9,[]),(10,[0,1,2,3,4,5,6,7,8,9]),(11,[0,1,2,3,4,5,6,7,8,9]),(12,[0,1,2,3,4,5,6,7,8,9,10,11]),(13,[0,1,2,3,4,5,6,7,8,9,10,11]),(14,[]),(15,[]),(16,[]),(17,[])]
 | _=>[]
noncomputable def D70 (ann:Nat→LAnn):FnD:=⟨f119.body.getD .skip,f119.ntmps,f119.results.toList,pl70,ann⟩
theorem fnok70 (ann:Nat→LAnn):FnOk prog 119 (D70 ann):=⟨f119,at70,by kernel_rfl,by kernel_rfl,rfl,rfl,by kernel_rfl⟩
theorem at71:prog.funcs[120]? = some f120:=by kernel_rfl
def pl71:Nat→Plan
 | 6=>[(0,[]),(1,[]),(2,[0,1]),(3,[0,1]),(4,[0,1]),(5,[0,1,2,3,4]),(6,[0,1]),(7,[0,1]),(8,[0,1]),(9,[]),(10,[])]
 | 10=>[(0,[]),(1,[]),(2,[0,1]),(3,[0,1]),(4,[0,1]),(5,[0,1]),(6,[]),(7,[0,1,2,3,4,5,6]),(8,[0,1,2,3,4,5,6]),(9,[0,1,2,3,4,5,6,7,8]),(10,[0,1,2,3,4,5,6,7,8]),(11,[]),(12,[9,10,11]),(13,[]),(14,[]),(15,[])]
 | _=>[]
noncomputable def D71 (ann:Nat→LAnn):FnD:=⟨f120.body.getD .skip,f120.ntmps,f120.results.toList,pl71,ann⟩
theorem fnok71 (ann:Nat→LAnn):FnOk prog 120 (D71 ann):=⟨f120,at71,by kernel_rfl,by kernel_rfl,rfl,rfl,by kernel_rfl⟩
theorem at74:prog.funcs[109]? = some f109:=by kernel_rfl
def pl74:Nat→Plan
 | 7=>[(0,[]),(1,[]),(2,[0,1]),(3,[]),(4,[]),(5,[0,1,2,3,4]),(6,[0,1,2,3,4]),(7,[0,1,2,3,4,5,6]),(8,[0,1,2,3,4]),(9,[0,1,2,3,4]),(10,[]),(11,[])]
 | 12=>[(0,[]),(1,[]),(2,[0,1]),(3,[]),(4,[]),(5,[])]
 | _=>[]
noncomputable def D74 (ann:Nat→LAnn):FnD:=⟨f109.body.getD .skip,f109.ntmps,f109.results.toList,pl74,ann⟩
theorem fnok74 (ann:Nat→LAnn):FnOk prog 109 (D74 ann):=⟨f109,at74,by kernel_rfl,by kernel_rfl,rfl,rfl,by kernel_rfl⟩
theorem at75:prog.funcs[110]? = some f110:=by kernel_rfl
def pl75:Nat→Plan
 | 4=>[(0,[]),(1,[0]),(2,[]),(3,[]),(4,[0,1,2,3]),(5,[0,1,2,3,4]),(6,[0,1,2,3]),(7,[0,1,2,3]),(8,[])]
 | 6=>[(0,[]),(1,[0]),(2,[]),(3,[]),(4,[0,1,2,3]),(5,[0,1,2,3,4]),(6,[0,1,2,3]),(7,[0,1,2,3]),(8,[])]
 | _=>[]
noncomputable def D75 (ann:Nat→LAnn):FnD:=⟨f110.body.getD .skip,f110.ntmps,f110.results.toList,pl75,ann⟩
theorem fnok75 (ann:Nat→LAnn):FnOk prog 110 (D75 ann):=⟨f110,at75,by kernel_rfl,by kernel_rfl,rfl,rfl,by kernel_rfl⟩
theorem at76:prog.funcs[113]? = some f113:=by kernel_rfl
def pl76:Nat→Plan
 | _=>[]
noncomputable def D76 (ann:Nat→LAnn):FnD:=⟨f113.body.getD .skip,f113.ntmps,f113.results.toList,pl76,ann⟩
theorem fnok76 (ann:Nat→LAnn):FnOk prog 113 (D76 ann):=⟨f113,at76,by kernel_rfl,by kernel_rfl,rfl,rfl,by kernel_rfl⟩
theorem at77:prog.funcs[143]? = some f143:=by kernel_rfl
def pl77:Nat→Plan
 | _=>[]
noncomputable def D77 (ann:Nat→LAnn):FnD:=⟨f143.body.getD .skip,f143.ntmps,f143.results.toList,pl77,ann⟩
theorem fnok77 (ann:Nat→LAnn):FnOk prog 143 (D77 ann):=⟨f143,at77,by kernel_rfl,by kernel_rfl,rfl,rfl,by kernel_rfl⟩
theorem at78:prog.funcs[144]? = some f144:=by kernel_rfl
def pl78:Nat→Plan
 | _=>[]
noncomputable def D78 (ann:Nat→LAnn):FnD:=⟨f144.body.getD .skip,f144.ntmps,f144.results.toList,pl78,ann⟩
theorem fnok78 (ann:Nat→LAnn):FnOk prog 144 (D78 ann):=⟨f144,at78,by kernel_rfl,by kernel_rfl,rfl,rfl,by kernel_rfl⟩
theorem at79:prog.funcs[99]? = some f99:=by kernel_rfl
def pl79:Nat→Plan
 | 4=>[(0,[]),(1,[]),(2,[0,1]),(3,[0,1]),(4,[0,1]),(5,[]),(6,[]),(7,[])]
 | _=>[]
noncomputable def D79 (ann:Nat→LAnn):FnD:=⟨f99.body.getD .skip,f99.ntmps,f99.results.toList,pl79,ann⟩
theorem fnok79 (ann:Nat→LAnn):FnOk prog 99 (D79 ann):=⟨f99,at79,by kernel_rfl,by kernel_rfl,rfl,rfl,by kernel_rfl⟩
theorem at80:prog.funcs[154]? = some f154:=by kernel_rfl
def pl80:Nat→Plan
 | _=>[]
noncomputable def D80 (ann:Nat→LAnn):FnD:=⟨f154.body.getD .skip,f154.ntmps,f154.results.toList,pl80,ann⟩
theorem fnok80 (ann:Nat→LAnn):FnOk prog 154 (D80 ann):=⟨f154,at80,by kernel_rfl,by kernel_rfl,rfl,rfl,by kernel_rfl⟩
theorem at81:prog.funcs[155]? = some f155:=by kernel_rfl
def pl81:Nat→Plan
 | _=>[]
noncomputable def D81 (ann:Nat→LAnn):FnD:=⟨f155.body.getD .skip,f155.ntmps,f155.results.toList,pl81,ann⟩
theorem fnok81 (ann:Nat→LAnn):FnOk prog 155 (D81 ann):=⟨f155,at81,by kernel_rfl,by kernel_rfl,rfl,rfl,by kernel_rfl⟩
theorem at82:prog.funcs[156]? = some f156:=by kernel_rfl
def pl82:Nat→Plan
 | _=>[]
noncomputable def D82 (ann:Nat→LAnn):FnD:=⟨f156.body.getD .skip,f156.ntmps,f156.results.toList,pl82,ann⟩
theorem fnok82 (ann:Nat→LAnn):FnOk prog 156 (D82 ann):=⟨f156,at82,by kernel_rfl,by kernel_rfl,rfl,rfl,by kernel_rfl⟩
theorem at83:prog.funcs[157]? = some f157:=by kernel_rfl
def pl83:Nat→Plan
 | _=>[]
noncomputable def D83 (ann:Nat→LAnn):FnD:=⟨f157.body.getD .skip,f157.ntmps,f157.results.toList,pl83,ann⟩
theorem fnok83 (ann:Nat→LAnn):FnOk prog 157 (D83 ann):=⟨f157,at83,by kernel_rfl,by kernel_rfl,rfl,rfl,by kernel_rfl⟩
theorem at84:prog.funcs[158]? = some f158:=by kernel_rfl
def pl84:Nat→Plan
 | _=>[]
noncomputable def D84 (ann:Nat→LAnn):FnD:=⟨f158.body.getD .skip,f158.ntmps,f158.results.toList,pl84,ann⟩
theorem fnok84 (ann:Nat→LAnn):FnOk prog 158 (D84 ann):=⟨f158,at84,by kernel_rfl,by kernel_rfl,rfl,rfl,by kernel_rfl⟩
theorem at85:prog.funcs[159]? = some f159:=by kernel_rfl
def pl85:Nat→Plan
 | _=>[]
noncomputable def D85 (ann:Nat→LAnn):FnD:=⟨f159.body.getD .skip,f159.ntmps,f159.results.toList,pl85,ann⟩
theorem fnok85 (ann:Nat→LAnn):FnOk prog 159 (D85 ann):=⟨f159,at85,by kernel_rfl,by kernel_rfl,rfl,rfl,by kernel_rfl⟩
theorem at86:prog.funcs[151]? = some f151:=by kernel_rfl
def pl86:Nat→Plan
 | _=>[]
noncomputable def D86 (ann:Nat→LAnn):FnD:=⟨f151.body.getD .skip,f151.ntmps,f151.results.toList,pl86,ann⟩
theorem fnok86 (ann:Nat→LAnn):FnOk prog 151 (D86 ann):=⟨f151,at86,by kernel_rfl,by kernel_rfl,rfl,rfl,by kernel_rfl⟩
theorem at87:prog.funcs[149]? = some f149:=by kernel_rfl
def pl87:Nat→Plan
 | _=>[]
noncomputable def D87 (ann:Nat→LAnn):FnD:=⟨f149.body.getD .skip,f149.ntmps,f149.results.toList,pl87,ann⟩
theorem fnok87 (ann:Nat→LAnn):FnOk prog 149 (D87 ann):=⟨f149,at87,by kernel_rfl,by kernel_rfl,rfl,rfl,by kernel_rfl⟩
theorem at90:prog.funcs[100]? = some f100:=by kernel_rfl
def pl90:Nat→Plan
 | _=>[]
noncomputable def D90 (ann:Nat→LAnn):FnD:=⟨f100.body.getD .skip,f100.ntmps,f100.results.toList,pl90,ann⟩
theorem fnok90 (ann:Nat→LAnn):FnOk prog 100 (D90 ann):=⟨f100,at90,by kernel_rfl,by kernel_rfl,rfl,rfl,by kernel_rfl⟩
theorem at92:prog.funcs[152]? = some f152:=by kernel_rfl
def pl92:Nat→Plan
 | _=>[]
noncomputable def D92 (ann:Nat→LAnn):FnD:=⟨f152.body.getD .skip,f152.ntmps,f152.results.toList,pl92,ann⟩
theorem fnok92 (ann:Nat→LAnn):FnOk prog 152 (D92 ann):=⟨f152,at92,by kernel_rfl,by kernel_rfl,rfl,rfl,by kernel_rfl⟩
theorem at96:prog.funcs[125]? = some f125:=by kernel_rfl
def pl96:Nat→Plan
 | _=>[]
noncomputable def D96 (ann:Nat→LAnn):FnD:=⟨f125.body.getD .skip,f125.ntmps,f125.results.toList,pl96,ann⟩
theorem fnok96 (ann:Nat→LAnn):FnOk prog 125 (D96 ann):=⟨f125,at96,by kernel_rfl,by kernel_rfl,rfl,rfl,by kernel_rfl⟩
theorem at97:prog.funcs[126]? = some f126:=by kernel_rfl
def pl97:Nat→Plan
 | _=>[]
noncomputable def D97 (ann:Nat→LAnn):FnD:=⟨f126.body.getD .skip,f126.ntmps,f126.results.toList,pl97,ann⟩
theorem fnok97 (ann:Nat→LAnn):FnOk prog 126 (D97 ann):=⟨f126,at97,by kernel_rfl,by kernel_rfl,rfl,rfl,by kernel_rfl⟩
theorem at98:prog.funcs[103]? = some f103:=by kernel_rfl
def pl98:Nat→Plan
 | _=>[]
noncomputable def D98 (ann:Nat→LAnn):FnD:=⟨f103.body.getD .skip,f103.ntmps,f103.results.toList,pl98,ann⟩
theorem fnok98 (ann:Nat→LAnn):FnOk prog 103 (D98 ann):=⟨f103,at98,by kernel_rfl,by kernel_rfl,rfl,rfl,by kernel_rfl⟩
theorem at99:prog.funcs[102]? = some f102:=by kernel_rfl
def pl99:Nat→Plan
 | 4=>[(0,[]),(1,[]),(2,[0,1]),(3,[0,1]),(4,[0,1]),(5,[0,1]),(6,[0,1]),(7,[0,1]),(8,[0,1]),(9,[0,1,2,3,4,5,6,7,8]),(10,[0,1,2,3,4,5,6,7,8]),(11,[0,1,2,3,4,5,6,7,8]),(12,[0,1,2,3,4,5,6,7,8]),(13,[0,1,2,3,4,5,6,7,8]),(14,[0,1,2,3,4,5,6,7,8]),(15,[0,1,2,3,4,5,6,7,8]),(16,[]),(17,[])]
 | 7=>[(13,[]),(0,[13]),(1,[13]),(2,[13]),(3,[13,0,1,2]),(4,[13,0,1,2]),(5,[13]),(6,[13]),(7,[13,0,1,2,3,4,5,6]),(8,[13,0,1,2,3,4,5,6]),(9,[13,0,1,2,3,4,5,6]),(10,[13,0,1,2,3,4,5,6]),(11,[13]),(12,[13]),(14,[])]
 | _=>[]
noncomputable def D99 (ann:Nat→LAnn):FnD:=⟨f102.body.getD .skip,f102.ntmps,f102.results.toList,pl99,ann⟩
theorem fnok99 (ann:Nat→LAnn):FnOk prog 102 (D99 ann):=⟨f102,at99,by kernel_rfl,by kernel_rfl,rfl,rfl,by kernel_rfl⟩
theorem at101:prog.funcs[233]? = some f233:=by kernel_rfl
def pl101:Nat→Plan
 | _=>[]
noncomputable def D101 (ann:Nat→LAnn):FnD:=⟨f233.body.getD .skip,f233.ntmps,f233.results.toList,pl101,ann⟩
theorem fnok101 (ann:Nat→LAnn):FnOk prog 233 (D101 ann):=⟨f233,at101,by kernel_rfl,by kernel_rfl,rfl,rfl,by kernel_rfl⟩
end Go.Proofs.Tryz
