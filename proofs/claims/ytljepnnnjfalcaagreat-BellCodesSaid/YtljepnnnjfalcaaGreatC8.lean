/- What functions of the weak memory compute, proved through the condition generator, and plain facts of it. Conditions: none of ours. -/
import Derived.Test.YtljepnnnjfalcaaGreatC7
set_option autoImplicit false
set_option maxRecDepth 100000
set_option linter.all false
namespace Go.Proofs.Tryz
open Go Go.VM
theorem at107:prog.funcs[173]? = some f173:=by kernel_rfl
def pl107:Nat→Plan
 | 6=>[(0,[]),(1,[0]),(2,[0,1]),(3,[0]),(4,[0]),(5,[0,1,2,3,4]),(6,[0,1,2,3,4,5]),(7,[0,1,2,3,4,5]),(8,[0,1,2,3,4]),(9,[0,1,2,3,4]),(10,[])]
 | 11=>[(0,[]),(1,[0]),(2,[0,1]),(3,[0]),(4,[0]),(5,[0,1,2,3,4]),(6,[0,1,2,3,4,5]),(7,[0,1,2,3,4,5]),(8,[0,1,2,3,4]),(9,[0,1,2,3,4]),(10,[]),(11,[])]
 | _=>[]
noncomputable def D107 (ann:Nat→LAnn):FnD:=⟨f173.body.getD .skip,f173.ntmps,f173.results.toList,pl107,ann⟩
theorem fnok107 (ann:Nat→LAnn):FnOk prog 173 (D107 ann):=⟨f173,at107,by kernel_rfl,by kernel_rfl,rfl,rfl,by kernel_rfl⟩
theorem at108:prog.funcs[174]? = some f174:=by kernel_rfl
def pl108:Nat→Plan
 | _=>[]
noncomputable def D108 (ann:Nat→LAnn):FnD:=⟨f174.body.getD .skip,f174.ntmps,f174.results.toList,pl108,ann⟩
theorem fnok108 (ann:Nat→LAnn):FnOk prog 174 (D108 ann):=⟨f174,at108,by kernel_rfl,by kernel_rfl,rfl,rfl,by kernel_rfl⟩
theorem at109:prog.funcs[177]? = some f177:=by kernel_rfl
def pl109:Nat→Plan
 | 5=>[(0,[]),(1,[0]),(2,[0]),(3,[0,1,2]),(4,[0,1,2]),(5,[0,1,2]),(6,[0,1,2,3,4,5]),(7,[0,1,2,3,4,5]),(8,[0,1,2,3,4,5]),(9,[0,1,2,3,4,5,6,7,8]),(10,[0,1,2,3,4,5,6,7,8]),(11,[0,1,2,3,4,5,6,7,8]),(12,[0]),(13,[]),(14,[])]
 | _=>[]
noncomputable def D109 (ann:Nat→LAnn):FnD:=⟨f177.body.getD .skip,f177.ntmps,f177.results.toList,pl109,ann⟩
theorem fnok109 (ann:Nat→LAnn):FnOk prog 177 (D109 ann):=⟨f177,at109,by kernel_rfl,by kernel_rfl,rfl,rfl,by kernel_rfl⟩
theorem at110:prog.funcs[161]? = some f161:=by kernel_rfl
def pl110:Nat→Plan
 | _=>[]
noncomputable def D110 (ann:Nat→LAnn):FnD:=⟨f161.body.getD .skip,f161.ntmps,f161.results.toList,pl110,ann⟩
theorem fnok110 (ann:Nat→LAnn):FnOk prog 161 (D110 ann):=⟨f161,at110,by kernel_rfl,by kernel_rfl,rfl,rfl,by kernel_rfl⟩
theorem at111:prog.funcs[122]? = some f122:=by kernel_rfl
def pl111:Nat→Plan
 | _=>[]
noncomputable def D111 (ann:Nat→LAnn):FnD:=⟨f122.body.getD .skip,f122.ntmps,f122.results.toList,pl111,ann⟩
theorem fnok111 (ann:Nat→LAnn):FnOk prog 122 (D111 ann):=⟨f122,at111,by kernel_rfl,by kernel_rfl,rfl,rfl,by kernel_rfl⟩
theorem at112:prog.funcs[124]? = some f124:=by kernel_rfl
def pl112:Nat→Plan
 | _=>[]
noncomputable def D112 (ann:Nat→LAnn):FnD:=⟨f124.body.getD .skip,f124.ntmps,f124.results.toList,pl112,ann⟩
theorem fnok112 (ann:Nat→LAnn):FnOk prog 124 (D112 ann):=⟨f124,at112,by kernel_rfl,by kernel_rfl,rfl,rfl,by kernel_rfl⟩
theorem at113:prog.funcs[167]? = some f167:=by kernel_rfl
def pl113:Nat→Plan
 | _=>[]
noncomputable def D113 (ann:Nat→LAnn):FnD:=⟨f167.body.getD .skip,f167.ntmps,f167.results.toList,pl113,ann⟩
theorem fnok113 (ann:Nat→LAnn):FnOk prog 167 (D113 ann):=⟨f167,at113,by kernel_rfl,by kernel_rfl,rfl,rfl,by kernel_rfl⟩
theorem at114:prog.funcs[178]? = some f178:=by kernel_rfl
def pl114:Nat→Plan
 | _=>[]
noncomputable def D114 (ann:Nat→LAnn):FnD:=⟨f178.body.getD .skip,f178.ntmps,f178.results.toList,pl114,ann⟩
theorem fnok114 (ann:Nat→LAnn):FnOk prog 178 (D114 ann):=⟨f178,at114,by kernel_rfl,by kernel_rfl,rfl,rfl,by kernel_rfl⟩
theorem at118:prog.funcs[171]? = some f171:=by kernel_rfl
def pl118:Nat→Plan
 | _=>[]
noncomputable def D118 (ann:Nat→LAnn):FnD:=⟨f171.body.getD .skip,f171.ntmps,f171.results.toList,pl118,ann⟩
theorem fnok118 (ann:Nat→LAnn):FnOk prog 171 (D118 ann):=⟨f171,at118,by kernel_rfl,by kernel_rfl,rfl,rfl,by kernel_rfl⟩
theorem at119:prog.funcs[187]? = some f187:=by kernel_rfl
def pl119:Nat→Plan
 | _=>[]
noncomputable def D119 (ann:Nat→LAnn):FnD:=⟨f187.body.getD .skip,f187.ntmps,f187.results.toList,pl119,ann⟩
theorem fnok119 (ann:Nat→LAnn):FnOk prog 187 (D119 ann):=⟨f187,at119,by kernel_rfl,by kernel_rfl,rfl,rfl,by kernel_rfl⟩
theorem at120:prog.funcs[188]? = some f188:=by kernel_rfl
def pl120:Nat→Plan
 | _=>[]
noncomputable def D120 (ann:Nat→LAnn):FnD:=⟨f188.body.getD .skip,f188.ntmps,f188.results.toList,pl120,ann⟩
theorem fnok120 (ann:Nat→LAnn):FnOk prog 188 (D120 ann):=⟨f188,at120,by kernel_rfl,by kernel_rfl,rfl,rfl,by kernel_rfl⟩
theorem at121:prog.funcs[189]? = some f189:=by kernel_rfl
def pl121:Nat→Plan
 | _=>[]
noncomputable def D121 (ann:Nat→LAnn):FnD:=⟨f189.body.getD .skip,f189.ntmps,f189.results.toList,pl121,ann⟩
theorem fnok121 (ann:Nat→LAnn):FnOk prog 189 (D121 ann):=⟨f189,at121,by kernel_rfl,by kernel_rfl,rfl,rfl,by kernel_rfl⟩
theorem at122:prog.funcs[185]? = some f185:=by kernel_rfl
def pl122:Nat→Plan
 | _=>[]
noncomputable def D122 (ann:Nat→LAnn):FnD:=⟨f185.body.getD .skip,f185.ntmps,f185.results.toList,pl122,ann⟩
theorem fnok122 (ann:Nat→LAnn):FnOk prog 185 (D122 ann):=⟨f185,at122,by kernel_rfl,by kernel_rfl,rfl,rfl,by kernel_rfl⟩
theorem at123:prog.funcs[160]? = some f160:=by kernel_rfl
def pl123:Nat→Plan
 | _=>[]
noncomputable def D123 (ann:Nat→LAnn):FnD:=⟨f160.body.getD .skip,f160.ntmps,f160.results.toList,pl123,ann⟩
theorem fnok123 (ann:Nat→LAnn):FnOk prog 160 (D123 ann):=⟨f160,at123,by kernel_rfl,by kernel_rfl,rfl,rfl,by kernel_rfl⟩
theorem at125:prog.funcs[180]? = some f180:=by kernel_rfl
def pl125:Nat→Plan
 | _=>[]
noncomputable def D125 (ann:Nat→LAnn):FnD:=⟨f180.body.getD .skip,f180.ntmps,f180.results.toList,pl125,ann⟩
theorem fnok125 (ann:Nat→LAnn):FnOk prog 180 (D125 ann):=⟨f180,at125,by kernel_rfl,by kernel_rfl,rfl,rfl,by kernel_rfl⟩
theorem at126:prog.funcs[163]? = some f163:=by kernel_rfl
def pl126:Nat→Plan
 | 1=>[(7,[]),(0,[7]),(1,[7]),(2,[7]),(3,[7,0,1,2]),(4,[7,0,1,2]),(5,[7]),(6,[7]),(8,[])]
 | 3=>[(0,[]),(1,[0]),(2,[0,1]),(3,[0,1,2]),(4,[0,1,2]),(5,[0,1,2]),(6,[0,1,2]),(7,[0,1,2]),(8,[0,1,2,3,4,5,6,7]),(9,[0,1,2,3,4,5,6,7]),(10,[0,1,2,3,4,5,6,7]),(11,[0,1,2,3,4,5,6,7]),(12,[0,1,2]),(13,[0,1,2,3,4,5,6,7,8,9,10,11,12]),(14,[0,1,2,3,4,5,6,7,8,9,10,11,12]),(15,[0,1,2,3,4,5,6,7,8,9,10,11,12]),(16,[0,1,2,3,4,5,6,7,8,9,10,11,12]),(17,[0,1,2]),(18,[1,2]),(19,[1,2]),(20,[1,2]),(21,[2]),(22,[2]),(23,[2]),(24,[]),(25,[]),(26,[])]
 | _=>[]
noncomputable def D126 (ann:Nat→LAnn):FnD:=⟨f163.body.getD .skip,f163.ntmps,f163.results.toList,pl126,ann⟩
theorem fnok126 (ann:Nat→LAnn):FnOk prog 163 (D126 ann):=⟨f163,at126,by kernel_rfl,by kernel_rfl,rfl,rfl,by kernel_rfl⟩
theorem at127:prog.funcs[164]? = some f164:=by kernel_rfl
def pl127:Nat→Plan
 | 6=>[(0,[]),(1,[]),(2,[]),(3,[]),(4,[0,1,2,3]),(5,[0,1,2,3]),(6,[]),(7,[]),(8,[])]
 | 9=>[(0,[]),(1,[0]),(2,[0]),(3,[0]),(4,[0]),(5,[0,1,2,3,4]),(6,[0,1,2,3,4]),(7,[0,1,2,3,4]),(8,[0,1,2,3,4]),(9,[0,1,2,3,4,5,6,7,8]),(10,[0,1,2,3,4,5,6,7,8]),(11,[0,1,2,3,4]),(12,[0,1,2,3,4]),(13,[0,1,2,3,4]),(14,[0]),(15,[]),(16,[]),(17,[])]
 | 10=>[(0,[]),(1,[0]),(2,[0]),(3,[0]),(4,[0]),(5,[0]),(6,[0]),(7,[1,2,3,4,5,6]),(8,[])]
 | 15=>[(0,[]),(1,[]),(2,[]),(3,[0,1,2]),(4,[0,1,2]),(5,[0,1,2]),(6,[0,1,2,3,4,5]),(7,[]),(8,[]),(9,[]),(10,[9]),(11,[10]),(12,[])]
 | 17=>[(10,[10]),(0,[]),(1,[0]),(2,[0]),(3,[]),(4,[0,1,2,3]),(5,[0,1,2,3,4]),(6,[0,1,2,3,4,5]),(7,[0,1,2,3,4,5,6]),(8,[0,1,2,3,4,5,6,7]),(9,[0,1,2,3,4,5,6])]
 | 26=>[(0,[]),(1,[]),(2,[]),(3,[]),(4,[0,1,2,3]),(5,[]),(6,[]),(7,[]),(8,[7]),(9,[8]),(10,[])]
 | 27=>[(0,[]),(1,[]),(2,[]),(3,[]),(4,[0,1,2,3]),(5,[0,1,2,3]),(6,[0,1,2,3,4,5]),(7,[]),(8,[])]
 | _=>[]
noncomputable def D127 (ann:Nat→LAnn):FnD:=⟨f164.body.getD .skip,f164.ntmps,f164.results.toList,pl127,ann⟩
theorem fnok127 (ann:Nat→LAnn):FnOk prog 164 (D127 ann):=⟨f164,at127,by kernel_rfl,by kernel_rfl,rfl,rfl,by kernel_rfl⟩
theorem at129:prog.funcs[238]? = some f238:=by kernel_rfl
def pl129:Nat→Plan
 | _=>[]
noncomputable def D129 (ann:Nat→LAnn):FnD:=⟨f238.body.getD .skip,f238.ntmps,f238.results.toList,pl129,ann⟩
theorem fnok129 (ann:Nat→LAnn):FnOk prog 238 (D129 ann):=⟨f238,at129,by kernel_rfl,by kernel_rfl,rfl,rfl,by kernel_rfl⟩
theorem at133:prog.funcs[211]? = some f211:=by kernel_rfl
def pl133:Nat→Plan
 | _=>[]
noncomputable def D133 (ann:Nat→LAnn):FnD:=⟨f211.body.getD .skip,f211.ntmps,f211.results.toList,pl133,ann⟩
theorem fnok133 (ann:Nat→LAnn):FnOk prog 211 (D133 ann):=⟨f211,at133,by kernel_rfl,by kernel_rfl,rfl,rfl,by kernel_rfl⟩
theorem at134:prog.funcs[212]? = some f212:=by kernel_rfl
def pl134:Nat→Plan
 | _=>[]
noncomputable def D134 (ann:Nat→LAnn):FnD:=⟨f212.body.getD .skip,f212.ntmps,f212.results.toList,pl134,ann⟩
theorem fnok134 (ann:Nat→LAnn):FnOk prog 212 (D134 ann):=⟨f212,at134,by kernel_rfl,by kernel_rfl,rfl,rfl,by kernel_rfl⟩
theorem at135:prog.funcs[191]? = some f191:=by kernel_rfl
def pl135:Nat→Plan
 | _=>[]
noncomputable def D135 (ann:Nat→LAnn):FnD:=⟨f191.body.getD .skip,f191.ntmps,f191.results.toList,pl135,ann⟩
theorem fnok135 (ann:Nat→LAnn):FnOk prog 191 (D135 ann):=⟨f191,at135,by kernel_rfl,by kernel_rfl,rfl,rfl,by kernel_rfl⟩
theorem at136:prog.funcs[192]? = some f192:=by kernel_rfl
def pl136:Nat→Plan
 | 1=>[(11,[]),(0,[11]),(1,[11]),(2,[11,0,1]),(3,[11]),(4,[11]),(5,[11,0,1,2,3,4]),(6,[11,0,1,2,3,4]),(7,[11,0,1,2,3,4]),(8,[11,0,1,2,3,4,5,6,7]),(9,[11,0,1,2,3,4]),(10,[11,0,1,2,3,4]),(12,[5,6,7,8,9,10]),(13,[])]
 | 2=>[(0,[]),(1,[]),(2,[]),(3,[]),(4,[]),(5,[]),(6,[4,5]),(7,[4,5]),(8,[]),(9,[]),(10,[]),(11,[]),(12,[11]),(13,[11,12]),(14,[11,12,13]),(15,[11,12,13,14]),(16,[11,12,13,14]),(17,[11,12,13]),(18,[11,12,13]),(19,[]),(20,[]),(21,[]),(22,[])]
 | _=>[]
noncomputable def D136 (ann:Nat→LAnn):FnD:=⟨f192.body.getD .skip,f192.ntmps,f192.results.toList,pl136,ann⟩
theorem fnok136 (ann:Nat→LAnn):FnOk prog 192 (D136 ann):=⟨f192,at136,by kernel_rfl,by kernel_rfl,rfl,rfl,by kernel_rfl⟩
theorem at137:prog.funcs[123]? = some f123:=by kernel_rfl
def pl137:Nat→Plan
 | _=>[]
noncomputable def D137 (ann:Nat→LAnn):FnD:=⟨f123.body.getD .skip,f123.ntmps,f123.results.toList,pl137,ann⟩
theorem fnok137 (ann:Nat→LAnn):FnOk prog 123 (D137 ann):=⟨f123,at137,by kernel_rfl,by kernel_rfl,rfl,rfl,by kernel_rfl⟩
theorem at138:prog.funcs[213]? = some f213:=by kernel_rfl
def pl138:Nat→Plan
 | _=>[]
noncomputable def D138 (ann:Nat→LAnn):FnD:=⟨f213.body.getD .skip,f213.ntmps,f213.results.toList,pl138,ann⟩
theorem fnok138 (ann:Nat→LAnn):FnOk prog 213 (D138 ann):=⟨f213,at138,by kernel_rfl,by kernel_rfl,rfl,rfl,by kernel_rfl⟩
theorem at140:prog.funcs[190]? = some f190:=by kernel_rfl
def pl140:Nat→Plan
 | _=>[]
noncomputable def D140 (ann:Nat→LAnn):FnD:=⟨f190.body.getD .skip,f190.ntmps,f190.results.toList,pl140,ann⟩
theorem fnok140 (ann:Nat→LAnn):FnOk prog 190 (D140 ann):=⟨f190,at140,by kernel_rfl,by kernel_rfl,rfl,rfl,by kernel_rfl⟩
theorem at141:prog.funcs[193]? = some f193:=by kernel_rfl
def pl141:Nat→Plan
 | _=>[]
noncomputable def D141 (ann:Nat→LAnn):FnD:=⟨f193.body.getD .skip,f193.ntmps,f193.results.toList,pl141,ann⟩
theorem fnok141 (ann:Nat→LAnn):FnOk prog 193 (D141 ann):=⟨f193,at141,by kernel_rfl,by kernel_rfl,rfl,rfl,by kernel_rfl⟩
theorem at142:prog.funcs[194]? = some f194:=by kernel_rfl
def pl142:Nat→Plan
 | _=>[]
noncomputable def D142 (ann:Nat→LAnn):FnD:=⟨f194.body.getD .skip,f194.ntmps,f194.results.toList,pl142,ann⟩
theorem fnok142 (ann:Nat→LAnn):FnOk prog 194 (D142 ann):=⟨f194,at142,by kernel_rfl,by kernel_rfl,rfl,rfl,by kernel_rfl⟩
theorem at143:prog.funcs[195]? = some f195:=by kernel_rfl
def pl143:Nat→Plan
 | 1=>[(0,[]),(1,[]),(2,[0,1]),(3,[0,1]),(4,[]),(5,[]),(6,[0,1,2,3,4,5]),(7,[0,1,2,3,4,5]),(8,[]),(9,[])]
 | _=>[]
noncomputable def D143 (ann:Nat→LAnn):FnD:=⟨f195.body.getD .skip,f195.ntmps,f195.results.toList,pl143,ann⟩
theorem fnok143 (ann:Nat→LAnn):FnOk prog 195 (D143 ann):=⟨f195,at143,by kernel_rfl,by kernel_rfl,rfl,rfl,by kernel_rfl⟩
theorem at144:prog.funcs[196]? = some f196:=by kernel_rfl
def pl144:Nat→Plan
 | _=>[]
noncomputable def D144 (ann:Nat→LAnn):FnD:=⟨f196.body.getD .skip,f196.ntmps,f196.results.toList,pl144,ann⟩
theorem fnok144 (ann:Nat→LAnn):FnOk prog 196 (D144 ann):=⟨f196,at144,by kernel_rfl,by kernel_rfl,rfl,rfl,by kernel_rfl⟩
theorem at145:prog.funcs[197]? = some f197:=by kernel_rfl
def pl145:Nat→Plan
 | 1=>[(0,[]),(1,[0]),(2,[0]),(3,[]),(4,[]),(5,[0,1,2,3,4]),(6,[0,1,2,3,4,5]),(7,[0,1,2,3,4,5]),(8,[0,1,2,3,4]),(9,[0,1,2,3,4]),(10,[5,6,7,8,9]),(11,[])]
 | _=>[]
noncomputable def D145 (ann:Nat→LAnn):FnD:=⟨f197.body.getD .skip,f197.ntmps,f197.results.toList,pl145,ann⟩
theorem fnok145 (ann:Nat→LAnn):FnOk prog 197 (D145 ann):=⟨f197,at145,by kernel_rfl,by kernel_rfl,rfl,rfl,by kernel_rfl⟩
theorem at157:prog.funcs[214]? = some f214:=by kernel_rfl
def pl157:Nat→Plan
 | _=>[]
noncomputable def D157 (ann:Nat→LAnn):FnD:=⟨f214.body.getD .skip,f214.ntmps,f214.results.toList,pl157,ann⟩
theorem fnok157 (ann:Nat→LAnn):FnOk prog 214 (D157 ann):=⟨f214,at157,by kernel_rfl,by kernel_rfl,rfl,rfl,by kernel_rfl⟩
theorem at160:prog.funcs[215]? = some f215:=by kernel_rfl
def pl160:Nat→Plan
 | 1=>[(0,[]),(1,[]),(2,[]),(3,[]),(4,[0,1,2,3]),(5,[0,1,2,3]),(6,[0,1,2,3]),(7,[0,1,2,3,4,5,6]),(8,[0,1,2,3,4,5,6]),(9,[0,1,2,3,4,5,6]),(10,[0,1,2,3,4,5,6,7,8,9]),(11,[0,1,2,3,4,5,6,7,8,9]),(12,[0,1,2,3,4,5,6,7,8,9]),(13,[0,1,2,3,4,5,6,7,8,9,10,11,12]),(14,[0,1,2,3,4,5,6,7,8,9,10,11,12]),(15,[0,1,2,3,4,5,6]),(16,[]),(17,[])]
 | _=>[]
noncomputable def D160 (ann:Nat→LAnn):FnD:=⟨f215.body.getD .skip,f215.ntmps,f215.results.toList,pl160,ann⟩
theorem fnok160 (ann:Nat→LAnn):FnOk prog 215 (D160 ann):=⟨f215,at160,by kernel_rfl,by kernel_rfl,rfl,rfl,by kernel_rfl⟩
theorem at161:prog.funcs[216]? = some f216:=by kernel_rfl
def pl161:Nat→Plan
 | 2=>[(0,[]),(1,[]),(2,[]),(3,[]),(4,[0,1,2,3]),(5,[0,1,2,3]),(6,[0,1,2,3,4,5]),(7,[0,1,2,3,4,5]),(8,[0,1,2,3,4,5]),(9,[0,1,2,3,4,5]),(10,[0,1,2,3,4,5,6,7,8,9]),(11,[0,1,2,3,4,5,6,7,8,9]),(12,[0,1,2,3,4,5,6,7,8,9]),(13,[0,1,2,3,4,5]),(14,[0,1,2,3,4,5]),(15,[]),(16,[])]
 | 3=>[(0,[]),(1,[0]),(2,[0]),(3,[0]),(4,[0]),(5,[0,1,2,3,4]),(6,[0,1,2,3,4]),(7,[0,1,2,3,4,5,6]),(8,[0,1,2,3,4,5,6]),(9,[0,1,2,3,4,5,6]),(10,[0,1,2,3,4,5,6]),(11,[0,1,2,3,4,5,6,7,8,9,10]),(12,[0,1,2,3,4,5,6,7,8,9,10]),(13,[0,1,2,3,4,5,6,7,8,9,10]),(14,[0,1,2,3,4,5,6]),(15,[0,1,2,3,4,5,6]),(16,[0,1,2,3,4]),(17,[0,1,2,3,4]),(18,[0]),(19,[]),(20,[]),(21,[])]
 | _=>[]
noncomputable def D161 (ann:Nat→LAnn):FnD:=⟨f216.body.getD .skip,f216.ntmps,f216.results.toList,pl161,ann⟩
theorem fnok161 (ann:Nat→LAnn):FnOk prog 216 (D161 ann):=⟨f216,at161,by kernel_rfl,by kernel_rfl,rfl,rfl,by kernel_rfl⟩
theorem at162:prog.funcs[217]? = some f217:=by kernel_rfl
def pl162:Nat→Plan
 | 1=>[(0,[]),(1,[]),(2,[]),(3,[]),(4,[0,1,2,3]),(5,[0,1,2,3]),(6,[]),(7,[]),(8,[0,1,2,3,4,5,6,7]),(9,[0,1,2,3,4,5,6,7]),(10,[0,1,2,3,4,5,6,7]),(11,[0,1,2,3,4,5,6,7]),(12,[0,1,2,3,4,5,6,7,8,9,10,11]),(13,[0,1,2,3,4,5,6,7,8,9,10,11]),(14,[0,1,2,3,4,5,6,7,8,9,10,11]),(15,[0,1,2,3,4,5,6,7]),(16,[0,1,2,3,4,5,6,7]),(17,[]),(18,[])]
 | 3=>[(0,[]),(1,[]),(2,[]),(3,[]),(4,[0,1,2,3]),(5,[0,1,2,3]),(6,[0,1,2,3,4,5]),(7,[0,1,2,3,4,5]),(8,[0,1,2,3,4,5]),(9,[0,1,2,3,4,5]),(10,[0,1,2,3,4,5,6,7,8,9]),(11,[0,1,2,3,4,5,6,7,8,9]),(12,[0,1,2,3,4,5,6,7,8,9]),(13,[0,1,2,3,4,5]),(14,[0,1,2,3,4,5]),(15,[]),(16,[])]
 | 4=>[(0,[]),(1,[]),(2,[]),(3,[]),(4,[0,1,2,3]),(5,[0,1,2,3]),(6,[0,1,2,3]),(7,[0,1,2,3,4,5,6]),(8,[0,1,2,3,4,5,6]),(9,[]),(10,[])]
 | _=>[]
noncomputable def D162 (ann:Nat→LAnn):FnD:=⟨f217.body.getD .skip,f217.ntmps,f217.results.toList,pl162,ann⟩
theorem fnok162 (ann:Nat→LAnn):FnOk prog 217 (D162 ann):=⟨f217,at162,by kernel_rfl,by kernel_rfl,rfl,rfl,by kernel_rfl⟩
theorem at163:prog.funcs[218]? = some f218:=by kernel_rfl
def pl163:Nat→Plan
 | _=>[]
noncomputable def D163 (ann:Nat→LAnn):FnD:=⟨f218.body.getD .skip,f218.ntmps,f218.results.toList,pl163,ann⟩
theorem fnok163 (ann:Nat→LAnn):FnOk prog 218 (D163 ann):=⟨f218,at163,by kernel_rfl,by kernel_rfl,rfl,rfl,by kernel_rfl⟩
theorem at158:prog.funcs[179]? = some f179:=by kernel_rfl
def pl158:Nat→Plan
 | _=>[]
noncomputable def D158 (ann:Nat→LAnn):FnD:=⟨f179.body.getD .skip,f179.ntmps,f179.results.toList,pl158,ann⟩
theorem fnok158 (ann:Nat→LAnn):FnOk prog 179 (D158 ann):=⟨f179,at158,by kernel_rfl,by kernel_rfl,rfl,rfl,by kernel_rfl⟩
theorem at159:prog.funcs[232]? = some f232:=by kernel_rfl
def pl159:Nat→Plan
 | _=>[]
noncomputable def D159 (ann:Nat→LAnn):FnD:=⟨f232.body.getD .skip,f232.ntmps,f232.results.toList,pl159,ann⟩
theorem fnok159 (ann:Nat→LAnn):FnOk prog 232 (D159 ann):=⟨f232,at159,by kernel_rfl,by kernel_rfl,rfl,rfl,by kernel_rfl⟩
end Go.Proofs.Tryz
