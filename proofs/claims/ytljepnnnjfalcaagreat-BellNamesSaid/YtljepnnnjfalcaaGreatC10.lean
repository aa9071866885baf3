/- What functions of the weak memory compute, proved through the condition generator, and plain facts of it. Conditions: none of ours. -/
import Derived.Test.YtljepnnnjfalcaaGreatC8
import Derived.Test.YtljepnnnjfalcaaGreatC9
set_option autoImplicit false
set_option maxRecDepth 100000
set_option linter.all false
namespace Go.Proofs.Tryz
open Go Go.VM
abbrev It:Ty:=.int .i64
abbrev U8:Ty:=.int .u8
abbrev U16:Ty:=.int .u16
abbrev Kp:Ty:=.pair It It
abbrev Th:Ty:=.pair It (.pair (.sl It) (.pair (.sl Kp) (.pair (.sl It) .bool)))
abbrev Sta:Ty:=.pair (.sl It) (.sl Th)
abbrev In:Ty:=.pair U8 (.pair It (.pair It (.pair It (.pair It It))))
abbrev Wk:Ty:=.pair (.sl It) (.pair (.sl (.sl In)) It)
abbrev Mc:Ty:=.pair Wk .bool
abbrev Mv:Ty:=.pair It .bool
abbrev En:Ty:=.pair (.sl It) (.pair (.sl (.sl It)) (.sl U8))
abbrev Mt:Ty:=.pair Sta (.pair It It)
abbrev KpD:=Int × Int
abbrev ThD:=Int × List Int × List KpD × List Int × Bool
abbrev StD:=List Int × List ThD
abbrev InD:=Int × Int × Int × Int × Int × Int
abbrev WkD:=List Int × List (List InD) × Int
abbrev McD:=WkD × Bool
abbrev MvD:=Int × Bool
abbrev EnD:=List Int × List (List Int) × List Int
abbrev MtD:=StD × Int × Int
structure BxF where
 within:Int→Int→Int→Bool
 isNum:Int→Bool
 truth:Bool→Int
 has:ByteArray→Int→Bool
 fields:Int→ByteArray
 shape:Int→Int × Bool
 isIns:InD→Int→Bool
 worked:List Int→InD→Int × Bool
 place:StD→ThD→InD→Int × Bool
 value:InD→Int→Int→Int × Bool
 sees:StD→ThD→Int→Int
 pRegs:List Int→InD→Prop
 pPlace:StD→ThD→InD→Prop
 pSees:StD→ThD→Int→Prop
 back:List KpD→List (Int × KpD × Unit)
 pBack:List KpD→Prop
 see:StD→Int→Int→Int
 pSee:StD→Int→Int→Prop
 waits:McD→StD→ThD→InD→Bool
 pW:McD→StD→ThD→InD→Prop
 can:McD→StD→Int→Bool
 pC:McD→StD→Int→Prop
 each:StD→McD→List (MvD × Unit)
 pE:StD→McD→Prop
 moves:McD→StD→List MvD
 ended:McD→StD→Bool
 endOf:McD→StD→EnD
 pEnd:McD→StD→Prop
 first:WkD→StD
 pFirst:WkD→Prop
 pHas:ByteArray→Prop
 pLi:List Int→Prop
 pLt:List ThD→Prop
 pLk:List KpD→Prop
 doo:McD→StD→MvD→StD
 pDo:McD→StD→MvD→Prop
 step:McD→StD→Int→InD→Int × Bool
 bl:List Int→Prop
 bw:WkD→Prop
 bs:StD→Prop
 be:EnD→Prop
 ble:List EnD→Prop
 nums:List Int→Bool
 check:WkD→Int
 isTh:WkD→Int→ThD→Bool
 pTh:WkD→Int→ThD→Prop
 isSt:WkD→StD→Bool
 pSt:WkD→StD→Prop
 ckSt:WkD→StD→Int
 begE:WkD→StD × Int
 mvE:WkD→StD→List MvD × Int
 ok:WkD→StD→Prop
 okD:WkD→StD→MvD→Prop
 okT:WkD→StD→Int→Prop
 doE:WkD→StD→MvD→StD × Int
 endE:WkD→StD→EnD × Int
 endR:WkD→StD→EnD × Bool
 seesE:WkD→StD→Int→List Int × Int
 runE:WkD→List Int→StD × Int × Int
 runR:WkD→List Int→StD × Int × Bool
 pRunR:WkD→List Int→Prop
 fenE:WkD→WkD × Int
 fenR:WkD→WkD × Bool
 okW:WkD→Prop
 sameL:List Int→List Int→Bool
 sameE:EnD→EnD→Bool
 sameEs:List EnD→List EnD→Bool
 sameS:StD→StD→Bool
 sameW:WkD→WkD→Bool
 sameM:List MvD→List MvD→Bool
 sameK:List KpD→List KpD→Bool
 bm:List MvD→Prop
 bk:List KpD→Prop
 isMv:List MvD→MvD→Bool
 isIn:List EnD→EnD→Bool
 cmpL:List Int→List Int→Int
 cmpLL:List (List Int)→List (List Int)→Int
 cmpE:EnD→EnD→Int
 cmpR:List Int→List Int→Int
 cmpRE:EnD→EnD→Int
 hows:EnD→List Int
 thin:WkD→Bool
 long:WkD→Bool
 thinS:StD→Bool
 bwT:WkD→Prop
 pCl:StD→Int→Prop
 or1:List Int→Int
 bll:List (List Int)→Prop
 put:List Int→List Int→List Int
 pPut:List Int→List Int→Prop
 comp:List EnD→List EnD
 sort:List EnD→List EnD
 rev:List Int→List Int
 key:StD→ByteArray
 pKey:StD→Prop
 all:McD→List MtD × Int
 okM:McD→Prop
 ends:McD→List EnD × Int × Int
 bM:McD→Prop
 way:WkD→EnD→List Int × Int
 pWay:WkD→EnD→Prop
 over:WkD→StD→Int→Bool
 waR:WkD→StD→Int→Bool
 okW2:WkD→StD→Int→Prop
 bsT:StD→Prop
variable (F:BxF)
def S86:VM.Spec:=⟨[It,It,It],[.bool],fun _=>True,fun x=>(F.within x.1 x.2.1 x.2.2.1,())⟩
def S92:VM.Spec:=⟨[It],[.bool],fun _=>True,fun x=>(F.isNum x.1,())⟩
def S134:VM.Spec:=⟨[.bool],[It],fun _=>True,fun x=>(F.truth x.1,())⟩
def S77:VM.Spec:=⟨[.str,U8],[.bool],fun x=>F.pHas x.1,fun x=>(F.has x.1 x.2.1,())⟩
def S78:VM.Spec:=⟨[U8],[.str],fun _=>True,fun x=>(F.fields x.1,())⟩
def S120:VM.Spec:=⟨[U8],[U16,.bool],fun _=>True,fun x=>((F.shape x.1).1,(F.shape x.1).2,())⟩
def S84:VM.Spec:=⟨[In,It],[.bool],fun _=>True,fun x=>(F.isIns x.1 x.2.1,())⟩
def S145:VM.Spec:=⟨[.sl It,In],[It,.bool],fun x=>F.pRegs x.1 x.2.1,fun x=>((F.worked x.1 x.2.1).1,(F.worked x.1 x.2.1).2,())⟩
def S143:VM.Spec:=⟨[Sta,Th,In],[It,.bool],fun x=>F.pPlace x.1 x.2.1 x.2.2.1,fun x=>((F.place x.1 x.2.1 x.2.2.1).1,(F.place x.1 x.2.1 x.2.2.1).2,())⟩
def S103:VM.Spec:=⟨[In,It,It],[It,.bool],fun _=>True,fun x=>((F.value x.1 x.2.1 x.2.2.1).1,(F.value x.1 x.2.1 x.2.2.1).2,())⟩
def S101:VM.Spec:=⟨[Sta,Th,It],[It],fun x=>F.pSees x.1 x.2.1 x.2.2.1,fun x=>(F.sees x.1 x.2.1 x.2.2.1,())⟩
def S99:VM.Spec:=⟨[Mc,Sta,Mv],[Sta],fun x=>F.pDo x.1 x.2.1 x.2.2.1,fun x=>(F.doo x.1 x.2.1 x.2.2.1,())⟩
theorem at146:prog.funcs[240]? = some f240:=by kernel_rfl
noncomputable def D146 (ann:Nat→LAnn):FnD:=⟨f240.body.getD .skip,f240.ntmps,f240.results.toList,fun _=>[],ann⟩
theorem fnok146 (ann:Nat→LAnn):FnOk prog 240 (D146 ann):=⟨f240,at146,by kernel_rfl,by kernel_rfl,rfl,rfl,by kernel_rfl⟩
def I146:VM.It:=⟨[.sl Kp],[It,Kp],fun x=>F.pBack x.1,fun x=>F.back x.1⟩
def S55:VM.Spec:=⟨[Sta,It,It],[It],fun x=>F.pSee x.1 x.2.1 x.2.2.1,fun x=>(F.see x.1 x.2.1 x.2.2.1,())⟩
def S157:VM.Spec:=⟨[Mc,Sta,Th,In],[.bool],fun x=>F.pW x.1 x.2.1 x.2.2.1 x.2.2.2.1,fun x=>(F.waits x.1 x.2.1 x.2.2.1 x.2.2.2.1,())⟩
def S136:VM.Spec:=⟨[Mc,Sta,It],[.bool],fun x=>F.pC x.1 x.2.1 x.2.2.1,fun x=>(F.can x.1 x.2.1 x.2.2.1,())⟩
def I135:VM.It:=⟨[Sta,Mc],[Mv],fun x=>F.pE x.1 x.2.1,fun x=>F.each x.1 x.2.1⟩
def S90:VM.Spec:=⟨[Mc,Sta],[.sl Mv],fun x=>F.pE x.2.1 x.1,fun x=>(F.moves x.1 x.2.1,())⟩
def S69:VM.Spec:=⟨[Mc,Sta],[.bool],fun x=>F.pE x.2.1 x.1,fun x=>(F.ended x.1 x.2.1,())⟩
def S71:VM.Spec:=⟨[Mc,Sta],[En],fun x=>F.pEnd x.1 x.2.1,fun x=>(F.endOf x.1 x.2.1,())⟩
def S79:VM.Spec:=⟨[Wk],[Sta],fun x=>F.pFirst x.1,fun x=>(F.first x.1,())⟩
def S87:VM.Spec:=⟨[.sl It],[.bool],fun x=>F.bl x.1,fun x=>(F.nums x.1,())⟩
def S22:VM.Spec:=⟨[Wk],[It],fun x=>F.bw x.1,fun x=>(F.check x.1,())⟩
def S89:VM.Spec:=⟨[Wk,It,Th],[.bool],fun x=>F.pTh x.1 x.2.1 x.2.2.1,fun x=>(F.isTh x.1 x.2.1 x.2.2.1,())⟩
def S41:VM.Spec:=⟨[Wk,Sta],[.bool],fun x=>F.pSt x.1 x.2.1,fun x=>(F.isSt x.1 x.2.1,())⟩
def S45:VM.Spec:=⟨[Wk,Sta],[It],fun x=>F.pSt x.1 x.2.1,fun x=>(F.ckSt x.1 x.2.1,())⟩
def S36:VM.Spec:=⟨[Wk],[Sta,It],fun x=>F.bw x.1,fun x=>((F.begE x.1).1,(F.begE x.1).2,())⟩
def S42:VM.Spec:=⟨[Wk,Sta],[.sl Mv,It],fun x=>F.pSt x.1 x.2.1,fun x=>((F.mvE x.1 x.2.1).1,(F.mvE x.1 x.2.1).2,())⟩
def S49:VM.Spec:=⟨[Wk,Sta],[.sl Mv],fun x=>F.ok x.1 x.2.1,fun x=>(F.moves (x.1,false) x.2.1,())⟩
def S57:VM.Spec:=⟨[Wk,Sta,Mv],[Sta],fun x=>F.okD x.1 x.2.1 x.2.2.1,fun x=>(F.doo (x.1,false) x.2.1 x.2.2.1,())⟩
def S43:VM.Spec:=⟨[Sta],[Sta],fun x=>F.bs x.1,fun x=>(x.1,())⟩
def S20:VM.Spec:=⟨[Wk],[Wk],fun x=>F.bw x.1,fun x=>(x.1,())⟩
def S25:VM.Spec:=⟨[En],[En],fun x=>F.be x.1,fun x=>(x.1,())⟩
def S94:VM.Spec:=⟨[Wk,Sta,It],[.bool],fun x=>F.okT x.1 x.2.1 x.2.2.1,fun x=>(F.over x.1 x.2.1 x.2.2.1,())⟩
def S95:VM.Spec:=⟨[Wk,Sta,It],[.bool],fun x=>F.okW2 x.1 x.2.1 x.2.2.1,fun x=>(F.waR x.1 x.2.1 x.2.2.1,())⟩
def S111:VM.Spec:=⟨[.sl It],[It],fun x=>F.bl x.1,fun x=>(F.or1 x.1,())⟩
def R113:FSp:=⟨⟨[.sl (.sl It),.sl (.sl It)],[It],fun x=>F.bll x.1,fun x=>(F.cmpLL x.1 x.2.1,())⟩,[124]⟩
def R133:TurnSp:={ et:=5,e:=U8,ins:=[.sl It],pre:=fun l x=>F.pPut l x.1,fn:=fun l x=>F.put l x.1 }
def R107:TurnSp:={ et:=114,e:=En,ins:=[],pre:=fun l _=>F.ble l,fn:=fun l _=>F.comp l,fns:=[174] }
def R106:TurnSp:={ et:=114,e:=En,ins:=[],pre:=fun l _=>F.ble l,fn:=fun l _=>F.sort l,fns:=[119] }
def R72:TurnSp:={ et:=3,e:=It,ins:=[],pre:=fun l _=>F.bl l,fn:=fun l _=>F.rev l }
def S109:VM.Spec:=⟨[Sta],[.str],fun x=>F.pKey x.1,fun x=>(F.key x.1,())⟩
def S66:VM.Spec:=⟨[Mc],[.sl Mt,It],fun x=>F.okM x.1,fun x=>((F.all x.1).1,(F.all x.1).2,())⟩
def S62:VM.Spec:=⟨[Mc],[.sl En,It,It],fun x=>F.bM x.1,fun x=>((F.ends x.1).1,(F.ends x.1).2.1,(F.ends x.1).2.2,())⟩
def S19:VM.Spec:=⟨[Wk],[.sl En,It,It],fun x=>F.bw x.1,fun x=>((F.ends (x.1,false)).1,(F.ends (x.1,false)).2.1,(F.ends (x.1,false)).2.2,())⟩
def S21:VM.Spec:=⟨[Wk],[.sl En,It,It],fun x=>F.bw x.1,fun x=>((F.ends (x.1,true)).1,(F.ends (x.1,true)).2.1,(F.ends (x.1,true)).2.2,())⟩
def S24:VM.Spec:=⟨[Wk,En],[.sl It,It],fun x=>F.pWay x.1 x.2.1,fun x=>((F.way x.1 x.2.1).1,(F.way x.1 x.2.1).2,())⟩
def S126:VM.Spec:=⟨[Sta,It],[Sta],fun x=>F.pCl x.1 x.2.1,fun x=>(x.1,())⟩
def S52:VM.Spec:=⟨[Wk,Sta,Mv],[Sta,It],fun x=>F.pSt x.1 x.2.1,fun x=>((F.doE x.1 x.2.1 x.2.2.1).1,(F.doE x.1 x.2.1 x.2.2.1).2,())⟩
def S44:VM.Spec:=⟨[Wk,Sta],[En,It],fun x=>F.pSt x.1 x.2.1,fun x=>((F.endE x.1 x.2.1).1,(F.endE x.1 x.2.1).2,())⟩
def S47:VM.Spec:=⟨[Wk,Sta],[En,.bool],fun x=>F.ok x.1 x.2.1,fun x=>((F.endR x.1 x.2.1).1,(F.endR x.1 x.2.1).2,())⟩
def S53:VM.Spec:=⟨[Wk,Sta,It],[.sl It,It],fun x=>F.pSt x.1 x.2.1,fun x=>((F.seesE x.1 x.2.1 x.2.2.1).1,(F.seesE x.1 x.2.1 x.2.2.1).2,())⟩
def S51:VM.Spec:=⟨[Wk,.sl It],[Sta,It,It],fun x=>F.pRunR x.1 x.2.1,fun x=>((F.runE x.1 x.2.1).1,(F.runE x.1 x.2.1).2.1,(F.runE x.1 x.2.1).2.2,())⟩
def S50:VM.Spec:=⟨[Wk,.sl It],[Sta,It,.bool],fun x=>F.pRunR x.1 x.2.1,fun x=>((F.runR x.1 x.2.1).1,(F.runR x.1 x.2.1).2.1,(F.runR x.1 x.2.1).2.2,())⟩
def S29:VM.Spec:=⟨[Wk],[Wk,It],fun x=>F.bw x.1,fun x=>((F.fenE x.1).1,(F.fenE x.1).2,())⟩
def S30:VM.Spec:=⟨[Wk],[Wk,.bool],fun x=>F.okW x.1,fun x=>((F.fenR x.1).1,(F.fenR x.1).2,())⟩
def S27:VM.Spec:=⟨[.sl It,.sl It],[.bool],fun x=>F.bl x.1∧F.bl x.2.1,fun x=>(F.sameL x.1 x.2.1,())⟩
def S46:VM.Spec:=⟨[En,En],[.bool],fun x=>F.be x.1∧F.be x.2.1,fun x=>(F.sameE x.1 x.2.1,())⟩
def S35:VM.Spec:=⟨[.sl En,.sl En],[.bool],fun x=>F.ble x.1∧F.ble x.2.1,fun x=>(F.sameEs x.1 x.2.1,())⟩
def S39:VM.Spec:=⟨[Sta,Sta],[.bool],fun x=>F.bs x.1∧F.bs x.2.1,fun x=>(F.sameS x.1 x.2.1,())⟩
def S31:VM.Spec:=⟨[Wk,Wk],[.bool],fun x=>F.bw x.1∧F.bw x.2.1,fun x=>(F.sameW x.1 x.2.1,())⟩
def S48:VM.Spec:=⟨[.sl Mv,.sl Mv],[.bool],fun x=>F.bm x.1,fun x=>(F.sameM x.1 x.2.1,())⟩
def S104:VM.Spec:=⟨[.sl Kp,.sl Kp],[.bool],fun x=>F.bk x.1,fun x=>(F.sameK x.1 x.2.1,())⟩
def S56:VM.Spec:=⟨[.sl Mv,Mv],[.bool],fun x=>F.bm x.1,fun x=>(F.isMv x.1 x.2.1,())⟩
def S34:VM.Spec:=⟨[.sl En,En],[.bool],fun x=>F.ble x.1∧F.be x.2.1,fun x=>(F.isIn x.1 x.2.1,())⟩
def S112:VM.Spec:=⟨[.sl It,.sl It],[It],fun x=>F.bl x.1,fun x=>(F.cmpL x.1 x.2.1,())⟩
def S114:VM.Spec:=⟨[.sl U8,.sl U8],[It],fun x=>F.bl x.1,fun x=>(F.cmpL x.1 x.2.1,())⟩
def S70:VM.Spec:=⟨[En,En],[It],fun x=>F.be x.1,fun x=>(F.cmpE x.1 x.2.1,())⟩
def S75:VM.Spec:=⟨[.sl It,.sl It],[It],fun x=>F.bl x.1∧F.bl x.2.1,fun x=>(F.cmpR x.1 x.2.1,())⟩
def S74:VM.Spec:=⟨[En,En],[It],fun x=>F.be x.1∧F.be x.2.1,fun x=>(F.cmpRE x.1 x.2.1,())⟩
def S118:VM.Spec:=⟨[En],[.sl It],fun x=>F.be x.1,fun x=>(F.hows x.1,())⟩
def S17:VM.Spec:=⟨[Wk],[.bool],fun x=>F.bwT x.1,fun x=>(F.thin x.1,())⟩
def S28:VM.Spec:=⟨[Wk],[.bool],fun x=>F.bwT x.1,fun x=>(F.long x.1,())⟩
def S40:VM.Spec:=⟨[Sta],[.bool],fun x=>F.bsT x.1,fun x=>(F.thinS x.1,())⟩
def acT:List (C × C):=[(.int .u8 8,.fn 215 []),(.int .u8 9,.fn 216 []),(.int .u8 10,.fn 217 []),(.int .u8 12,.fn 218 [])]
def R76:RowSp:=⟨[.sl It],3,It,fun x=>F.pLi x.1,fun x=>x.1⟩
def R141:RowSp:=⟨[.sl Th],137,Th,fun x=>F.pLt x.1,fun x=>x.1⟩
def R142:RowSp:=⟨[.sl Kp],190,Kp,fun x=>F.pLk x.1,fun x=>x.1⟩
def a0:Nat→LAnn:=fun _=>.no
noncomputable def bT (F:BxF):FuncId→FT
 | 151 | 37=>.spec (S86 F) | 152 | 84=>.spec (S92 F) | 212 | 183=>.spec (S134 F) | 143=>.spec (S77 F) | 144=>.spec (S78 F) | 188=>.spec (S120 F) | 158 | 97=>.spec (S84 F) | 197=>.spec (S145 F) | 195=>.spec (S143 F) | 146=>.spec (S103 F) | 233=>.spec (S101 F)
 | 113=>.ext (R76 F).x | 193=>.ext (R141 F).x | 194=>.ext (R142 F).x
 | 214=>.spec (S157 F) | 192=>.spec (S136 F) | 191=>.it (I135 F) | 161=>.inl (D110 a0) | 160=>.inl (D123 a0)
 | 100=>.spec (S90 F) | 118=>.spec (S69 F)
 | 120=>.spec (S71 F) | 99=>.spec (S79 F)
 | 196=>.ext (mapcX acT) | 240=>.it (I146 F) | 238=>.inl (D129 a0) | 182=>.spec (S55 F)
 | 163=>.inl (D126 a0) | 164=>.inl (D127 a0) | 215=>.inl (D160 a0) | 216=>.inl (D161 a0) | 217=>.inl (D162 a0) | 218=>.inl (D163 a0) | 102=>.spec (S99 F)
 | _=>.no
def tabO:List (Nat × FT)→(FuncId→FT)→FuncId→FT
 | [],T,g=>T g
 | (k,x) :: r,T,g=>match Nat.beq k g with
   | true=>x
   | false=>tabO r T g
noncomputable def cT (F:BxF):FuncId→FT
 | 149 | 94=>.spec (S87 F) | 48 | 98=>.spec (S22 F) | 95=>.spec (S89 F) | 44=>.spec (S41 F) | 93=>.spec (S45 F)
 | 122=>.spec (S111 F) | 167=>.ext (R113 F).x | 211=>.ext (R133 F).x | 173=>.ext (R107 F).x | 172=>.ext (R106 F).u | 121=>.ext (R72 F).u | 177=>.spec (S109 F) | 115=>.spec (S66 F) | 111=>.spec (S62 F) | 64=>.spec (S19 F) | 900021=>.spec (S21 F) | 67=>.spec (S24 F)
 | 141=>.spec (S94 F) | 142=>.spec (S95 F) | 163=>.spec (S126 F) | 49=>.spec (S36 F) | 85=>.spec (S79 F) | 51=>.spec (S42 F) | 86=>.spec (S49 F) | 87=>.spec (S57 F) | 43 | 103=>.spec (S43 F) | 50=>.spec (S20 F) | 900025=>.spec (S25 F)
 | 53=>.spec (S52 F) | 900044=>.spec (S44 F) | 900047=>.spec (S47 F) | 900053=>.spec (S53 F) | 69=>.spec (S51 F) | 27=>.spec (S50 F) | 900029=>.spec (S29 F) | 900030=>.spec (S30 F)
 | 58=>.spec (S27 F) | 71=>.spec (S46 F) | 900035=>.spec (S35 F) | 900039=>.spec (S39 F) | 36=>.spec (S31 F) | 900048=>.spec (S48 F) | 900104=>.spec (S104 F) | 900056 | 101=>.spec (S56 F) | 900034=>.spec (S34 F)
 | 124=>.spec (S112 F) | 178=>.spec (S114 F) | 119=>.spec (S70 F) | 110=>.spec (S75 F) | 109=>.spec (S74 F) | 171=>.spec (S118 F) | 900017=>.spec (S17 F) | 900028=>.spec (S28 F) | 41=>.spec (S40 F)
 | g=>bT F g
noncomputable def vcO (L:Lv) (F:BxF) (o:List (Nat × FT)) (l:List Nat) (n:Nat) (d:FnD) (sp:VM.Spec) (x:Ds sp.ins):VC:=contractVC L E01 (callG L E01 (only (tabO o (cT F)) l) n) (spcOf (only (tabO o (cT F)) l)) d sp x
noncomputable def vcC (L:Lv) (F:BxF) (l:List Nat) (d:FnD) (sp:VM.Spec) (x:Ds sp.ins):VC:=contractVC L E01 (callG L E01 (only (cT F) l) 3) (spcOf (only (cT F) l)) d sp x
noncomputable def vcF (L:Lv) (F:BxF) (l:List Nat) (d:FnD) (r:FSp) (x:Ds r.sp.ins):VC:=fspVC L E01 (callG L E01 (only (cT F) l) 3) (spcOf (only (cT F) l)) d r x
noncomputable def vcT (L:Lv) (F:BxF) (o:List (Nat × FT)) (l:List Nat) (d:FnD) (r:TurnSp) (a:List r.e.D) (x:Ds r.ins):VC:=turnVC L E01 (callG L E01 (only (tabO o (cT F)) l) 4) (spcOf (only (tabO o (cT F)) l)) d r a x
noncomputable def vcTn (L:Lv) (F:BxF) (o:List (Nat × FT)) (l:List Nat) (d:FnD) (r:TurnSp) (x:Ds r.ins):VC:=turnNVC L E01 (callG L E01 (only (tabO o (cT F)) l) 4) (spcOf (only (tabO o (cT F)) l)) d r x
noncomputable def vcB (L:Lv) (F:BxF) (l:List Nat) (d:FnD) (sp:VM.Spec) (x:Ds sp.ins):VC:=contractVC L E01 (callG L E01 (only (bT F) l) 3) (spcOf (only (bT F) l)) d sp x
noncomputable def vcR (L:Lv) (F:BxF) (l:List Nat) (d:FnD) (r:RowSp) (x:Ds r.ins):VC:=rowVC L E01 (callG L E01 (only (bT F) l) 1) (spcOf (only (bT F) l)) d r x
end Go.Proofs.Tryz
