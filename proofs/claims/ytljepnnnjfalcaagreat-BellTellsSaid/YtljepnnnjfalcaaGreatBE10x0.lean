/- What functions of the weak memory compute, proved through the condition generator, and plain facts of it. Conditions: none of ours. -/
import Derived.Calls
import Derived.Orders
import Derived.Below
import Derived.Lib.ItoaNum
import Derived.Laws.Sem
import Derived.Laws.Cells
import Derived.Laws.Entries
import Derived.Laws.StructEq
import Derived.Lib.IfaceEq
import Derived.Lib.IfaceNeq
import Derived.Laws.MakeOwn
import Derived.Laws.AppendOwn
import Derived.Lib.AppendStr
import Derived.Laws.CopyRow
import Derived.Laws.BytesString
import Derived.MapKept
import Derived.OrdersIn
import Derived.RangeFuncCalls
import Derived.RangeFuncLeaves
import Derived.Test.YtljepnnnjfalcaaGreatProg
import Derived.Shelf.SlSortCmp.Insertion
import GoSem.Step
import Derived.Shelf.SlSortCmp.InsertionK
import Derived.Shelf.SlSortCmp.NoneTotal
import Derived.Ground.SlsfProg
import Derived.Shelf.Spec.SlicesGrow
import Derived.Shelf.SlGeneric
import Derived.Ground.Names8Prog
import Derived.WalkKit
import Derived.StillTactics
import Derived.Laws.Pointers
import Derived.Laws.NewBlocks
import Derived.Laws.Rows
import Derived.Handy
import Derived.Lib.SliceRun
import Derived.Sort.LotA
import Derived.Test.YtljepnnnjfalcaaGreatB0
import Derived.Test.YtljepnnnjfalcaaGreatB1
import Derived.Test.YtljepnnnjfalcaaGreatB2
import Derived.Test.YtljepnnnjfalcaaGreatB3
import Derived.Test.YtljepnnnjfalcaaGreatB4
import Derived.Test.YtljepnnnjfalcaaGreatB5
import Derived.Test.YtljepnnnjfalcaaGreatB6
import Derived.Test.YtljepnnnjfalcaaGreatB7
import Derived.Test.YtljepnnnjfalcaaGreatB8
import Derived.Test.YtljepnnnjfalcaaGreatB9
import Derived.Test.YtljepnnnjfalcaaGreatB10
import Derived.Test.YtljepnnnjfalcaaGreatB11
import Derived.Test.YtljepnnnjfalcaaGreatB12
import Derived.Test.YtljepnnnjfalcaaGreatB13
import Derived.Test.YtljepnnnjfalcaaGreatB14
import Derived.Test.YtljepnnnjfalcaaGreatB15
import Derived.Test.YtljepnnnjfalcaaGreatB16
import Derived.Test.YtljepnnnjfalcaaGreatB17
import Derived.Test.YtljepnnnjfalcaaGreatB18
import Derived.Test.YtljepnnnjfalcaaGreatB19
import Derived.Test.YtljepnnnjfalcaaGreatB20
import Derived.Test.YtljepnnnjfalcaaGreatB21
import Derived.Test.YtljepnnnjfalcaaGreatB22
import Derived.Test.YtljepnnnjfalcaaGreatB23
import Derived.Test.YtljepnnnjfalcaaGreatB24
import Derived.Test.YtljepnnnjfalcaaGreatB25
import Derived.Test.YtljepnnnjfalcaaGreatB26
import Derived.Test.YtljepnnnjfalcaaGreatB27
import Derived.Test.YtljepnnnjfalcaaGreatB28
import Derived.Test.YtljepnnnjfalcaaGreatB29
import Derived.Test.YtljepnnnjfalcaaGreatB30
import Derived.Test.YtljepnnnjfalcaaGreatB31
import Derived.Test.YtljepnnnjfalcaaGreatB32
import Derived.Test.YtljepnnnjfalcaaGreatB33
set_option autoImplicit false
set_option maxRecDepth 100000
set_option linter.all false
namespace Go.Proofs.Tryz
open Go Go.VM
theorem atb10:prog.funcs[10]? = some f10:=by kernel_rfl
def plb10:Nat→Plan
 | 8=>[(0,[]),(1,[]),(2,[0,1]),(3,[]),(4,[]),(5,[]),(6,[]),(7,[6]),(8,[7]),(9,[])]
 | _=>[]
noncomputable def Db10 (ann:Nat→LAnn):FnD:=⟨f10.body.getD .skip,f10.ntmps,f10.results.toList,plb10,ann⟩
theorem fnokb10 (ann:Nat→LAnn):FnOk prog 10 (Db10 ann):=⟨f10,atb10,by kernel_rfl,by kernel_rfl,rfl,rfl,by kernel_rfl⟩
theorem atb32:prog.funcs[32]? = some f32:=by kernel_rfl
def plb32:Nat→Plan
 | _=>[]
noncomputable def Db32 (ann:Nat→LAnn):FnD:=⟨f32.body.getD .skip,f32.ntmps,f32.results.toList,plb32,ann⟩
theorem fnokb32 (ann:Nat→LAnn):FnOk prog 32 (Db32 ann):=⟨f32,atb32,by kernel_rfl,by kernel_rfl,rfl,rfl,by kernel_rfl⟩
theorem atb35:prog.funcs[35]? = some f35:=by kernel_rfl
def plb35:Nat→Plan
 | 1=>[(0,[]),(1,[]),(2,[0,1]),(3,[0,1]),(4,[]),(5,[])]
 | _=>[]
noncomputable def Db35 (ann:Nat→LAnn):FnD:=⟨f35.body.getD .skip,f35.ntmps,f35.results.toList,plb35,ann⟩
theorem fnokb35 (ann:Nat→LAnn):FnOk prog 35 (Db35 ann):=⟨f35,atb35,by kernel_rfl,by kernel_rfl,rfl,rfl,by kernel_rfl⟩
theorem atb45:prog.funcs[45]? = some f45:=by kernel_rfl
def plb45:Nat→Plan
 | _=>[]
noncomputable def Db45 (ann:Nat→LAnn):FnD:=⟨f45.body.getD .skip,f45.ntmps,f45.results.toList,plb45,ann⟩
theorem fnokb45 (ann:Nat→LAnn):FnOk prog 45 (Db45 ann):=⟨f45,atb45,by kernel_rfl,by kernel_rfl,rfl,rfl,by kernel_rfl⟩
theorem atb46:prog.funcs[46]? = some f46:=by kernel_rfl
def plb46:Nat→Plan
 | 1=>[(7,[]),(0,[7]),(1,[7]),(2,[7,0,1]),(3,[7,0,1,2]),(4,[7,0,1,2]),(5,[7,0,1]),(6,[7]),(8,[])]
 | 5=>[(0,[]),(1,[]),(2,[0,1]),(3,[0,1,2]),(4,[0,1,2]),(5,[0,1,2,3,4]),(6,[0,1,2]),(7,[0,1,2]),(8,[0,1]),(9,[0,1]),(10,[]),(11,[]),(12,[])]
 | _=>[]
noncomputable def Db46 (ann:Nat→LAnn):FnD:=⟨f46.body.getD .skip,f46.ntmps,f46.results.toList,plb46,ann⟩
theorem fnokb46 (ann:Nat→LAnn):FnOk prog 46 (Db46 ann):=⟨f46,atb46,by kernel_rfl,by kernel_rfl,rfl,rfl,by kernel_rfl⟩
theorem atb47:prog.funcs[47]? = some f47:=by kernel_rfl
def plb47:Nat→Plan
 | 7=>[(0,[]),(1,[]),(2,[0,1]),(3,[]),(4,[]),(5,[0,1,2,3,4]),(6,[0,1,2,3,4]),(7,[0,1,2,3,4,5,6]),(8,[0,1,2,3,4]),(9,[0,1,2,3,4]),(10,[5,6,7,8,9]),(11,[])]
 | 11=>[(0,[]),(1,[]),(2,[]),(3,[]),(4,[]),(5,[]),(6,[]),(7,[4,5,6]),(8,[]),(9,[]),(10,[]),(11,[]),(12,[]),(13,[]),(14,[11,12,13]),(15,[11,12,13]),(16,[]),(17,[]),(18,[]),(19,[]),(20,[18,19]),(21,[18,19]),(22,[18,19]),(23,[]),(24,[]),(25,[]),(26,[]),(27,[])]
 | _=>[]
noncomputable def Db47 (ann:Nat→LAnn):FnD:=⟨f47.body.getD .skip,f47.ntmps,f47.results.toList,plb47,ann⟩
theorem fnokb47 (ann:Nat→LAnn):FnOk prog 47 (Db47 ann):=⟨f47,atb47,by kernel_rfl,by kernel_rfl,rfl,rfl,by kernel_rfl⟩
theorem atb65:prog.funcs[65]? = some f65:=by kernel_rfl
def plb65:Nat→Plan
 | 2=>[(0,[]),(1,[]),(2,[0,1]),(3,[0,1]),(4,[]),(5,[]),(6,[]),(7,[]),(8,[]),(9,[6,7,8]),(10,[]),(11,[])]
 | _=>[]
noncomputable def Db65 (ann:Nat→LAnn):FnD:=⟨f65.body.getD .skip,f65.ntmps,f65.results.toList,plb65,ann⟩
theorem fnokb65 (ann:Nat→LAnn):FnOk prog 65 (Db65 ann):=⟨f65,atb65,by kernel_rfl,by kernel_rfl,rfl,rfl,by kernel_rfl⟩
theorem atb96:prog.funcs[96]? = some f96:=by kernel_rfl
def plb96:Nat→Plan
 | 4=>[(0,[]),(1,[]),(2,[0,1]),(3,[]),(4,[]),(5,[0,1,2,3,4]),(6,[0,1,2,3,4]),(7,[0,1,2,3,4]),(8,[0,1,2,3,4]),(9,[]),(10,[]),(11,[]),(12,[]),(13,[]),(14,[12,13]),(15,[]),(16,[12,13,14,15]),(17,[12,13,14,15]),(18,[12,13,14,15,16,17]),(19,[12,13,14,15]),(20,[12,13,14,15]),(21,[]),(22,[])]
 | _=>[]
noncomputable def Db96 (ann:Nat→LAnn):FnD:=⟨f96.body.getD .skip,f96.ntmps,f96.results.toList,plb96,ann⟩
theorem fnokb96 (ann:Nat→LAnn):FnOk prog 96 (Db96 ann):=⟨f96,atb96,by kernel_rfl,by kernel_rfl,rfl,rfl,by kernel_rfl⟩
theorem atb112:prog.funcs[112]? = some f112:=by kernel_rfl
def plb112:Nat→Plan
 | 1=>[(0,[]),(1,[]),(2,[]),(3,[0,1,2]),(4,[]),(5,[]),(6,[0,1,2,3,4,5]),(7,[0,1,2,3,4,5]),(8,[])]
 | 3=>[(0,[]),(1,[]),(2,[]),(3,[]),(4,[]),(5,[]),(6,[]),(7,[4,5,6]),(8,[4,5,6]),(9,[4,5,6]),(10,[4,5,6,7,8,9]),(11,[4,5,6]),(12,[4,5,6]),(13,[]),(14,[]),(15,[]),(16,[]),(17,[]),(18,[]),(19,[]),(20,[16,17,18,19]),(21,[16,17,18,19]),(22,[16,17,18,19]),(23,[16,17,18,19]),(24,[]),(25,[16,17,18,19,20,21,22,23,24]),(26,[16,17,18,19,20,21,22,23,24]),(27,[16,17,18,19,20,21,22,23,24]),(28,[]),(29,[]),(30,[])]
 | _=>[]
noncomputable def Db112 (ann:Nat→LAnn):FnD:=⟨f112.body.getD .skip,f112.ntmps,f112.results.toList,plb112,ann⟩
theorem fnokb112 (ann:Nat→LAnn):FnOk prog 112 (Db112 ann):=⟨f112,atb112,by kernel_rfl,by kernel_rfl,rfl,rfl,by kernel_rfl⟩
theorem atb175:prog.funcs[175]? = some f175:=by kernel_rfl
def plb175:Nat→Plan
 | _=>[]
noncomputable def Db175 (ann:Nat→LAnn):FnD:=⟨f175.body.getD .skip,f175.ntmps,f175.results.toList,plb175,ann⟩
theorem fnokb175 (ann:Nat→LAnn):FnOk prog 175 (Db175 ann):=⟨f175,atb175,by kernel_rfl,by kernel_rfl,rfl,rfl,by kernel_rfl⟩
theorem atb210:prog.funcs[210]? = some f210:=by kernel_rfl
def plb210:Nat→Plan
 | _=>[]
noncomputable def Db210 (ann:Nat→LAnn):FnD:=⟨f210.body.getD .skip,f210.ntmps,f210.results.toList,plb210,ann⟩
theorem fnokb210 (ann:Nat→LAnn):FnOk prog 210 (Db210 ann):=⟨f210,atb210,by kernel_rfl,by kernel_rfl,rfl,rfl,by kernel_rfl⟩
end Go.Proofs.Tryz
namespace Go.Proofs.Tryz
open Go Go.VM
theorem fold_max (l:List Int):∀ a:Int,maxF (l ++ [a]) = l.foldl max a:=by
 have g:∀ (l:List Int) (x a:Int),(l ++ [a]).foldl max x = l.foldl max (max x a):=fun l=>by
  induction l with
  | nil=>intro x a; rfl
  | cons y l ih =>
    intro x a
    show (l ++ [a]).foldl max (max x y) = l.foldl max (max (max x a) y)
    rw [ih,show max (max x y) a = max (max x a) y by omega]
 intro a
 cases l with
 | nil=>rfl
 | cons y l =>
   show (l ++ [a]).foldl max y = l.foldl max (max a y)
   rw [g,show max y a = max a y by omega]
end Go.Proofs.Tryz
namespace Go.Proofs.Tryz
open Go Go.VM
def ab35 (L:Lv) (I:Ds [It,It]→Prop) (mu:Ds [It,It]→Nat):Nat→LAnn
 | 0=>anH L [3,4,5] [] [.s 3 It,.s 5 It] I mu
 | _=>.no
def ab46 (L:Lv) (I:Ds [.sl (.sl It),It]→Prop) (mu:Ds [.sl (.sl It),It]→Nat):Nat→LAnn
 | 0=>anH L [1,2,3,4] [(3,some 1,22,.sl It)] [.br 3 1 (.sl It),.s 4 It] I mu
 | _=>.no
def nb35 (L:Lv) (F:BxF) (M:BeF) (I:Ds [It,It]→Prop) (mu:Ds [It,It]→Nat) (b:BlD)  : VC :=
 let z1:=b.2;
 let z2:=z1.2;
 let z3:=z2.2;
 let z4:=(Prod.fst b,z1.1,z2.1,z3.1,z3.2);
 let z5:=b.1;
 let z6:=L.llen It (BeF.nums M z4);
 let z7:=z1.1;
 let z8:=z2.1;
 let z9:=z3.1;
 let z10:=z3.2; .obl (BeF.bB M z4) (.obl (St.mk 23 [(3,V.c (C.int .i64 z5)),(4,V.c (C.own 2 z6)),(5,V.c (C.int .i64 0))] [(0,Ob.amb),(1,Ob.box 28
  [C.int .i64 z5,C.int .i64 z7,C.sym z8,C.sl It z9,C.sl (Ty.sl It) z10]),(2,Ob.row 3 It (BeF.nums M z4))] 3 = St.mk 23 [(3,V.c (C.int .i64 z5)),(4,V.c
  (C.own 2 z6)),(5,V.c (C.int .i64 0))] [(0,Ob.amb),(1,Ob.box 28 [C.int .i64 z5,C.int .i64 z7,C.sym z8,C.sl It z9,C.sl (Ty.sl It) z10]),(2,Ob.row 3
  It (BeF.nums M z4))] 3) (.obl (I (Prod.fst b,0,())) (.all (Int × Int × Unit) fun (v1:Int × Int × Unit) =>
 let z11:=v1.2.1;
 let z12:=L.toN z11;
 let z13:=L.get It (BeF.nums M z4) z12;
 let z14:=L.mx v1.1 z13;
 let z15:=L.ar .add .i64 z11 1;
 let z16:=(L.mx v1.1 z13,L.ar .add .i64 z11 1,()); .imp (I v1) (.br (L.cmp .lss z11 (L.cast z6)) (.obl (L.inR z11 z6) (.obl
  (L.ltN z12 z6) (.ok (St.mk 23 [(3,V.c (C.int .i64 z14)),(4,V.c (C.own 2 z6)),(5,V.c (C.int .i64 z15))] [(0,Ob.amb),(1,Ob.box 28 [C.int .i64 z5,
  C.int .i64 z7,C.sym z8,C.sl It z9,C.sl (Ty.sl It) z10]),(2,Ob.row 3 It (BeF.nums M z4))] 3 = St.mk 23 [(3,V.c (C.int .i64 z14)),(4,V.c (C.own 2 z6)),(5,
  V.c (C.int .i64 z15))] [(0,Ob.amb),(1,Ob.box 28 [C.int .i64 z5,C.int .i64 z7,C.sym z8,C.sl It z9,C.sl (Ty.sl It) z10]),(2,Ob.row 3 It (BeF.nums M
  z4))] 3∧I z16∧mu z16 < mu v1)))) (.ok ((Prod.fst v1,()) = (BeF.sum M b,())))))))
theorem nb35_go (L:Lv) (F:BxF) (M:BeF) (I:Ds [It,It]→Prop) (mu:Ds [It,It]→Nat) (b:BlD) (h:VC.holds (nb35 L F M I mu b)):Holds (vcE L F M [] [83] 3 (Db35 (ab35 L I mu)) (Sb35 M) (b,())):=Holds.of_eq (by kernel_rfl) h
def nb46 (L:Lv) (F:BxF) (M:BeF) (I:Ds [.sl (.sl It),It]→Prop) (mu:Ds [.sl (.sl It),It]→Nat) (e:BeD)  : VC :=
 let z1:=L.take It [] 0;
 let z2:=L.llen It z1;
 let z3:=e.2.2;
 let z4:=L.add z2 (L.llen It z3);
 let z5:=e.1;
 let z6:=e.2.1;
 let z7:=L.app It z1 z3;
 let z8:=L.llen (Ty.sl It) z6; .obl (L.room z4 8) (.obl (St.mk 32 [(1,V.c (C.ptr 1 0)),(2,V.c (C.ptr 2 0)),(3,V.c (C.ptr 3 0)),(4,V.c (C.int .i64 0))] [(0,
  Ob.amb),(1,Ob.box 31 [C.int .i64 z5,C.sl (Ty.sl It) z6,C.sl It z3]),(2,Ob.box 31 [C.int .i64 0,C.nils,C.nils]),(3,Ob.box 31 [C.int .i64 z5,C.own 7
  0,C.own 5 z4]),(5,Ob.row 3 It z7),(7,Ob.row 22 (Ty.sl It) [])] 8 = St.mk 32 [(1,V.c (C.ptr 1 0)),(2,V.c (C.ptr 2 0)),(3,V.c (C.ptr 3 0)),(4,V.c (C.int .i64
  0))] [(0,Ob.amb),(1,Ob.box 31 [C.int .i64 z5,C.sl (Ty.sl It) z6,C.sl It z3]),(2,Ob.box 31 [C.int .i64 0,C.nils,C.nils]),(3,Ob.box 31 [C.int .i64
  z5,C.own 7 (L.llen (Ty.sl It) []),C.own 5 z4]),(5,Ob.row 3 It z7),(7,Ob.row 22 (Ty.sl It) [])] 8) (.obl (I ([],0,())) (.all (List (List Int) × Int × Unit) fun (v1
  : List (List Int) × Int × Unit) =>
 let z9:=v1.2.1;
 let z10:=L.get (Ty.sl It) z6 (L.toN z9);
 let z11:=L.add z2 (L.llen It z10);
 let z12:=v1.1;
 let z13:=L.llen (Ty.sl It) z12;
 let z14:=L.take (Ty.sl It) z12 z13;
 let z15:=L.take (Ty.sl It) [L.take It (L.app It z1 z10) z11] 1;
 let z16:=L.add (L.llen (Ty.sl It) z14) (L.llen (Ty.sl It) z15);
 let z17:=L.ar .add .i64 z9 1;
 let z18:=L.app (Ty.sl It) z14 z15;
 let z19:=(L.app (Ty.sl It) z14 z15,L.ar .add .i64 z9 1,()); .imp (I v1) (.br (L.cmp .lss z9 (L.cast z8)) (.obl (L.inR z9 z8) (.obl
  (L.room z11 8) (.obl (L.room z16 24) (.ok (St.mk 32 [(1,V.c (C.ptr 1 0)),(2,V.c (C.ptr 2 0)),(3,V.c (C.ptr 3 0)),(4,V.c (C.int .i64 z17))] [(0,Ob.amb),
  (1,Ob.box 31 [C.int .i64 z5,C.sl (Ty.sl It) z6,C.sl It z3]),(2,Ob.box 31 [C.int .i64 0,C.nils,C.nils]),(3,Ob.box 31 [C.int .i64 z5,C.own 7 z16,
  C.own 5 z4]),(5,Ob.row 3 It z7),(7,Ob.row 22 (Ty.sl It) z18)] 8 = St.mk 32 [(1,V.c (C.ptr 1 0)),(2,V.c (C.ptr 2 0)),(3,V.c (C.ptr 3 0)),(4,V.c (C.int .i64
  z17))] [(0,Ob.amb),(1,Ob.box 31 [C.int .i64 z5,C.sl (Ty.sl It) z6,C.sl It z3]),(2,Ob.box 31 [C.int .i64 0,C.nils,C.nils]),(3,Ob.box 31 [C.int .i64
  z5,C.own 7 (L.llen (Ty.sl It) z18),C.own 5 z4]),(5,Ob.row 3 It z7),(7,Ob.row 22 (Ty.sl It) z18)] 8∧I z19∧mu z19 < mu v1))))) (.ok (((Prod.fst e,L.take (Ty.sl
  It) z12 z13,L.take It z7 z4),()) = (e,())))))))
theorem nb46_go (L:Lv) (F:BxF) (M:BeF) (I:Ds [.sl (.sl It),It]→Prop) (mu:Ds [.sl (.sl It),It]→Nat) (e:BeD) (h:VC.holds (nb46 L F M I mu e)):Holds (vcE L F M [] [] 3 (Db46 (ab46 L I mu)) (Sb46 M) (e,())):=Holds.of_eq (by kernel_rfl) h
theorem okb35 (F:BxF) (M:BeF) (h:M.sum = sumF) (h1:M.nums = numsBF) (q:M.bB = bBF) (k1:XOk prog 83 (Rb83 M).x):SpecOk prog 35 (Sb35 M):=by
 refine Zc hm hE Db35 fnokb35 _ fun (z:BlD × Unit) hpre=>?_
 obtain ⟨b,⟨⟩⟩:=z
 have hpre':M.bB b:=hpre
 rw [q] at hpre'
 have hf:=bB_flat hpre'
 obtain ⟨fl,hfl⟩:∃ l,l = b.2.2.2.2.flatten:=⟨_,rfl⟩
 rw [← hfl] at hf
 let I:Int × Int × Unit→Prop:=fun x=>(0≤x.2.1∧x.2.1≤fl.length)∧x.1 = (fl.take x.2.1.toNat).foldl max b.1
 let mu:Int × Int × Unit→Nat:=fun x=>(fl.length - x.2.1).toNat
 refine Yq _ 3 (ab35 Lv.std I mu) (Zn (T:=tabO [] (eT F M)) (l:=[83]) (Za (Xz k1 (by kernel_rfl)) Z2)) ?_
 refine nb35_go Lv.std F M I mu b ?_
 simp only [nb35,VC.holds,ZJ,ZO,Zb,Zh,Zp,Yj,Ym,Z6,ZM,Yl,Yk,Yf,ZX,ZY,ZT,ZR,Ye,ZN,ZB,ZD,Zm,Z1,ZS,Z5,ZK,ZW,Yb,ZV,ZP,ZQ,Zo,ZH,Ya,Z3,ZI,Yd,Yc,Z4,Z7,Zg,ZC,ZL,ZU,Z8,Z9,Zd,Ze,Zz,ZA,Zu,Zv,Zw,Zx,Zj,Zk,Zs,Zt,Zi,Zl,Zq,Zr,ZG,ZF,ZZ,Yg,ZE,h,h1,q,pe5,numsBF,← hfl,List.take_length,Prod.mk.injEq,and_true,true_and]
 refine ⟨hpre',⟨⟨Int.le_refl 0,by show (0:Int)≤fl.length; omega⟩,rfl⟩,?_⟩
 rintro ⟨m,x,⟨⟩⟩ ⟨⟨i1,i2⟩,i3⟩
 simp only at i1 i2 i3 ⊢
 obtain ⟨j,rfl⟩:=Yp i1
 rw [Int.toNat_natCast] at i3 ⊢
 refine ⟨fun hlt=>?_,fun hge=>?_⟩
 ·rw [wr hlt hf]
  refine ⟨⟨by omega,hlt⟩,by omega,⟨⟨by show (0:Int)≤((j + 1:Nat):Int); omega,by show ((j + 1:Nat):Int)≤fl.length; omega⟩,?_⟩,by show ((fl.length:Int) - ((j + 1:Nat):Int)).toNat < ((fl.length:Int) - j).toNat; omega⟩
  show max m _ = (fl.take ((j + 1:Nat):Int).toNat).foldl max b.1
  rw [Int.toNat_natCast,fold_take fl b.1 j (by omega),i3]
 ·rw [i3,List.take_of_length_le (by omega)]
  unfold sumF
  rw [fold_max,hfl]
theorem okb46 (F:BxF) (M:BeF) (q:M.bE = bEF):SpecOk prog 46 (Sb46 M):=by
 refine Zc hm hE Db46 fnokb46 _ fun (z:BeD × Unit) hpre=>?_
 obtain ⟨e,⟨⟩⟩:=z
 have hpre':M.bE e:=hpre
 rw [q] at hpre'
 obtain ⟨g1,g2,g3⟩:=hpre'
 let I:List (List Int) × Int × Unit→Prop:=fun x=>(0≤x.2.1∧x.2.1≤e.2.1.length)∧x.1 = e.2.1.take x.2.1.toNat
 let mu:List (List Int) × Int × Unit→Nat:=fun x=>(e.2.1.length - x.2.1).toNat
 refine Yq _ 3 (ab46 Lv.std I mu) (Zn (T:=tabO [] (eT F M)) (l:=[]) Z2) ?_
 refine nb46_go Lv.std F M I mu e ?_
 simp only [nb46,VC.holds,ZJ,ZO,Zb,Zh,Zp,Yj,Ym,Z6,ZM,Yl,Yk,Yf,ZX,ZY,ZT,ZR,Ye,ZN,ZB,ZD,Zm,Z1,ZS,Z5,ZK,ZW,Yb,ZV,ZP,ZQ,Zo,ZH,Ya,Z3,ZI,Yd,Yc,Z4,Z7,Zg,ZC,ZL,ZU,Z8,Z9,Zd,Ze,Zz,ZA,Zu,Zv,Zw,Zx,Zj,Zk,Zs,Zt,Zi,Zl,Zq,Zr,ZG,ZF,ZZ,Yg,ZE,List.take_length,List.take_succ_cons,List.take_zero,List.take_nil,List.nil_append,List.length_append,List.length_cons,List.length_nil,Nat.zero_add,pe5,Prod.mk.injEq,and_true,true_and]
 refine ⟨⟨by omega,by omega⟩,⟨⟨Int.le_refl 0,by show (0:Int)≤e.2.1.length; omega⟩,rfl⟩,?_⟩
 all_goals
  rintro ⟨l,x,⟨⟩⟩ ⟨⟨i1,i2⟩,i3⟩
  simp only at i1 i2 i3 ⊢
  obtain ⟨k,rfl⟩:=Yp i1
  rw [Int.toNat_natCast] at i3
  have hl:l.length = k:=by rw [i3,List.length_take]; omega
  rw [hl,Int.toNat_natCast]
  refine ⟨fun hlt=>?_,fun hge=>?_⟩
  ·have hk:k < e.2.1.length:=by omega
   rw [wr hlt (by omega),List.getElem?_eq_getElem hk,Option.getD_some]
   have b1:=g3 _ (List.getElem_mem hk)
   refine ⟨⟨i1,hlt⟩,⟨by omega,by omega⟩,⟨by omega,by omega⟩,⟨⟨by show (0:Int)≤((k + 1:Nat):Int); omega,by show ((k + 1:Nat):Int)≤_; omega⟩,?_⟩,by show ((e.2.1.length:Int) - ((k + 1:Nat):Int)).toNat < ((e.2.1.length:Int) - k).toNat; omega⟩
   show l ++ [e.2.1[k]] = e.2.1.take ((k + 1:Nat):Int).toNat
   rw [Int.toNat_natCast,List.take_succ,List.getElem?_eq_getElem hk,i3]; rfl
  ·rw [i3,List.take_of_length_le (by omega)]
end Go.Proofs.Tryz
namespace Go.Proofs.Tryz
open Go Go.VM
noncomputable def oIn (F:BxF):List (Nat × FT):=[(37,.spec (S86 F))]
end Go.Proofs.Tryz
namespace Go.Proofs.Tryz
open Go Go.VM
structure IxF where
 p:List Int→Prop
 ix:List Int→Int→Int
def ixF (l:List Int) (n:Int):Int:=match l.findIdx? fun x=>decide (n = x) with
 | some k=>(k:Int)
 | none=>-1
def hasIF (l:List Int) (n:Int):Bool:=decide (n ∈ l)
theorem ix_has (l:List Int) (n:Int):decide (0≤ixF l n) = hasIF l n:=by
 unfold ixF hasIF
 cases h:l.findIdx? fun x=>decide (n = x) with
 | none =>
   have h2:=List.findIdx?_eq_none_iff.1 h
   have:n ∉ l:=fun hn=>by have:=h2 n hn; simp at this
   rw [decide_eq_false this]; rfl
 | some k =>
   obtain ⟨hk,h2,_⟩:=List.findIdx?_eq_some_iff_getElem.1 h
   have:n ∈ l:=by rw [of_decide_eq_true h2]; exact List.getElem_mem hk
   rw [decide_eq_true this,decide_eq_true (by omega:(0:Int)≤(k:Int))]
def numL (b:BlD):List Int:=b.2.2.2.2.flatten ++ [b.1]
def sawF (e:BeD) (i:Nat):List Int:=(e.2.1[i]?).getD []
def wtF (b:BlD) (i:Nat):Int:=(b.2.2.2.1[i]?).getD 0
def seenF (b:BlD) (i:Int) (l:List Int):Bool :=
 if sumF b < wtF b i.toNat then decide (l.length = 0) else decide (l.length = 1) && decide (wtF b i.toNat≤(l[0]?).getD 0) && decide ((l[0]?).getD 0 ∈ numL b)
def onF (m:Nat) (l:List Int):Bool:=l.all (fun i=>decide (0≤i∧i < (m:Int))) && decide l.Nodup
def atF (b:BlD) (e:BeD) (i:Nat):Bool:=seenF b (i:Int) (sawF e i) && (decide ((sawF e i).length ≠ 0) || decide ((i:Int) ∈ e.2.2))
def soundF (b:BlD) (e:BeD):Bool:=decide (e.1 = sumF b) && decide (e.2.1.length = b.2.2.2.1.length) && onF b.2.2.2.1.length e.2.2 && (List.range b.2.2.2.1.length).all fun i=>atF b e i
def isListF (b:BlD) (e:BeD):Bool:=onF b.2.2.2.1.length e.2.2 && (List.range b.2.2.2.1.length).all fun i=>(decide ((sawF e i).length ≠ 0) || decide ((i:Int) ∈ e.2.2))
def soundEF (b:BlD) (e:BeD):Bool × Int:=if chkB b ≠ 0 then (false,chkB b) else (soundF b e,0)
def pSeenF (b:BlD) (i:Int) (l:List Int):Prop:=bBF b∧(0≤i∧i < b.2.2.2.1.length)∧l.length≤1000000
def pSndF (b:BlD) (e:BeD):Prop:=bBF b∧bEF e
def pIsLF (b:BlD) (e:BeD):Prop:=bBF b∧bEF e∧e.2.1.length = b.2.2.2.1.length
theorem on_snoc (m:Nat) (l:List Int) (k:Nat) (hk:k < l.length):onF m (l.take (k + 1)) = (onF m (l.take k) && decide (0≤l[k]∧l[k] < (m:Int)) && decide (l[k] ∉ l.take k)):=by
 unfold onF
 rw [List.take_succ,List.getElem?_eq_getElem hk,List.all_append]
 have e:decide (l.take k ++ (some l[k]).toList).Nodup = (decide (l.take k).Nodup && decide (l[k] ∉ l.take k)):=by
  rw [← Bool.decide_and]
  congr 1
  rw [List.nodup_append]
  simp only [Option.toList_some,eq_iff_iff]
  constructor
  ·rintro ⟨h1,_,h3⟩
   exact ⟨h1,fun h=>h3 _ h _ (List.mem_singleton.2 rfl) rfl⟩
  ·rintro ⟨h1,h2⟩
   refine ⟨h1,List.nodup_cons.2 ⟨List.not_mem_nil,List.nodup_nil⟩,fun a ha b hb=>?_⟩
   rw [List.mem_singleton.1 hb]
   exact fun e=>h2 (e ▸ ha)
 rw [e]
 have e2:(some l[k]).toList.all (fun i=>decide (0≤i∧i < (m:Int))) = decide (0≤l[k]∧l[k] < (m:Int)):=by simp
 rw [e2]
 cases (l.take k).all fun i=>decide (0≤i∧i < (m:Int)) <;> cases decide (l.take k).Nodup <;> cases decide (0≤l[k]∧l[k] < (m:Int)) <;> rfl
theorem on_part {m:Nat} {l:List Int} {k:Nat} (h:onF m (l.take k) = false):onF m l = false:=by
 cases h':onF m l with
 | false=>rfl
 | true =>
   exfalso
   unfold onF at h h'
   rw [Bool.and_eq_true] at h'
   have h1:(l.take k).all (fun i=>decide (0≤i∧i < (m:Int))) = true:=List.all_eq_true.2 fun x hx=>List.all_eq_true.1 h'.1 x (List.mem_of_mem_take hx)
   have h2:(l.take k).Nodup:=(of_decide_eq_true h'.2).sublist (List.take_sublist _ _)
   rw [h1,decide_eq_true h2] at h
   cases h
theorem keq_int (k:IntKind) (x y:Int):keq (.int k) x y = decide (x = y):=by
 show (x == y) = _
 by_cases h:x = y
 ·subst h; simp
 ·simp [h]
theorem mvalI_cons (a:Int) (c:Bool) (r:List (Int × Bool)) (t:Int):mvalL It .bool ((a,c) :: r) t = if t = a then c else mvalL It .bool r t:=by
 show (if keq It t a = true then c else mvalL It .bool r t) = _
 rw [keq_int]
 by_cases h:t = a
 ·rw [if_pos h,decide_eq_true h,if_pos rfl]
 ·rw [if_neg h,decide_eq_false h,if_neg (by simp)]
theorem mputI_cons (a:Int) (c:Bool) (r:List (Int × Bool)) (x:Int):mputL It .bool ((a,c) :: r) x true = if x = a then (x,true) :: r else (a,c) :: mputL It .bool r x true:=by
 show (if keq It x a = true then (x,true) :: r else (a,c) :: mputL It .bool r x true) = _
 rw [keq_int]
 by_cases h:x = a
 ·rw [if_pos h,decide_eq_true h,if_pos rfl]
 ·rw [if_neg h,decide_eq_false h,if_neg (by simp)]
theorem mvalI_put (t x:Int):∀ m:List (Int × Bool),mvalL It .bool (mputL It .bool m x true) t = (decide (t = x) || mvalL It .bool m t)
 | []=>by
   show mvalL It .bool [(x,true)] t = (decide (t = x) || false)
   rw [mvalI_cons]
   by_cases h:t = x
   ·rw [if_pos h,decide_eq_true h]; rfl
   ·rw [if_neg h,decide_eq_false h]; rfl
 | (a,c) :: r=>by
   have ih:=mvalI_put t x r
   rw [mputI_cons,mvalI_cons]
   by_cases hx:x = a
   ·subst hx
    rw [if_pos rfl,mvalI_cons]
    by_cases h:t = x
    ·rw [if_pos h,decide_eq_true h]; rfl
    ·rw [if_neg h,if_neg h,decide_eq_false h]; rfl
   ·rw [if_neg hx,mvalI_cons,ih]
    by_cases h:t = a
    ·subst h
     rw [if_pos rfl,if_pos rfl,decide_eq_false (fun e=>hx e.symm)]; rfl
    ·rw [if_neg h,if_neg h]
theorem sound_iff (b:BlD) (e:BeD):soundF b e = true↔e.1 = sumF b∧e.2.1.length = b.2.2.2.1.length∧onF b.2.2.2.1.length e.2.2 = true∧∀ i:Nat,i < b.2.2.2.1.length→atF b e i = true:=by
 unfold soundF
 simp only [Bool.and_eq_true,decide_eq_true_eq,List.all_eq_true,List.mem_range,and_assoc]
theorem isList_iff (b:BlD) (e:BeD):isListF b e = true↔onF b.2.2.2.1.length e.2.2 = true∧∀ i:Nat,i < b.2.2.2.1.length→(decide ((sawF e i).length ≠ 0) || decide ((i:Int) ∈ e.2.2)) = true:=by
 unfold isListF
 simp only [Bool.and_eq_true,List.all_eq_true,List.mem_range]
theorem falseOf {b:Bool} (h:b = true→False):false = b:=by
 cases b with
 | false=>rfl
 | true=>exact (h rfl).elim
theorem on_bad {m:Nat} {l:List Int} {k:Nat} (hk:k < l.length) (h:¬ (0≤l[k]∧l[k] < (m:Int))∨l[k] ∈ l.take k):onF m l = false:=by
 refine on_part (k:=k + 1) ?_
 rw [on_snoc m l k hk]
 rcases h with h | h
 ·rw [decide_eq_false h]; simp
 ·rw [decide_eq_false (p:=l[k] ∉ l.take k) (fun hn=>hn h)]; simp
theorem on_good {m:Nat} {l:List Int} {k:Nat} (hk:k < l.length) (h:onF m (l.take k) = true) (h1:0≤l[k]∧l[k] < (m:Int)) (h2:l[k] ∉ l.take k):onF m (l.take (k + 1)) = true:=by
 rw [on_snoc m l k hk,h,decide_eq_true h1,decide_eq_true h2]; rfl
theorem mem_take1 {l:List Int} {k:Nat} (hk:k < l.length) (t:Int):t ∈ l.take (k + 1)↔t = l[k]∨t ∈ l.take k:=by
 rw [List.take_succ,List.getElem?_eq_getElem hk,List.mem_append]
 simp only [Option.toList_some,List.mem_singleton]
 exact or_comm
theorem lt_succ_cases {k i:Nat} {P:Nat→Prop} (h:∀ i,i < k→P i) (hk:P k):i < k + 1→P i:=fun hi=>by
 rcases Nat.lt_or_ge i k with h' | h'
 ·exact h i h'
 ·have:i = k:=by omega
  rw [this]; exact hk
theorem on_nil (m:Nat):onF m [] = true:=by unfold onF; simp
end Go.Proofs.Tryz
namespace Go.Proofs.Tryz
open Go Go.VM
def Sb175 (M:BeF):VM.Spec:=⟨[.sl It,It],[.bool],fun x=>M.pMax x.1,fun x=>(M.has x.1 x.2.1,())⟩
def Sb210 (J:IxF):VM.Spec:=⟨[.sl It,It],[It],fun x=>J.p x.1,fun x=>(J.ix x.1 x.2.1,())⟩
def LBE:VM.Spec:=⟨[Bl,Be],[.bool],fun x=>bTF x.1∧bETF x.2.1,fun _=>(true,())⟩
noncomputable def oCo (J:IxF):List (Nat × FT):=[(210,.spec (Sb210 J))]
noncomputable def oSe (M:BeF):List (Nat × FT):=[(175,.spec (Sb175 M))]
def ab1 (L:Lv) (j:Nat) (js:List Nat) (I:Ds [It]→Prop) (mu:Ds [It]→Nat):Nat→LAnn
 | 0=>anH L js [] [.s j It] I mu
 | _=>.no
def ab65 (L:Lv) (I:Ds [.sl (.pair It .bool),It]→Prop) (mu:Ds [.sl (.pair It .bool),It]→Nat) (I2:Ds [It]→Prop) (m2:Ds [It]→Nat):Nat→LAnn
 | 0=>anH L [2,3,5,6,29,30,31] [] [.m 6 It .bool,.s 31 It] I mu
 | 2=>anH L [2,6,51,52,53] [] [.s 53 It] I2 m2
 | _=>.no
def ab96 (L:Lv) (I:Ds [It]→Prop) (mu:Ds [It]→Nat) (I2:Ds [It]→Prop) (m2:Ds [It]→Nat):Nat→LAnn
 | 0=>anH L [2,3,5] [] [.s 5 It] I mu
 | 2=>anH L [2,3,6] [] [.s 6 It] I2 m2
 | _=>.no
def nb210 (L:Lv) (F:BxF) (M:BeF) (J:IxF) (I:Ds [It]→Prop) (mu:Ds [It]→Nat) (l:List Int) (n:Int)  : VC :=
 let z1:=L.cast (L.llen It l); .obl (St.mk 19 [(0,V.c (C.sl It l)),(1,V.c (C.int .i64 n)),(7,V.c (C.int .i64 z1)),(8,V.c (C.int .i64 0))] [(0,
  Ob.amb)] 1 = St.mk 19 [(0,V.c (C.sl It l)),(1,V.c (C.int .i64 n)),(7,V.c (C.int .i64 z1)),(8,V.c (C.int .i64 0))] [(0,Ob.amb)] 1) (.obl (I (0,()))
  (.all (Int × Unit) fun (v1:Int × Unit) =>
 let z2:=v1.1;
 let z3:=L.ar .add .i64 z2 1;
 let z4:=(L.ar .add .i64 z2 1,()); .imp (I v1) (.br (L.cmp .lss z2 z1) (.obl (L.inR z2 (L.llen It l)) (.br (L.cmp .eql n (L.get It
  l (L.toN z2))) (.ok ((Prod.fst v1,()) = (IxF.ix J l n,()))) (.ok (St.mk 19 [(0,V.c (C.sl It l)),(1,V.c (C.int .i64 n)),(7,V.c (C.int .i64 z1)),(8,
  V.c (C.int .i64 z3))] [(0,Ob.amb)] 1 = St.mk 19 [(0,V.c (C.sl It l)),(1,V.c (C.int .i64 n)),(7,V.c (C.int .i64 z1)),(8,V.c (C.int .i64 z3))]
  [(0,Ob.amb)] 1∧I z4∧mu z4 < mu v1)))) (.ok ((Int.negSucc 0,()) = (IxF.ix J l n,()))))))
theorem nb210_go (L:Lv) (F:BxF) (M:BeF) (J:IxF) (I:Ds [It]→Prop) (mu:Ds [It]→Nat) (l:List Int) (n:Int) (h:VC.holds (nb210 L F M J I mu l n)):Holds (vcE L F M [] [] 3 (Db210 (ab1 L 8 [0,1,7,8] I mu)) (Sb210 J) (l,n,())):=Holds.of_eq (by kernel_rfl) h
def nb175 (L:Lv) (F:BxF) (M:BeF) (J:IxF) (l:List Int) (n:Int)  : VC :=
 .obl (IxF.p J l) (.br (L.cmp .geq (IxF.ix J l n) 0) (.ok ((true,()) = (BeF.has M l n,()))) (.ok ((false,()) = (BeF.has M l n,()))))
theorem nb175_go (L:Lv) (F:BxF) (M:BeF) (J:IxF) (l:List Int) (n:Int) (h:VC.holds (nb175 L F M J l n)):Holds (vcE L F M (oCo J) [210] 3 (Db175 a0) (Sb175 M) (l,n,())):=Holds.of_eq (by kernel_rfl) h
def nb112 (L:Lv) (F:BxF) (M:BeF) (b:BlD) (i:Int) (l:List Int)  : VC :=
 let z1:=b.2.2;
 let z2:=z1.2;
 let z3:=z2.1;
 let z4:=L.inR i (L.llen It z3);
 let z5:=(Prod.fst b,b.2.1,z1.1,z2.1,z2.2);
 let z6:=L.get It z3 (L.toN i);
 let z7:=L.cast (L.llen It l);
 let z8:=L.inR 0 (L.llen It l);
 let z9:=L.get It l (L.toN 0);
 let z10:=z2.2;
 let z11:=L.take It (BeF.cat M z10) (L.llen It (BeF.cat M z10));
 let z12:=L.take It [Prod.fst b] 1;
 let z13:=L.add (L.llen It z11) (L.llen It z12);
 let z14:=L.take It (L.app It z11 z12) z13; .obl z4 (.obl (BeF.bB M z5) (.br (L.cmp .gtr z6 (BeF.sum M z5)) (.br (L.cmp .eql z7 0) (.ok ((true,())
  = (BeF.seen M b i l,()))) (.ok ((false,()) = (BeF.seen M b i l,())))) (.br (L.cmp .eql z7 1) (.obl z8 (.obl z4 (.br (L.cmp .geq z9 z6) (.obl
  (BeF.bLL M z10) (.obl (L.room z13 8) (.obl z8 (.obl (BeF.pMax M z14) (.br (BeF.has M z14 z9) (.ok ((true,()) = (BeF.seen M b i l,()))) (.ok ((false,()) =
  (BeF.seen M b i l,())))))))) (.ok ((false,()) = (BeF.seen M b i l,())))))) (.ok ((false,()) = (BeF.seen M b i l,()))))))
theorem nb112_go (L:Lv) (F:BxF) (M:BeF) (b:BlD) (i:Int) (l:List Int) (h:VC.holds (nb112 L F M b i l)):Holds (vcE L F M (oSe M) [88,148,175] 3 (Db112 a0) (Sb112 M) (b,i,l,())):=Holds.of_eq (by kernel_rfl) h
def nb65 (L:Lv) (F:BxF) (M:BeF) (I:Ds [.sl (.pair It .bool),It]→Prop) (mu:Ds [.sl (.pair It .bool),It]→Nat) (I2:Ds [It]→Prop) (m2:Ds [It]→Nat) (b:BlD) (e:BeD)  : VC :=
 let z1:=b.2;
 let z2:=z1.2;
 let z3:=z2.2;
 let z4:=(Prod.fst b,z1.1,z2.1,z3.1,z3.2);
 let z5:=e.1;
 let z6:=e.2.1;
 let z7:=L.llen (Ty.sl It) z6;
 let z8:=L.cast z7;
 let z9:=z3.1;
 let z10:=L.cast (L.llen It z9);
 let z11:=e.2.2;
 let z12:=L.llen It z11;
 let z13:=L.cast z12;
 let z14:=b.1;
 let z15:=z1.1;
 let z16:=z2.1;
 let z17:=z3.2; .obl (BeF.bB M z4) (.br (L.cmp .neq z5 (BeF.sum M z4)) (.ok ((false,()) = (BeF.sound M b e,()))) (.br (L.cmp .neq z8 z10) (.ok
  ((false,()) = (BeF.sound M b e,()))) (.obl (St.mk 75 [(2,V.c (C.ptr 1 0)),(3,V.c (C.ptr 2 0)),(5,V.c (C.int .i64 z10)),(6,V.c (C.map 4)),(29,V.c (C.sl It
  z11)),(30,V.c (C.int .i64 z13)),(31,V.c (C.int .i64 0))] [(0,Ob.amb),(1,Ob.box 106 [C.int .i64 z14,C.int .i64 z15,C.sym z16,C.sl It z9,C.sl
  (Ty.sl It) z17]),(2,Ob.box 31 [C.int .i64 z5,C.sl (Ty.sl It) z6,C.sl It z11]),(4,Ob.map It Ty.bool [])] 5 = St.mk 75 [(2,V.c (C.ptr 1 0)),(3,V.c (C.ptr 2 0)),(5,
  V.c (C.int .i64 z10)),(6,V.c (C.map 4)),(29,V.c (C.sl It z11)),(30,V.c (C.int .i64 z13)),(31,V.c (C.int .i64 0))] [(0,Ob.amb),(1,Ob.box 106 [C.int
  .i64 z14,C.int .i64 z15,C.sym z16,C.sl It z9,C.sl (Ty.sl It) z17]),(2,Ob.box 31 [C.int .i64 z5,C.sl (Ty.sl It) z6,C.sl It z11]),(4,Ob.map It
  Ty.bool [])] 5) (.obl (I ([],0,())) (.all (List (Int × Bool) × Int × Unit) fun (v1:List (Int × Bool) × Int × Unit) =>
 let z18:=v1.2.1;
 let z19:=L.get It z11 (L.toN z18);
 let z20:=v1.1;
 let z21:=L.ar .add .i64 z18 1;
 let z22:=L.mput It Ty.bool z20 z19 true;
 let z23:=(L.mput It Ty.bool z20 z19 true,L.ar .add .i64 z18 1,()); .imp (I v1) (.br (L.cmp .lss z18 z13) (.obl (L.inR z18 z12) (.br (Lv.cmp
  L .lss z19 0) (.ok ((false,()) = (BeF.sound M b e,()))) (.br (L.cmp .geq z19 z10) (.ok ((false,()) = (BeF.sound M b e,()))) (.br (L.mval It Ty.bool
  z20 z19) (.ok ((false,()) = (BeF.sound M b e,()))) (.ok (St.mk 75 [(2,V.c (C.ptr 1 0)),(3,V.c (C.ptr 2 0)),(5,V.c (C.int .i64 z10)),(6,V.c (C.map 4)),(29,
  V.c (C.sl It z11)),(30,V.c (C.int .i64 z13)),(31,V.c (C.int .i64 z21))] [(0,Ob.amb),(1,Ob.box 106 [C.int .i64 z14,C.int .i64 z15,C.sym z16,
  C.sl It z9,C.sl (Ty.sl It) z17]),(2,Ob.box 31 [C.int .i64 z5,C.sl (Ty.sl It) z6,C.sl It z11]),(4,Ob.map It Ty.bool z22)] 5 = St.mk 75 [(2,V.c (C.ptr 1 0)),(3,V.c
  (C.ptr 2 0)),(5,V.c (C.int .i64 z10)),(6,V.c (C.map 4)),(29,V.c (C.sl It z11)),(30,V.c (C.int .i64 z13)),(31,V.c (C.int .i64 z21))] [(0,Ob.amb),
  (1,Ob.box 106 [C.int .i64 z14,C.int .i64 z15,C.sym z16,C.sl It z9,C.sl (Ty.sl It) z17]),(2,Ob.box 31 [C.int .i64 z5,C.sl (Ty.sl It) z6,C.sl It
  z11]),(4,Ob.map It Ty.bool z22)] 5∧I z23∧mu z23 < mu v1)))))) (.obl (St.mk 75 [(2,V.c (C.ptr 1 0)),(6,V.c (C.map 4)),(51,V.c (C.sl (Ty.sl It) z6)),(52,V.c (C.int
  .i64 z8)),(53,V.c (C.int .i64 0))] [(0,Ob.amb),(1,Ob.box 106 [C.int .i64 z14,C.int .i64 z15,C.sym z16,C.sl It z9,C.sl (Ty.sl It) z17]),(2,
  Ob.box 31 [C.int .i64 z5,C.sl (Ty.sl It) z6,C.sl It z11]),(4,Ob.map It Ty.bool z20)] 5 = St.mk 75 [(2,V.c (C.ptr 1 0)),(6,V.c (C.map 4)),(51,V.c (C.sl (Ty.sl It)
  z6)),(52,V.c (C.int .i64 z8)),(53,V.c (C.int .i64 0))] [(0,Ob.amb),(1,Ob.box 106 [C.int .i64 z14,C.int .i64 z15,C.sym z16,C.sl It z9,C.sl
  (Ty.sl It) z17]),(2,Ob.box 31 [C.int .i64 z5,C.sl (Ty.sl It) z6,C.sl It z11]),(4,Ob.map It Ty.bool z20)] 5) (.obl (I2 (0,())) (.all (Int × Unit) fun (v2:Int ×
  Unit) =>
 let z24:=v2.1;
 let z25:=L.get (Ty.sl It) z6 (L.toN z24);
 let z26:=L.ar .add .i64 z24 1;
 let z27:=(L.ar .add .i64 z24 1,()); .imp (I2 v2) (.br (L.cmp .lss z24 z8) (.obl (L.inR z24 z7) (.obl (BeF.pSeen M z4 z24 z25) (.br (BeF.seen
  M z4 z24 z25) (.br (L.cmp .eql (L.cast (L.llen It z25)) 0) (.br (L.mval It Ty.bool z20 z24) (.ok (St.mk 75 [(2,V.c (C.ptr 1 0)),(6,V.c (C.map 4)),(51,
  V.c (C.sl (Ty.sl It) z6)),(52,V.c (C.int .i64 z8)),(53,V.c (C.int .i64 z26))] [(0,Ob.amb),(1,Ob.box 106 [C.int .i64 z14,C.int .i64 z15,C.sym
  z16,C.sl It z9,C.sl (Ty.sl It) z17]),(2,Ob.box 31 [C.int .i64 z5,C.sl (Ty.sl It) z6,C.sl It z11]),(4,Ob.map It Ty.bool z20)] 5 = St.mk 75 [(2,V.c (C.ptr 1 0)),
  (6,V.c (C.map 4)),(51,V.c (C.sl (Ty.sl It) z6)),(52,V.c (C.int .i64 z8)),(53,V.c (C.int .i64 z26))] [(0,Ob.amb),(1,Ob.box 106 [C.int .i64 z14,
  C.int .i64 z15,C.sym z16,C.sl It z9,C.sl (Ty.sl It) z17]),(2,Ob.box 31 [C.int .i64 z5,C.sl (Ty.sl It) z6,C.sl It z11]),(4,Ob.map It Ty.bool z20)] 5∧I2
  z27∧m2 z27 < m2 v2)) (.ok ((false,()) = (BeF.sound M b e,())))) (.ok (St.mk 75 [(2,V.c (C.ptr 1 0)),(6,V.c (C.map 4)),(51,V.c (C.sl (Ty.sl It) z6)),(52,V.c (C.int
  .i64 z8)),(53,V.c (C.int .i64 z26))] [(0,Ob.amb),(1,Ob.box 106 [C.int .i64 z14,C.int .i64 z15,C.sym z16,C.sl It z9,C.sl (Ty.sl It) z17]),(2,
  Ob.box 31 [C.int .i64 z5,C.sl (Ty.sl It) z6,C.sl It z11]),(4,Ob.map It Ty.bool z20)] 5 = St.mk 75 [(2,V.c (C.ptr 1 0)),(6,V.c (C.map 4)),(51,V.c (C.sl (Ty.sl It)
  z6)),(52,V.c (C.int .i64 z8)),(53,V.c (C.int .i64 z26))] [(0,Ob.amb),(1,Ob.box 106 [C.int .i64 z14,C.int .i64 z15,C.sym z16,C.sl It z9,C.sl
  (Ty.sl It) z17]),(2,Ob.box 31 [C.int .i64 z5,C.sl (Ty.sl It) z6,C.sl It z11]),(4,Ob.map It Ty.bool z20)] 5∧I2 z27∧m2 z27 < m2 v2))) (.ok ((false,()) =
  (BeF.sound M b e,())))))) (.ok ((true,()) = (BeF.sound M b e,())))))))))))))
theorem nb65_go (L:Lv) (F:BxF) (M:BeF) (I:Ds [.sl (.pair It .bool),It]→Prop) (mu:Ds [.sl (.pair It .bool),It]→Nat) (I2:Ds [It]→Prop) (m2:Ds [It]→Nat) (b:BlD) (e:BeD) (h:VC.holds (nb65 L F M I mu I2 m2 b e)):Holds (vcE L F M [] [88,112] 3 (Db65 (ab65 L I mu I2 m2)) (Sb65 M) (b,e,())):=Holds.of_eq (by kernel_rfl) h
def nb45 (L:Lv) (F:BxF) (M:BeF) (b:BlD) (e:BeD)  : VC :=
 let z1:=b.2.2;
 let z2:=z1.2;
 let z3:=(Prod.fst b,b.2.1,z1.1,z2.1,z2.2);
 let z4:=(Prod.fst (BeF.soundE M b e),Prod.snd (BeF.soundE M b e),());
 let z5:=(Prod.fst e,e.2.1,e.2.2); .obl (BeF.bB M z3) (.br (L.cmp .neq (BeF.chk M z3) 0) (.ok ((false,BeF.chk M z3,()) = z4))
  (.obl (BeF.pSnd M z3 z5) (.br (BeF.sound M z3 z5) (.ok ((true,0,()) = z4)) (.ok ((false,0,()) = z4)))))
theorem nb45_go (L:Lv) (F:BxF) (M:BeF) (b:BlD) (e:BeD) (h:VC.holds (nb45 L F M b e)):Holds (vcE L F M [] [62,65] 3 (Db45 a0) (Sb45 M) (b,e,())):=Holds.of_eq (by kernel_rfl) h
def nb32 (L:Lv) (F:BxF) (M:BeF) (I:Ds [It]→Prop) (mu:Ds [It]→Nat) (l:List Int) (n:Int)  : VC :=
 .obl (St.mk 18 [(0,V.c (C.sl It l)),(1,V.c (C.int .i64 n)),(5,V.c (C.int .i64 0))] [(0,Ob.amb)] 1 = St.mk 18 [(0,V.c (C.sl It l)),(1,V.c (C.int .i64
  n)),(5,V.c (C.int .i64 0))] [(0,Ob.amb)] 1) (.obl (I (0,())) (.all (Int × Unit) fun (v1:Int × Unit) =>
 let z1:=v1.1;
 let z2:=L.ar .add .i64 z1 1;
 let z3:=(L.ar .add .i64 z1 1,()); .imp (I v1) (.br (L.cmp .lss z1 (L.cast (L.llen It l))) (.obl (L.inR z1 (L.llen It l)) (.br (Lv.cmp
  L .eql (L.get It l (L.toN z1)) n) (.ok ((true,()) = (BeF.has M l n,()))) (.ok (St.mk 18 [(0,V.c (C.sl It l)),(1,V.c (C.int .i64 n)),(5,V.c (C.int
  .i64 z2))] [(0,Ob.amb)] 1 = St.mk 18 [(0,V.c (C.sl It l)),(1,V.c (C.int .i64 n)),(5,V.c (C.int .i64 z2))] [(0,Ob.amb)] 1∧I z3∧mu z3 < mu v1))))
  (.ok ((false,()) = (BeF.has M l n,()))))))
theorem nb32_go (L:Lv) (F:BxF) (M:BeF) (I:Ds [It]→Prop) (mu:Ds [It]→Nat) (l:List Int) (n:Int) (h:VC.holds (nb32 L F M I mu l n)):Holds (vcE L F M [] [] 3 (Db32 (ab1 L 5 [0,1,5] I mu)) (Sb32 F M) (l,n,())):=Holds.of_eq (by kernel_rfl) h
def nb96 (L:Lv) (F:BxF) (M:BeF) (I:Ds [It]→Prop) (mu:Ds [It]→Nat) (I2:Ds [It]→Prop) (m2:Ds [It]→Nat) (b:BlD) (e:BeD)  : VC :=
 let z1:=b.1;
 let z2:=b.2.1;
 let z3:=b.2.2;
 let z4:=z3.1;
 let z5:=z3.2;
 let z6:=z5.1;
 let z7:=z5.2;
 let z8:=e.1;
 let z9:=e.2.1;
 let z10:=e.2.2;
 let z11:=L.llen It z10;
 let z12:=L.cast (L.llen It z6);
 let z13:=L.toN (L.cast 0); .obl (St.mk 58 [(2,V.c (C.ptr 1 0)),(3,V.c (C.ptr 2 0)),(5,V.c (C.int .i64 0))] [(0,Ob.amb),(1,Ob.box 28 [C.int .i64 z1,
  C.int .i64 z2,C.sym z4,C.sl It z6,C.sl (Ty.sl It) z7]),(2,Ob.box 31 [C.int .i64 z8,C.sl (Ty.sl It) z9,C.sl It z10])] 3 = St.mk 58 [(2,V.c (C.ptr 1 0)),(3,
  V.c (C.ptr 2 0)),(5,V.c (C.int .i64 0))] [(0,Ob.amb),(1,Ob.box 28 [C.int .i64 z1,C.int .i64 z2,C.sym z4,C.sl It z6,C.sl (Ty.sl It) z7]),(2,Ob.box
  31 [C.int .i64 z8,C.sl (Ty.sl It) z9,C.sl It z10])] 3) (.obl (I (0,())) (.all (Int × Unit) fun (v1:Int × Unit) =>
 let z14:=v1.1;
 let z15:=L.inR z14 z11;
 let z16:=L.toN z14;
 let z17:=L.get It z10 z16;
 let z18:=L.drop It (L.take It z10 z16) z13;
 let z19:=L.ar .add .i64 z14 1;
 let z20:=(L.ar .add .i64 z14 1,()); .imp (I v1) (.br (L.cmp .lss z14 (L.cast z11)) (.obl z15 (.obl True (.br (BxF.within F z17 0 (L.ar
  .sub .i64 z12 1)) (.obl (L.le3 (L.cast 0) z14 z11) (.obl z15 (.obl (BxF.bl F z18) (.br (BeF.has M z18 z17) (.ok ((false,()) = (BeF.isList M b e,
  ()))) (.ok (St.mk 58 [(2,V.c (C.ptr 1 0)),(3,V.c (C.ptr 2 0)),(5,V.c (C.int .i64 z19))] [(0,Ob.amb),(1,Ob.box 28 [C.int .i64 z1,C.int .i64 z2,
  C.sym z4,C.sl It z6,C.sl (Ty.sl It) z7]),(2,Ob.box 31 [C.int .i64 z8,C.sl (Ty.sl It) z9,C.sl It z10])] 3 = St.mk 58 [(2,V.c (C.ptr 1 0)),(3,V.c (C.ptr 2 0)),(5,
  V.c (C.int .i64 z19))] [(0,Ob.amb),(1,Ob.box 28 [C.int .i64 z1,C.int .i64 z2,C.sym z4,C.sl It z6,C.sl (Ty.sl It) z7]),(2,Ob.box 31 [C.int
  .i64 z8,C.sl (Ty.sl It) z9,C.sl It z10])] 3∧I z20∧mu z20 < mu v1)))))) (.ok ((false,()) = (BeF.isList M b e,())))))) (.obl (St.mk 58 [(2,V.c (C.ptr 1 0)),(3,
  V.c (C.ptr 2 0)),(6,V.c (C.int .i64 0))] [(0,Ob.amb),(1,Ob.box 28 [C.int .i64 z1,C.int .i64 z2,C.sym z4,C.sl It z6,C.sl (Ty.sl It) z7]),(2,Ob.box
  31 [C.int .i64 z8,C.sl (Ty.sl It) z9,C.sl It z10])] 3 = St.mk 58 [(2,V.c (C.ptr 1 0)),(3,V.c (C.ptr 2 0)),(6,V.c (C.int .i64 0))] [(0,Ob.amb),(1,Ob.box 28
  [C.int .i64 z1,C.int .i64 z2,C.sym z4,C.sl It z6,C.sl (Ty.sl It) z7]),(2,Ob.box 31 [C.int .i64 z8,C.sl (Ty.sl It) z9,C.sl It z10])] 3) (.obl (I2
  (0,())) (.all (Int × Unit) fun (v2:Int × Unit) =>
 let z21:=v2.1;
 let z22:=L.ar .add .i64 z21 1;
 let z23:=(L.ar .add .i64 z21 1,()); .imp (I2 v2) (.br (L.cmp .lss z21 z12) (.obl (L.inR z21 (L.llen (Ty.sl It) z9)) (.br (L.cmp .eql
  (L.cast (L.llen It (L.get (Ty.sl It) z9 (L.toN z21)))) 0) (.obl (BxF.bl F z10) (.br (BeF.has M z10 z21) (.ok (St.mk 58 [(2,V.c (C.ptr 1 0)),(3,V.c (C.ptr 2
  0)),(6,V.c (C.int .i64 z22))] [(0,Ob.amb),(1,Ob.box 28 [C.int .i64 z1,C.int .i64 z2,C.sym z4,C.sl It z6,C.sl (Ty.sl It) z7]),(2,Ob.box 31 [C.int
  .i64 z8,C.sl (Ty.sl It) z9,C.sl It z10])] 3 = St.mk 58 [(2,V.c (C.ptr 1 0)),(3,V.c (C.ptr 2 0)),(6,V.c (C.int .i64 z22))] [(0,Ob.amb),(1,Ob.box 28 [C.int
  .i64 z1,C.int .i64 z2,C.sym z4,C.sl It z6,C.sl (Ty.sl It) z7]),(2,Ob.box 31 [C.int .i64 z8,C.sl (Ty.sl It) z9,C.sl It z10])] 3∧I2 z23∧m2 z23 < m2
  v2)) (.ok ((false,()) = (BeF.isList M b e,()))))) (.ok (St.mk 58 [(2,V.c (C.ptr 1 0)),(3,V.c (C.ptr 2 0)),(6,V.c (C.int .i64 z22))] [(0,Ob.amb),(1,Ob.box 28
  [C.int .i64 z1,C.int .i64 z2,C.sym z4,C.sl It z6,C.sl (Ty.sl It) z7]),(2,Ob.box 31 [C.int .i64 z8,C.sl (Ty.sl It) z9,C.sl It z10])] 3 = St.mk 58 [(2,
  V.c (C.ptr 1 0)),(3,V.c (C.ptr 2 0)),(6,V.c (C.int .i64 z22))] [(0,Ob.amb),(1,Ob.box 28 [C.int .i64 z1,C.int .i64 z2,C.sym z4,C.sl It z6,C.sl
  (Ty.sl It) z7]),(2,Ob.box 31 [C.int .i64 z8,C.sl (Ty.sl It) z9,C.sl It z10])] 3∧I2 z23∧m2 z23 < m2 v2)))) (.ok ((true,()) = (BeF.isList M b e,()))))))))))
theorem nb96_go (L:Lv) (F:BxF) (M:BeF) (I:Ds [It]→Prop) (mu:Ds [It]→Nat) (I2:Ds [It]→Prop) (m2:Ds [It]→Nat) (b:BlD) (e:BeD) (h:VC.holds (nb96 L F M I mu I2 m2 b e)):Holds (vcE L F M (oIn F) [37,32] 3 (Db96 (ab96 L I mu I2 m2)) (Sb96 M) (b,e,())):=Holds.of_eq (by kernel_rfl) h
def nb47 (L:Lv) (F:BxF) (M:BeF) (I:Ds [It]→Prop) (mu:Ds [It]→Nat) (b:BlD) (e:BeD)  : VC :=
 let z1:=b.2;
 let z2:=z1.2;
 let z3:=z2.2;
 let z4:=(Prod.fst b,z1.1,z2.1,z3.1,z3.2);
 let z5:=e.1;
 let z6:=e.2;
 let z7:=z6.1;
 let z8:=L.llen (Ty.sl It) z7;
 let z9:=z3.1;
 let z10:=L.llen It z9;
 let z11:=L.cast z10;
 let z12:=(Prod.fst e,z6.1,z6.2);
 let z13:=b.1;
 let z14:=z1.1;
 let z15:=z2.1;
 let z16:=z3.2;
 let z17:=z6.2;
 let z18:=L.toN 0;
 let z19:=L.take It (BeF.nums M z4) (L.llen It (BeF.nums M z4)); .obl (BeF.bB M z4) (.br (L.cmp .neq z5 (BeF.sum M z4)) (.ok ((false,()) = (BeF.sound M b e,
  ()))) (.br (L.cmp .neq (L.cast z8) z11) (.ok ((false,()) = (BeF.sound M b e,()))) (.obl (BeF.pIsL M z4 z12) (.br (BeF.isList M z4 z12) (.obl (St.mk 82 [(2,
  V.c (C.ptr 1 0)),(3,V.c (C.ptr 2 0)),(5,V.c (C.int .i64 (BeF.sum M z4))),(6,V.c (C.int .i64 0))] [(0,Ob.amb),(1,Ob.box 28 [C.int .i64 z13,C.int
  .i64 z14,C.sym z15,C.sl It z9,C.sl (Ty.sl It) z16]),(2,Ob.box 31 [C.int .i64 z5,C.sl (Ty.sl It) z7,C.sl It z17])] 3 = St.mk 82 [(2,V.c (C.ptr 1 0)),(3,V.c
  (C.ptr 2 0)),(5,V.c (C.int .i64 (BeF.sum M z4))),(6,V.c (C.int .i64 0))] [(0,Ob.amb),(1,Ob.box 28 [C.int .i64 z13,C.int .i64 z14,C.sym z15,
  C.sl It z9,C.sl (Ty.sl It) z16]),(2,Ob.box 31 [C.int .i64 z5,C.sl (Ty.sl It) z7,C.sl It z17])] 3) (.obl (I (0,())) (.all (Int × Unit) fun (v1:Int × Unit) =>
 let z20:=v1.1;
 let z21:=L.toN z20;
 let z22:=L.get It z9 z21;
 let z23:=L.get (Ty.sl It) z7 z21;
 let z24:=L.llen It z23;
 let z25:=L.cast z24;
 let z26:=L.ar .add .i64 z20 1;
 let z27:=(L.ar .add .i64 z20 1,());
 let z28:=L.inR 0 z24;
 let z29:=L.get It z23 z18; .imp (I v1) (.br (L.cmp .lss z20 z11) (.obl (L.inR z20 z10) (.obl (L.inR z20 z8) (.br (L.cmp .gtr z22 (BeF.sum M
  z4)) (.br (L.cmp .neq z25 0) (.ok ((false,()) = (BeF.sound M b e,()))) (.ok (St.mk 82 [(2,V.c (C.ptr 1 0)),(3,V.c (C.ptr 2 0)),(5,V.c (C.int .i64
  (BeF.sum M z4))),(6,V.c (C.int .i64 z26))] [(0,Ob.amb),(1,Ob.box 28 [C.int .i64 z13,C.int .i64 z14,C.sym z15,C.sl It z9,C.sl (Ty.sl It) z16]),(2,
  Ob.box 31 [C.int .i64 z5,C.sl (Ty.sl It) z7,C.sl It z17])] 3 = St.mk 82 [(2,V.c (C.ptr 1 0)),(3,V.c (C.ptr 2 0)),(5,V.c (C.int .i64 (BeF.sum M z4))),(6,V.c
  (C.int .i64 z26))] [(0,Ob.amb),(1,Ob.box 28 [C.int .i64 z13,C.int .i64 z14,C.sym z15,C.sl It z9,C.sl (Ty.sl It) z16]),(2,Ob.box 31 [C.int
  .i64 z5,C.sl (Ty.sl It) z7,C.sl It z17])] 3∧I z27∧mu z27 < mu v1))) (.br (L.cmp .neq z25 1) (.ok ((false,()) = (BeF.sound M b e,()))) (.obl z28
  (.br (L.cmp .lss z29 z22) (.ok ((false,()) = (BeF.sound M b e,()))) (.obl z28 (.br (L.cmp .neq z29 z13) (.obl (BeF.bB M z4) (.obl z28 (.obl
  (BxF.bl F z19) (.br (BeF.has M z19 z29) (.ok (St.mk 82 [(2,V.c (C.ptr 1 0)),(3,V.c (C.ptr 2 0)),(5,V.c (C.int .i64 (BeF.sum M z4))),(6,V.c (C.int .i64
  z26))] [(0,Ob.amb),(1,Ob.box 28 [C.int .i64 z13,C.int .i64 z14,C.sym z15,C.sl It z9,C.sl (Ty.sl It) z16]),(2,Ob.box 31 [C.int .i64 z5,C.sl (Ty.sl
  It) z7,C.sl It z17])] 3 = St.mk 82 [(2,V.c (C.ptr 1 0)),(3,V.c (C.ptr 2 0)),(5,V.c (C.int .i64 (BeF.sum M z4))),(6,V.c (C.int .i64 z26))] [(0,Ob.amb),(1,
  Ob.box 28 [C.int .i64 z13,C.int .i64 z14,C.sym z15,C.sl It z9,C.sl (Ty.sl It) z16]),(2,Ob.box 31 [C.int .i64 z5,C.sl (Ty.sl It) z7,C.sl It z17])] 3 ∧
  I z27∧mu z27 < mu v1)) (.ok ((false,()) = (BeF.sound M b e,()))))))) (.ok (St.mk 82 [(2,V.c (C.ptr 1 0)),(3,V.c (C.ptr 2 0)),(5,V.c (C.int .i64 (BeF.sum M
  z4))),(6,V.c (C.int .i64 z26))] [(0,Ob.amb),(1,Ob.box 28 [C.int .i64 z13,C.int .i64 z14,C.sym z15,C.sl It z9,C.sl (Ty.sl It) z16]),(2,Ob.box 31
  [C.int .i64 z5,C.sl (Ty.sl It) z7,C.sl It z17])] 3 = St.mk 82 [(2,V.c (C.ptr 1 0)),(3,V.c (C.ptr 2 0)),(5,V.c (C.int .i64 (BeF.sum M z4))),(6,V.c (C.int
  .i64 z26))] [(0,Ob.amb),(1,Ob.box 28 [C.int .i64 z13,C.int .i64 z14,C.sym z15,C.sl It z9,C.sl (Ty.sl It) z16]),(2,Ob.box 31 [C.int .i64 z5,
  C.sl (Ty.sl It) z7,C.sl It z17])] 3∧I z27∧mu z27 < mu v1)))))))))) (.ok ((true,()) = (BeF.sound M b e,()))))))) (.ok ((false,()) = (BeF.sound M b e,())))))))
theorem nb47_go (L:Lv) (F:BxF) (M:BeF) (I:Ds [It]→Prop) (mu:Ds [It]→Nat) (b:BlD) (e:BeD) (h:VC.holds (nb47 L F M I mu b e)):Holds (vcE L F M [] [35,96,83,32] 3 (Db47 (ab1 L 6 [2,3,5,6] I mu)) (Sb47 M) (b,e,())):=Holds.of_eq (by kernel_rfl) h
def nb10 (L:Lv) (F:BxF) (M:BeF) (I:Ds [It]→Prop) (mu:Ds [It]→Nat) (b:BlD) (e:BeD)  : VC :=
 let z1:=b.2;
 let z2:=z1.2;
 let z3:=z2.2;
 let z4:=(Prod.fst b,z1.1,z2.1,z3.1,z3.2);
 let z5:=e.2;
 let z6:=z5.1;
 let z7:=L.llen (Ty.sl It) z6;
 let z8:=L.cast z7;
 let z9:=z5.2;
 let z10:=b.1;
 let z11:=z1.1;
 let z12:=z2.1;
 let z13:=z3.1;
 let z14:=z3.2;
 let z15:=e.1;
 let z16:=(Prod.fst e,z5.1,z5.2);
 let z17:=L.cmp .neq (BeF.chk M z4) 0;
 let z18:=Prod.snd (BeF.soundE M z4 z16);
 let z19:=L.cmp .eql z18 (BeF.chk M z4);
 let z20:=L.cmp .eql z18 0; .obl (BeF.bT M z4) (.br (BeF.thin M z4) (.br (L.cmp .gtr z8 10) (.obl True (.br (BeF.aw M) (.ok ((true,()) = (true,())))
  (.ok ((false,()) = (true,()))))) (.br (L.cmp .gtr (L.cast (L.llen It z9)) 10) (.obl True (.br (BeF.aw M) (.ok ((true,()) = (true,()))) (.ok ((false,
  ()) = (true,()))))) (.obl (St.mk 74 [(2,V.c (C.ptr 1 0)),(3,V.c (C.ptr 2 0)),(5,V.c (C.int .i64 0))] [(0,Ob.amb),(1,Ob.box 28 [C.int .i64 z10,C.int
  .i64 z11,C.sym z12,C.sl It z13,C.sl (Ty.sl It) z14]),(2,Ob.box 31 [C.int .i64 z15,C.sl (Ty.sl It) z6,C.sl It z9])] 3 = St.mk 74 [(2,V.c (C.ptr 1 0)),(3,
  V.c (C.ptr 2 0)),(5,V.c (C.int .i64 0))] [(0,Ob.amb),(1,Ob.box 28 [C.int .i64 z10,C.int .i64 z11,C.sym z12,C.sl It z13,C.sl (Ty.sl It) z14]),(2,
  Ob.box 31 [C.int .i64 z15,C.sl (Ty.sl It) z6,C.sl It z9])] 3) (.obl (I (0,())) (.all (Int × Unit) fun (v1:Int × Unit) =>
 let z21:=v1.1;
 let z22:=L.ar .add .i64 z21 1;
 let z23:=(L.ar .add .i64 z21 1,()); .imp (I v1) (.br (L.cmp .lss z21 z8) (.obl (L.inR z21 z7) (.br (L.cmp .gtr (L.cast (L.llen It
  (L.get (Ty.sl It) z6 (L.toN z21)))) 10) (.obl True (.br (BeF.aw M) (.ok ((true,()) = (true,()))) (.ok ((false,()) = (true,()))))) (.ok (St.mk 74 [(2,V.c
  (C.ptr 1 0)),(3,V.c (C.ptr 2 0)),(5,V.c (C.int .i64 z22))] [(0,Ob.amb),(1,Ob.box 28 [C.int .i64 z10,C.int .i64 z11,C.sym z12,C.sl It z13,C.sl
  (Ty.sl It) z14]),(2,Ob.box 31 [C.int .i64 z15,C.sl (Ty.sl It) z6,C.sl It z9])] 3 = St.mk 74 [(2,V.c (C.ptr 1 0)),(3,V.c (C.ptr 2 0)),(5,V.c (C.int .i64
  z22))] [(0,Ob.amb),(1,Ob.box 28 [C.int .i64 z10,C.int .i64 z11,C.sym z12,C.sl It z13,C.sl (Ty.sl It) z14]),(2,Ob.box 31 [C.int .i64 z15,C.sl (Ty.sl
  It) z6,C.sl It z9])] 3∧I z23∧mu z23 < mu v1)))) (.obl (BeF.bB M z4) (.obl (BeF.bE M z16) (.obl (BeF.pSnd M z4 z16) (.br (Prod.fst (BeF.soundE M z4 z16)) (.obl
  (BeF.bB M z4) (.br z17 (.br z19 (.ok ((false,()) = (true,()))) (.ok ((false,()) = (true,())))) (.br z20 (.obl (BeF.pSnd M z4 z16) (.br (BeF.sound M z4 z16)
  (.br (L.beq true true) (.obl True (.br (BeF.aw M) (.ok ((true,()) = (true,()))) (.ok ((false,()) = (true,()))))) (.ok ((false,()) = (true,())))) (.br
  (L.beq true false) (.obl True (.br (BeF.aw M) (.ok ((true,()) = (true,()))) (.ok ((false,()) = (true,()))))) (.ok ((false,()) = (true,())))))) (.ok ((false,
  ()) = (true,())))))) (.obl (BeF.bB M z4) (.br z17 (.br z19 (.obl True (.br (BeF.aw M) (.ok ((true,()) = (true,()))) (.ok ((false,()) = (true,()))))) (.ok
  ((false,()) = (true,())))) (.br z20 (.obl (BeF.pSnd M z4 z16) (.br (BeF.sound M z4 z16) (.br (L.beq false true) (.obl True (.br (BeF.aw M) (.ok ((true,()) =
  (true,()))) (.ok ((false,()) = (true,()))))) (.ok ((false,()) = (true,())))) (.br (L.beq false false) (.obl True (.br (BeF.aw M) (.ok ((true,()) = (true,
  ()))) (.ok ((false,()) = (true,()))))) (.ok ((false,()) = (true,())))))) (.ok ((false,()) = (true,())))))))))))))))) (.obl True (.br (BeF.aw M) (.ok ((true,())
  = (true,()))) (.ok ((false,()) = (true,()))))))
theorem nb10_go (L:Lv) (F:BxF) (M:BeF) (I:Ds [It]→Prop) (mu:Ds [It]→Nat) (b:BlD) (e:BeD) (h:VC.holds (nb10 L F M I mu b e)):Holds (vcE L F M [] [24,23,25,46,45,26,47] 3 (Db10 (ab1 L 5 [2,3,5] I mu)) LBE (b,e,())):=Holds.of_eq (by kernel_rfl) h
theorem okb210 (F:BxF) (M:BeF) (J:IxF) (h:J.ix = ixF) (q:J.p = pMaxF):SpecOk prog 210 (Sb210 J):=by
 refine Zc hm hE Db210 fnokb210 _ fun (z:List Int × Int × Unit) hpre=>?_
 obtain ⟨l,n,⟨⟩⟩:=z
 have hpre':J.p l:=hpre
 rw [q] at hpre'
 have hl:=hpre'.2
 let I:Int × Unit→Prop:=fun x=>(0≤x.1∧x.1≤l.length)∧∀ y ∈ l.take x.1.toNat,n ≠ y
 let mu:Int × Unit→Nat:=fun x=>(l.length - x.1).toNat
 refine Yq _ 3 (ab1 Lv.std 8 [0,1,7,8] I mu) (Zn (T:=tabO [] (eT F M)) (l:=[]) Z2) ?_
 refine nb210_go Lv.std F M J I mu l n ?_
 simp only [nb210,VC.holds,ZJ,ZO,Zb,Zh,Zp,Yj,Ym,Z6,ZM,Yl,Yk,Yf,ZX,ZY,ZT,ZR,Ye,ZN,ZB,ZD,Zm,Z1,ZS,Z5,ZK,ZW,Yb,ZV,ZP,ZQ,Zo,ZH,Ya,Z3,ZI,Yd,Yc,Z4,Z7,Zg,ZC,ZL,ZU,Z8,Z9,Zd,Ze,Zz,ZA,Zu,Zv,Zw,Zx,Zj,Zk,Zs,Zt,Zi,Zl,Zq,Zr,ZG,ZF,ZZ,Yg,ZE,h,Prod.mk.injEq,and_true,true_and]
 refine ⟨⟨⟨Int.le_refl 0,by show (0:Int)≤l.length; omega⟩,fun y hy=>by cases hy⟩,?_⟩
 rintro ⟨x,⟨⟩⟩ ⟨⟨i1,i2⟩,i3⟩
 simp only at i1 i2 i3 ⊢
 obtain ⟨k,rfl⟩:=Yp i1
 rw [Int.toNat_natCast] at i3 ⊢
 refine ⟨fun hlt=>?_,fun hge=>?_⟩
 ·have hk:k < l.length:=by omega
  have w:IntKind.i64.wrap ((k:Int) + 1) = ((k + 1:Nat):Int):=by rw [Yn (by omega) (by omega)]; omega
  rw [w,List.getElem?_eq_getElem hk,Option.getD_some]
  refine ⟨⟨by omega,hlt⟩,fun hc=>?_,fun hc=>⟨⟨⟨by show (0:Int)≤((k + 1:Nat):Int); omega,by show ((k + 1:Nat):Int)≤l.length; omega⟩,fun y hy=>?_⟩,by show ((l.length:Int) - ((k + 1:Nat):Int)).toNat < ((l.length:Int) - k).toNat; omega⟩⟩
  ·unfold ixF
   have:l.findIdx? (fun x=>decide (n = x)) = some k:=List.findIdx?_eq_some_iff_getElem.2 ⟨hk,decide_eq_true hc,fun j hj=>by
    have hm':l[j] ∈ l.take k:=List.mem_iff_getElem.2 ⟨j,by rw [List.length_take]; omega,by rw [List.getElem_take]⟩
    simpa using i3 _ hm'⟩
   rw [this]
  ·have hy:y ∈ l.take (k + 1):=hy
   rcases (mem_take1 hk y).1 hy with rfl | hy
   ·exact hc
   ·exact i3 y hy
 ·have hk:k = l.length:=by omega
  unfold ixF
  have:l.findIdx? (fun x=>decide (n = x)) = none:=List.findIdx?_eq_none_iff.2 fun x hx=>by
   have:=i3 x (by rw [hk,List.take_length]; exact hx)
   simpa using this
  rw [this]; rfl
theorem okb175 (F:BxF) (M:BeF) (J:IxF) (h:M.has = hasIF) (h1:J.ix = ixF) (q:M.pMax = pMaxF) (q1:J.p = pMaxF) (k1:SpecOk prog 210 (Sb210 J)):SpecOk prog 175 (Sb175 M):=by
 refine Zc hm hE Db175 fnokb175 _ fun (z:List Int × Int × Unit) hpre=>?_
 obtain ⟨l,n,⟨⟩⟩:=z
 have hpre':M.pMax l:=hpre
 rw [q] at hpre'
 refine Yq _ 3 a0 (Zn (T:=tabO (oCo J) (eT F M)) (l:=[210]) (Za (Yh k1 (by kernel_rfl)) Z2)) ?_
 refine nb175_go Lv.std F M J l n ?_
 simp only [nb175,VC.holds,ZJ,ZO,Zb,Zh,Zp,Yj,Ym,Z6,ZM,Yl,Yk,Yf,ZX,ZY,ZT,ZR,Ye,ZN,ZB,ZD,Zm,Z1,ZS,Z5,ZK,ZW,Yb,ZV,ZP,ZQ,Zo,ZH,Ya,Z3,ZI,Yd,Yc,Z4,Z7,Zg,ZC,ZL,ZU,Z8,Z9,Zd,Ze,Zz,ZA,Zu,Zv,Zw,Zx,Zj,Zk,Zs,Zt,Zi,Zl,Zq,Zr,ZG,ZF,ZZ,Yg,ZE,h,h1,q1,Prod.mk.injEq,and_true,true_and]
 refine ⟨hpre',fun c=>?_,fun c=>?_⟩
 ·rw [← ix_has,decide_eq_true c]
 ·rw [← ix_has,decide_eq_false (by omega)]
theorem okb112 (F:BxF) (M:BeF) (h:M.seen = seenF) (h1:M.sum = sumF) (h2:M.cat = List.flatten) (h3:M.has = hasIF) (q:M.bB = bBF) (q1:M.bLL = bLLF) (q2:M.pMax = pMaxF) (q3:M.pSeen = pSeenF) (k1:SpecOk prog 88 (Sb88 M)) (k2:XOk prog 148 (Rb148 M).x) (k3:SpecOk prog 175 (Sb175 M)):SpecOk prog 112 (Sb112 M):=by
 refine Zc hm hE Db112 fnokb112 _ fun (z:BlD × Int × List Int × Unit) hpre=>?_
 obtain ⟨b,i,l,⟨⟩⟩:=z
 have hpre':M.pSeen b i l:=hpre
 rw [q3] at hpre'
 obtain ⟨hb,hi,hl⟩:=hpre'
 have hf:=bB_flat hb
 refine Yq _ 3 a0 (Zn (T:=tabO (oSe M) (eT F M)) (l:=[88,148,175]) (Za (Yh k1 (by kernel_rfl)) (Za (Xz k2 (by kernel_rfl)) (Za (Yh k3 (by kernel_rfl)) Z2)))) ?_
 refine nb112_go Lv.std F M b i l ?_
 simp only [nb112,VC.holds,ZJ,ZO,Zb,Zh,Zp,Yj,Ym,Z6,ZM,Yl,Yk,Yf,ZX,ZY,ZT,ZR,Ye,ZN,ZB,ZD,Zm,Z1,ZS,Z5,ZK,ZW,Yb,ZV,ZP,ZQ,Zo,ZH,Ya,Z3,ZI,Yd,Yc,Z4,Z7,Zg,ZC,ZL,ZU,Z8,Z9,Zd,Ze,Zz,ZA,Zu,Zv,Zw,Zx,Zj,Zk,Zs,Zt,Zi,Zl,Zq,Zr,ZG,ZF,ZZ,Yg,ZE,h,h1,h2,h3,q,q1,q2,List.take_length,List.take_succ_cons,List.take_zero,List.length_cons,List.length_nil,List.length_append,Nat.zero_add,Prod.mk.injEq,and_true,true_and]
 have eb:((b.1,b.2.1,b.2.2.1,b.2.2.2.1,b.2.2.2.2):BlD) = b:=rfl
 have e:(b.2.2.2.2.flatten ++ [b.1]).take (b.2.2.2.2.flatten.length + 1) = numL b:=List.take_of_length_le (by rw [List.length_append]; simp)
 have hp:pMaxF (numL b):=⟨by unfold numL; rw [List.length_append]; show 1≤b.2.2.2.2.flatten.length + 1; omega,by unfold numL; rw [List.length_append]; show b.2.2.2.2.flatten.length + 1≤2000000; omega⟩
 rw [e]
 refine ⟨hi,hb,fun c=>⟨fun d=>?_,fun d=>?_⟩,fun c=>⟨fun d=>⟨⟨by omega,by omega⟩,hi,fun f=>⟨⟨hb.2.1,hb.2.2⟩,⟨by omega,by omega⟩,⟨by omega,by omega⟩,hp,fun f2=>?_,fun f2=>?_⟩,fun f=>?_⟩,fun d=>?_⟩⟩
 ·have c:sumF b < wtF b i.toNat:=c
  rw [seenF,if_pos c,decide_eq_true (by omega)]
 ·have c:sumF b < wtF b i.toNat:=c
  rw [seenF,if_pos c,decide_eq_false (by omega)]
 ·have c:wtF b i.toNat≤sumF b:=c
  have f:wtF b i.toNat≤(l[0]?).getD 0:=f
  have f2:decide ((l[0]?).getD 0 ∈ numL b) = true:=f2
  rw [seenF,if_neg (by omega),decide_eq_true (by omega),decide_eq_true f,f2]; rfl
 ·have c:wtF b i.toNat≤sumF b:=c
  have f2:decide ((l[0]?).getD 0 ∈ numL b) = false:=f2
  rw [seenF,if_neg (by omega),f2,Bool.and_false]
 ·have c:wtF b i.toNat≤sumF b:=c
  have f:(l[0]?).getD 0 < wtF b i.toNat:=f
  rw [seenF,if_neg (by omega),decide_eq_false (by omega:¬ wtF b i.toNat≤(l[0]?).getD 0),Bool.and_false,Bool.false_and]
 ·have c:wtF b i.toNat≤sumF b:=c
  rw [seenF,if_neg (by omega),decide_eq_false (by omega),Bool.false_and,Bool.false_and]
theorem okb65 (F:BxF) (M:BeF) (h:M.sound = soundF) (h1:M.sum = sumF) (h2:M.seen = seenF) (q:M.bB = bBF) (q1:M.pSnd = pSndF) (q2:M.pSeen = pSeenF) (k1:SpecOk prog 88 (Sb88 M)) (k2:SpecOk prog 112 (Sb112 M)):SpecOk prog 65 (Sb65 M):=by
 refine Zc hm hE Db65 fnokb65 _ fun (z:BlD × BeD × Unit) hpre=>?_
 obtain ⟨b,e,⟨⟩⟩:=z
 have hpre':M.pSnd b e:=hpre
 rw [q1] at hpre'
 obtain ⟨⟨g1,g2,g3⟩,e1,e2,e3⟩:=hpre'
 let m:=b.2.2.2.1.length
 let I:List (Int × Bool) × Int × Unit→Prop:=fun x=>(0≤x.2.1∧x.2.1≤e.2.2.length)∧onF m (e.2.2.take x.2.1.toNat) = true∧∀ t:Int,mvalL It .bool x.1 t = decide (t ∈ e.2.2.take x.2.1.toNat)
 let mu:List (Int × Bool) × Int × Unit→Nat:=fun x=>(e.2.2.length - x.2.1).toNat
 let I2:Int × Unit→Prop:=fun x=>(0≤x.1∧x.1≤e.2.1.length)∧∀ i:Nat,i < x.1.toNat→atF b e i = true
 let m2:Int × Unit→Nat:=fun x=>(e.2.1.length - x.1).toNat
 refine Yq _ 3 (ab65 Lv.std I mu I2 m2) (Zn (T:=tabO [] (eT F M)) (l:=[88,112]) (Za (Yh k1 (by kernel_rfl)) (Za (Yh k2 (by kernel_rfl)) Z2))) ?_
 refine nb65_go Lv.std F M I mu I2 m2 b e ?_
 simp only [nb65,VC.holds,ZJ,ZO,Zb,Zh,Zp,Yj,Ym,Z6,ZM,Yl,Yk,Yf,ZX,ZY,ZT,ZR,Ye,ZN,ZB,ZD,Zm,Z1,ZS,Z5,ZK,ZW,Yb,ZV,ZP,ZQ,Zo,ZH,Ya,Z3,ZI,Yd,Yc,Z4,Z7,Zg,ZC,ZL,ZU,Z8,Z9,Zd,Ze,Zz,ZA,Zu,Zv,Zw,Zx,Zj,Zk,Zs,Zt,Zi,Zl,Zq,Zr,ZG,ZF,ZZ,Yg,ZE,h,h1,h2,q,q2,pe5,Prod.mk.injEq,and_true,true_and]
 have S:=sound_iff b e
 refine ⟨⟨g1,g2,g3⟩,fun c=>falseOf fun hs=>c (S.1 hs).1,fun c=>⟨fun d=>falseOf fun hs=>d (by have:=(S.1 hs).2.1; omega),fun d=>⟨⟨⟨Int.le_refl 0,by show (0:Int)≤e.2.2.length; omega⟩,on_nil _,fun t=>by simp [mvalL,Ty.dflt]⟩,?_⟩⟩⟩
 rintro ⟨mp,x,⟨⟩⟩ ⟨⟨i1,i2⟩,i3,i4⟩
 simp only at i1 i2 i3 i4 ⊢
 obtain ⟨k,rfl⟩:=Yp i1
 rw [Int.toNat_natCast] at i3 i4 ⊢
 refine ⟨fun hlt=>?_,fun hge=>?_⟩
 ·have hk:k < e.2.2.length:=by omega
  rw [wr hlt (by omega),List.getElem?_eq_getElem hk,Option.getD_some]
  refine ⟨⟨by omega,hlt⟩,fun h1=>falseOf fun hs=>?_,fun h1=>⟨fun h2=>falseOf fun hs=>?_,fun h2=>⟨fun h3=>falseOf fun hs=>?_,fun h3=>⟨⟨⟨by show (0:Int)≤((k + 1:Nat):Int); omega,by show ((k + 1:Nat):Int)≤e.2.2.length; omega⟩,?_,fun t=>?_⟩,by show ((e.2.2.length:Int) - ((k + 1:Nat):Int)).toNat < ((e.2.2.length:Int) - k).toNat; omega⟩⟩⟩⟩
  ·have:=on_bad (m:=m) hk (.inl (by omega)); rw [(S.1 hs).2.2.1] at this; cases this
  ·have:=on_bad (m:=m) hk (.inl (by show ¬ (0≤e.2.2[k]∧e.2.2[k] < (b.2.2.2.1.length:Int)); omega)); rw [(S.1 hs).2.2.1] at this; cases this
  ·rw [i4] at h3
   have:=on_bad (m:=m) hk (.inr (of_decide_eq_true h3)); rw [(S.1 hs).2.2.1] at this; cases this
  ·rw [i4] at h3
   exact on_good hk i3 ⟨h1,h2⟩ (of_decide_eq_false h3)
  ·show mvalL It .bool (mputL It .bool mp e.2.2[k] true) t = decide (t ∈ e.2.2.take (k + 1))
   rw [mvalI_put,i4,← Bool.decide_or]
   exact decide_eq_decide.2 (mem_take1 hk t).symm
 ·have hk:k = e.2.2.length:=by omega
  rw [hk,List.take_length] at i3 i4
  refine ⟨⟨⟨Int.le_refl 0,by show (0:Int)≤e.2.1.length; omega⟩,fun i hi=>absurd hi (Nat.not_lt_zero i)⟩,?_⟩
  rintro ⟨y,⟨⟩⟩ ⟨⟨j1,j2⟩,j3⟩
  simp only at j1 j2 j3 ⊢
  obtain ⟨q,rfl⟩:=Yp j1
  rw [Int.toNat_natCast] at j3 ⊢
  refine ⟨fun hlt=>?_,fun hge=>?_⟩
  ·have hq:q < e.2.1.length:=by omega
   have hsw:(e.2.1[q]?).getD [] = sawF e q:=rfl
   have hb1:(sawF e q).length≤1000000:=by
    rw [← hsw,List.getElem?_eq_getElem hq]; exact e3 _ (List.getElem_mem hq)
   rw [wr hlt (by omega),hsw]
   have step:atF b e q = true→I2 (((q + 1:Nat):Int),())∧m2 (((q + 1:Nat):Int),()) < m2 ((q:Int),()):=fun ha =>
    ⟨⟨⟨by show (0:Int)≤((q + 1:Nat):Int); omega,by show ((q + 1:Nat):Int)≤e.2.1.length; omega⟩,fun i hi=>by
      have hi:i < (((q + 1:Nat):Int)).toNat:=hi
      rw [Int.toNat_natCast] at hi
      exact lt_succ_cases j3 ha hi⟩,by show ((e.2.1.length:Int) - ((q + 1:Nat):Int)).toNat < ((e.2.1.length:Int) - q).toNat; omega⟩
   have bad:atF b e q = false→false = soundF b e:=fun ha=>falseOf fun hs=>by
    have:=(S.1 hs).2.2.2 q (by omega); rw [ha] at this; cases this
   refine ⟨⟨by omega,hlt⟩,⟨⟨g1,g2,g3⟩,⟨by omega,by omega⟩,hb1⟩,fun h1=>⟨fun h2=>⟨fun h3=>step ?_,fun h3=>bad ?_⟩,fun h2=>step ?_⟩,fun h1=>bad ?_⟩
   ·rw [i4] at h3
    unfold atF
    rw [h1,h3,Bool.or_true]; rfl
   ·rw [i4] at h3
    unfold atF
    have h2':decide ((sawF e q).length ≠ 0) = false:=decide_eq_false (fun hn=>hn (by omega))
    rw [h2',h3]; simp
   ·unfold atF
    rw [h1,decide_eq_true (by omega)]; rfl
   ·unfold atF
    rw [h1,Bool.false_and]
  ·exact (S.2 ⟨c,by omega,i3,fun i hi=>j3 i (by omega)⟩).symm
theorem okb45 (F:BxF) (M:BeF) (h:M.soundE = soundEF) (h1:M.chk = chkB) (h2:M.sound = soundF) (q:M.bB = bBF) (q1:M.pSnd = pSndF) (k1:SpecOk prog 62 (Sb62 M)) (k2:SpecOk prog 65 (Sb65 M)):SpecOk prog 45 (Sb45 M):=by
 refine Zc hm hE Db45 fnokb45 _ fun (z:BlD × BeD × Unit) hpre=>?_
 obtain ⟨b,e,⟨⟩⟩:=z
 have hpre':M.pSnd b e:=hpre
 rw [q1] at hpre'
 refine Yq _ 3 a0 (Zn (T:=tabO [] (eT F M)) (l:=[62,65]) (Za (Yh k1 (by kernel_rfl)) (Za (Yh k2 (by kernel_rfl)) Z2))) ?_
 refine nb45_go Lv.std F M b e ?_
 simp only [nb45,VC.holds,ZJ,ZO,Zb,Zh,Zp,Yj,Ym,Z6,ZM,Yl,Yk,Yf,ZX,ZY,ZT,ZR,Ye,ZN,ZB,ZD,Zm,Z1,ZS,Z5,ZK,ZW,Yb,ZV,ZP,ZQ,Zo,ZH,Ya,Z3,ZI,Yd,Yc,Z4,Z7,Zg,ZC,ZL,ZU,Z8,Z9,Zd,Ze,Zz,ZA,Zu,Zv,Zw,Zx,Zj,Zk,Zs,Zt,Zi,Zl,Zq,Zr,ZG,ZF,ZZ,Yg,ZE,h,h1,h2,q,q1,soundEF,pe5,Prod.mk.injEq,and_true,true_and]
 refine ⟨hpre'.1,fun c=>by rw [if_pos c]; exact ⟨rfl,rfl⟩,fun c=>?_⟩
 rw [if_neg (by omega)]
 exact ⟨hpre',fun d=>⟨d.symm,rfl⟩,fun d=>⟨d.symm,rfl⟩⟩
theorem okb32 (F:BxF) (M:BeF) (h:M.has = hasIF) (q:F.bl = bL):SpecOk prog 32 (Sb32 F M):=by
 refine Zc hm hE Db32 fnokb32 _ fun (z:List Int × Int × Unit) hpre=>?_
 obtain ⟨l,n,⟨⟩⟩:=z
 have hpre':F.bl l:=hpre
 rw [q] at hpre'
 have hl:l.length≤1000000:=hpre'
 let I:Int × Unit→Prop:=fun x=>(0≤x.1∧x.1≤l.length)∧n ∉ l.take x.1.toNat
 let mu:Int × Unit→Nat:=fun x=>(l.length - x.1).toNat
 refine Yq _ 3 (ab1 Lv.std 5 [0,1,5] I mu) (Zn (T:=tabO [] (eT F M)) (l:=[]) Z2) ?_
 refine nb32_go Lv.std F M I mu l n ?_
 simp only [nb32,VC.holds,ZJ,ZO,Zb,Zh,Zp,Yj,Ym,Z6,ZM,Yl,Yk,Yf,ZX,ZY,ZT,ZR,Ye,ZN,ZB,ZD,Zm,Z1,ZS,Z5,ZK,ZW,Yb,ZV,ZP,ZQ,Zo,ZH,Ya,Z3,ZI,Yd,Yc,Z4,Z7,Zg,ZC,ZL,ZU,Z8,Z9,Zd,Ze,Zz,ZA,Zu,Zv,Zw,Zx,Zj,Zk,Zs,Zt,Zi,Zl,Zq,Zr,ZG,ZF,ZZ,Yg,ZE,h,Prod.mk.injEq,and_true,true_and]
 refine ⟨⟨⟨Int.le_refl 0,by show (0:Int)≤l.length; omega⟩,fun hy=>by cases hy⟩,?_⟩
 rintro ⟨x,⟨⟩⟩ ⟨⟨i1,i2⟩,i3⟩
 simp only at i1 i2 i3 ⊢
 obtain ⟨k,rfl⟩:=Yp i1
 rw [Int.toNat_natCast] at i3 ⊢
 refine ⟨fun hlt=>?_,fun hge=>?_⟩
 ·have hk:k < l.length:=by omega
  rw [wr hlt (by omega),List.getElem?_eq_getElem hk,Option.getD_some]
  refine ⟨⟨by omega,hlt⟩,fun hc=>?_,fun hc=>⟨⟨⟨by show (0:Int)≤((k + 1:Nat):Int); omega,by show ((k + 1:Nat):Int)≤l.length; omega⟩,fun hy=>?_⟩,by show ((l.length:Int) - ((k + 1:Nat):Int)).toNat < ((l.length:Int) - k).toNat; omega⟩⟩
  ·exact (decide_eq_true (hc ▸ List.getElem_mem hk:n ∈ l)).symm
  ·have hy:n ∈ l.take (k + 1):=hy
   rcases (mem_take1 hk n).1 hy with hy | hy
   ·exact hc hy.symm
   ·exact i3 hy
 ·have hk:k = l.length:=by omega
  rw [hk,List.take_length] at i3
  exact (decide_eq_false i3).symm
theorem okb96 (F:BxF) (M:BeF) (h:M.isList = isListF) (h1:F.within = withinF) (h2:M.has = hasIF) (q:M.pIsL = pIsLF) (q1:F.bl = bL) (k1:SpecOk prog 37 (S86 F)) (k2:SpecOk prog 32 (Sb32 F M)):SpecOk prog 96 (Sb96 M):=by
 refine Zc hm hE Db96 fnokb96 _ fun (z:BlD × BeD × Unit) hpre=>?_
 obtain ⟨b,e,⟨⟩⟩:=z
 have hpre':M.pIsL b e:=hpre
 rw [q] at hpre'
 obtain ⟨⟨g1,g2,g3⟩,⟨e1,e2,e3⟩,hm'⟩:=hpre'
 let m:=b.2.2.2.1.length
 let I:Int × Unit→Prop:=fun x=>(0≤x.1∧x.1≤e.2.2.length)∧onF m (e.2.2.take x.1.toNat) = true
 let mu:Int × Unit→Nat:=fun x=>(e.2.2.length - x.1).toNat
 let I2:Int × Unit→Prop:=fun x=>(0≤x.1∧x.1≤m)∧∀ i:Nat,i < x.1.toNat→(decide ((sawF e i).length ≠ 0) || decide ((i:Int) ∈ e.2.2)) = true
 let m2:Int × Unit→Nat:=fun x=>(m - x.1).toNat
 refine Yq _ 3 (ab96 Lv.std I mu I2 m2) (Zn (T:=tabO (oIn F) (eT F M)) (l:=[37,32]) (Za (Yh k1 (by kernel_rfl)) (Za (Yh k2 (by kernel_rfl)) Z2))) ?_
 refine nb96_go Lv.std F M I mu I2 m2 b e ?_
 simp only [nb96,VC.holds,ZJ,ZO,Zb,Zh,Zp,Yj,Ym,Z6,ZM,Yl,Yk,Yf,ZX,ZY,ZT,ZR,Ye,ZN,ZB,ZD,Zm,Z1,ZS,Z5,ZK,ZW,Yb,ZV,ZP,ZQ,Zo,ZH,Ya,Z3,ZI,Yd,Yc,Z4,Z7,Zg,ZC,ZL,ZU,Z8,Z9,Zd,Ze,Zz,ZA,Zu,Zv,Zw,Zx,Zj,Zk,Zs,Zt,Zi,Zl,Zq,Zr,ZG,ZF,ZZ,Yg,ZE,h,h1,h2,q1,pe5,Prod.mk.injEq,and_true,true_and]
 have S:=isList_iff b e
 refine ⟨⟨⟨Int.le_refl 0,by show (0:Int)≤e.2.2.length; omega⟩,on_nil _⟩,?_⟩
 rintro ⟨x,⟨⟩⟩ ⟨⟨i1,i2⟩,i3⟩
 simp only at i1 i2 i3 ⊢
 obtain ⟨k,rfl⟩:=Yp i1
 rw [Int.toNat_natCast] at i3 ⊢
 have wm:IntKind.i64.wrap ((b.2.2.2.1.length:Int) - 1) = (b.2.2.2.1.length:Int) - 1:=Yn (by omega) (by omega)
 refine ⟨fun hlt=>?_,fun hge=>?_⟩
 ·have hk:k < e.2.2.length:=by omega
  rw [wr hlt (by omega),List.getElem?_eq_getElem hk,Option.getD_some,wm]
  refine ⟨⟨by omega,hlt⟩,fun h1=>?_,fun h1=>falseOf fun hs=>?_⟩
  ·have h1:=withinF_t.1 h1
   refine ⟨⟨by omega,by omega,by omega⟩,⟨by omega,hlt⟩,?_,fun h2=>falseOf fun hs=>?_,fun h2=>⟨⟨⟨by show (0:Int)≤((k + 1:Nat):Int); omega,by show ((k + 1:Nat):Int)≤e.2.2.length; omega⟩,?_⟩,by show ((e.2.2.length:Int) - ((k + 1:Nat):Int)).toNat < ((e.2.2.length:Int) - k).toNat; omega⟩⟩
   ·show (List.drop 0 (e.2.2.take k)).length≤_
    rw [List.drop_zero,List.length_take]; omega
   ·have h2:decide (e.2.2[k] ∈ List.drop 0 (e.2.2.take k)) = true:=h2
    have:=on_bad (m:=m) hk (.inr (of_decide_eq_true h2)); rw [(S.1 hs).1] at this; cases this
   ·have h2:decide (e.2.2[k] ∈ List.drop 0 (e.2.2.take k)) = false:=h2
    exact on_good hk i3 ⟨h1.1,by show e.2.2[k] < (b.2.2.2.1.length:Int); omega⟩ (of_decide_eq_false h2)
  ·have h1:¬ (0≤e.2.2[k]∧e.2.2[k]≤(b.2.2.2.1.length:Int) - 1):=fun hn=>by rw [withinF_t.2 hn] at h1; cases h1
   have:=on_bad (m:=m) hk (.inl (by show ¬ (0≤e.2.2[k]∧e.2.2[k] < (b.2.2.2.1.length:Int)); omega)); rw [(S.1 hs).1] at this; cases this
 ·have hk:k = e.2.2.length:=by omega
  rw [hk,List.take_length] at i3
  refine ⟨⟨⟨Int.le_refl 0,by show (0:Int)≤(b.2.2.2.1.length:Int); omega⟩,fun i hi=>absurd hi (Nat.not_lt_zero i)⟩,?_⟩
  rintro ⟨y,⟨⟩⟩ ⟨⟨j1,j2⟩,j3⟩
  simp only at j1 j2 j3 ⊢
  obtain ⟨q,rfl⟩:=Yp j1
  rw [Int.toNat_natCast] at j3 ⊢
  have j2:(q:Int)≤(b.2.2.2.1.length:Int):=j2
  refine ⟨fun hlt=>?_,fun hge=>?_⟩
  ·have hq:q < e.2.1.length:=by omega
   have hsw:(e.2.1[q]?).getD [] = sawF e q:=rfl
   rw [wr hlt (by omega),hsw]
   have step:(decide ((sawF e q).length ≠ 0) || decide ((q:Int) ∈ e.2.2)) = true→I2 (((q + 1:Nat):Int),())∧m2 (((q + 1:Nat):Int),()) < m2 ((q:Int),()):=fun ha =>
    ⟨⟨⟨by show (0:Int)≤((q + 1:Nat):Int); omega,by show ((q + 1:Nat):Int)≤(b.2.2.2.1.length:Int); omega⟩,fun i hi=>by
      have hi:i < (((q + 1:Nat):Int)).toNat:=hi
      rw [Int.toNat_natCast] at hi
      exact lt_succ_cases j3 ha hi⟩,by show ((b.2.2.2.1.length:Int) - ((q + 1:Nat):Int)).toNat < ((b.2.2.2.1.length:Int) - q).toNat; omega⟩
   refine ⟨⟨by omega,by omega⟩,fun h1=>⟨e2,fun h2=>step ?_,fun h2=>falseOf fun hs=>?_⟩,fun h1=>step ?_⟩
   ·have h2:decide ((q:Int) ∈ e.2.2) = true:=h2
    rw [h2,Bool.or_true]
   ·have h2:decide ((q:Int) ∈ e.2.2) = false:=h2
    have:=(S.1 hs).2 q (by omega)
    have h3:decide ((sawF e q).length ≠ 0) = false:=decide_eq_false (fun hn=>hn (by omega))
    rw [h2,h3] at this; cases this
   ·rw [decide_eq_true (by omega),Bool.true_or]
  ·exact (S.2 ⟨i3,fun i hi=>j3 i (by omega)⟩).symm
theorem okb47 (F:BxF) (M:BeF) (h:M.sound = soundF) (h1:M.sum = sumF) (h2:M.isList = isListF) (h3:M.nums = numsBF) (h4:M.has = hasIF) (q:M.pSnd = pSndF) (q1:M.bB = bBF) (q2:M.pIsL = pIsLF) (q3:F.bl = bL) (k1:SpecOk prog 35 (Sb35 M)) (k2:SpecOk prog 96 (Sb96 M)) (k3:XOk prog 83 (Rb83 M).x) (k4:SpecOk prog 32 (Sb32 F M)):SpecOk prog 47 (Sb47 M):=by
 refine Zc hm hE Db47 fnokb47 _ fun (z:BlD × BeD × Unit) hpre=>?_
 obtain ⟨b,e,⟨⟩⟩:=z
 have hpre':M.pSnd b e:=hpre
 rw [q] at hpre'
 obtain ⟨hb,e1,e2,e3⟩:=hpre'
 let m:=b.2.2.2.1.length
 let I:Int × Unit→Prop:=fun x=>(0≤x.1∧x.1≤m)∧∀ i:Nat,i < x.1.toNat→seenF b i (sawF e i) = true
 let mu:Int × Unit→Nat:=fun x=>(m - x.1).toNat
 refine Yq _ 3 (ab1 Lv.std 6 [2,3,5,6] I mu) (Zn (T:=tabO [] (eT F M)) (l:=[35,96,83,32]) (Za (Yh k1 (by kernel_rfl)) (Za (Yh k2 (by kernel_rfl)) (Za (Xz k3 (by kernel_rfl)) (Za (Yh k4 (by kernel_rfl)) Z2))))) ?_
 refine nb47_go Lv.std F M I mu b e ?_
 simp only [nb47,VC.holds,ZJ,ZO,Zb,Zh,Zp,Yj,Ym,Z6,ZM,Yl,Yk,Yf,ZX,ZY,ZT,ZR,Ye,ZN,ZB,ZD,Zm,Z1,ZS,Z5,ZK,ZW,Yb,ZV,ZP,ZQ,Zo,ZH,Ya,Z3,ZI,Yd,Yc,Z4,Z7,Zg,ZC,ZL,ZU,Z8,Z9,Zd,Ze,Zz,ZA,Zu,Zv,Zw,Zx,Zj,Zk,Zs,Zt,Zi,Zl,Zq,Zr,ZG,ZF,ZZ,Yg,ZE,h,h1,h2,h3,h4,q1,q2,q3,pe5,Prod.mk.injEq,and_true,true_and]
 have S:=sound_iff b e
 have T:=isList_iff b e
 refine ⟨hb,fun c=>falseOf fun hs=>c (S.1 hs).1,fun c=>⟨fun d=>falseOf fun hs=>d (by have:=(S.1 hs).2.1; omega),fun d=>⟨⟨hb,⟨e1,e2,e3⟩,by omega⟩,fun hl=>⟨⟨⟨Int.le_refl 0,by show (0:Int)≤(b.2.2.2.1.length:Int); omega⟩,fun i hi=>absurd hi (Nat.not_lt_zero i)⟩,?_⟩,fun hl=>falseOf fun hs=>?_⟩⟩⟩
 ·rintro ⟨y,⟨⟩⟩ ⟨⟨j1,j2⟩,j3⟩
  simp only at j1 j2 j3 ⊢
  obtain ⟨q,rfl⟩:=Yp j1
  rw [Int.toNat_natCast] at j3 ⊢
  have j2:(q:Int)≤(b.2.2.2.1.length:Int):=j2
  have hbl:=hb.1
  refine ⟨fun hlt=>?_,fun hge=>?_⟩
  ·have hq:q < e.2.1.length:=by omega
   have hsw:(e.2.1[q]?).getD [] = sawF e q:=rfl
   have hw:(b.2.2.2.1[q]?).getD 0 = wtF b q:=rfl
   have hn:(numsBF b).take (numsBF b).length = numsBF b:=List.take_length
   have h0:Int.toNat 0 = 0:=rfl
   rw [wr hlt (by omega),hsw,hw,hn,h0]
   have step:seenF b q (sawF e q) = true→I (((q + 1:Nat):Int),())∧mu (((q + 1:Nat):Int),()) < mu ((q:Int),()):=fun ha =>
    ⟨⟨⟨by show (0:Int)≤((q + 1:Nat):Int); omega,by show ((q + 1:Nat):Int)≤(b.2.2.2.1.length:Int); omega⟩,fun i hi=>by
      have hi:i < (((q + 1:Nat):Int)).toNat:=hi
      rw [Int.toNat_natCast] at hi
      exact lt_succ_cases (P:=fun i=>seenF b (i:Int) (sawF e i) = true) j3 ha hi⟩,by show ((b.2.2.2.1.length:Int) - ((q + 1:Nat):Int)).toNat < ((b.2.2.2.1.length:Int) - q).toNat; omega⟩
   have bad:seenF b q (sawF e q) = false→false = soundF b e:=fun ha=>falseOf fun hs=>by
    have:=(S.1 hs).2.2.2 q (by omega)
    unfold atF at this
    rw [ha] at this; cases this
   have us:∀ {v:Bool},wtF b q≤sumF b→(sawF e q).length = 1→wtF b q≤((sawF e q)[0]?).getD 0→decide (((sawF e q)[0]?).getD 0 ∈ numL b) = v→seenF b q (sawF e q) = v:=fun h1 h2 h3 h4=>by
    rw [seenF,Int.toNat_natCast,if_neg (by omega),decide_eq_true h2,decide_eq_true h3,h4]; rfl
   refine ⟨⟨by omega,hlt⟩,⟨by omega,by omega⟩,fun h1=>⟨fun h2=>bad ?_,fun h2=>step ?_⟩,fun h1=>⟨fun h2=>bad ?_,fun h2=>⟨⟨by omega,by omega⟩,fun h3=>bad ?_,fun h3=>⟨⟨by omega,by omega⟩,fun h4=>⟨hb,⟨by omega,by omega⟩,?_,fun h5=>step ?_,fun h5=>bad ?_⟩,fun h4=>step ?_⟩⟩⟩⟩
   ·rw [seenF,Int.toNat_natCast,if_pos h1,decide_eq_false (by omega)]
   ·rw [seenF,Int.toNat_natCast,if_pos h1,decide_eq_true (by omega)]
   ·rw [seenF,Int.toNat_natCast,if_neg (by omega),decide_eq_false (by omega),Bool.false_and,Bool.false_and]
   ·rw [seenF,Int.toNat_natCast,if_neg (by omega),decide_eq_false (by omega:¬ wtF b q≤((sawF e q)[0]?).getD 0),Bool.and_false,Bool.false_and]
   ·exact bB_flat hb
   ·have h5:decide (((sawF e q)[0]?).getD 0 ∈ b.2.2.2.2.flatten) = true:=h5
    exact us h1 (by omega) h3 (decide_eq_true (List.mem_append_left _ (of_decide_eq_true h5)))
   ·have h5:decide (((sawF e q)[0]?).getD 0 ∈ b.2.2.2.2.flatten) = false:=h5
    refine us h1 (by omega) h3 (decide_eq_false fun hn=>?_)
    rcases List.mem_append.1 hn with hn | hn
    ·exact of_decide_eq_false h5 hn
    ·exact h4 (List.mem_singleton.1 hn)
   ·exact us h1 (by omega) h3 (decide_eq_true (List.mem_append_right _ (List.mem_singleton.2 h4)))
  ·refine (S.2 ⟨c,by omega,(T.1 hl).1,fun i hi=>?_⟩).symm
   unfold atF
   rw [j3 i (by omega),(T.1 hl).2 i hi]; rfl
 ·have:isListF b e = true:=T.2 ⟨(S.1 hs).2.2.1,fun i hi=>by
   have h1:=(S.1 hs).2.2.2 i hi
   unfold atF at h1
   exact (Bool.and_eq_true_iff.1 h1).2⟩
  rw [hl] at this; cases this
theorem okb10 (F:BxF) (M:BeF) (g:M.aw = true) (h:M.thin = thinB) (h1:M.chk = chkB) (h2:M.soundE = soundEF) (h3:M.sound = soundF) (q:M.bB = bBF) (q1:M.bT = bTF) (q2:M.bE = bEF) (q3:M.pSnd = pSndF)
  (k1:SpecOk prog 24 (Sb24 M)) (k2:SpecOk prog 23 (Sb23 M)) (k3:SpecOk prog 25 (Sb25 M)) (k4:SpecOk prog 46 (Sb46 M)) (k5:SpecOk prog 45 (Sb45 M)) (k6:SpecOk prog 26 (Sb22 M)) (k7:SpecOk prog 47 (Sb47 M)):SpecOk prog 10 LBE:=by
 refine Zc hm hE Db10 fnokb10 _ fun (z:BlD × BeD × Unit) hpre=>?_
 obtain ⟨b,e,⟨⟩⟩:=z
 have hpre:bTF b∧bETF e:=hpre
 let I:Int × Unit→Prop:=fun x=>(0≤x.1∧x.1≤e.2.1.length)∧∀ y ∈ e.2.1.take x.1.toNat,y.length≤10
 let mu:Int × Unit→Nat:=fun x=>(e.2.1.length - x.1).toNat
 refine Yq _ 3 (ab1 Lv.std 5 [2,3,5] I mu) (Zn (T:=tabO [] (eT F M)) (l:=[24,23,25,46,45,26,47]) (Za (Yh k1 (by kernel_rfl)) (Za (Yh k2 (by kernel_rfl)) (Za (Yh k3 (by kernel_rfl)) (Za (Yh k4 (by kernel_rfl)) (Za (Yh k5 (by kernel_rfl)) (Za (Yh k6 (by kernel_rfl)) (Za (Yh k7 (by kernel_rfl)) Z2)))))))) ?_
 refine nb10_go Lv.std F M I mu b e ?_
 simp only [nb10,VC.holds,ZJ,ZO,Zb,Zh,Zp,Yj,Ym,Z6,ZM,Yl,Yk,Yf,ZX,ZY,ZT,ZR,Ye,ZN,ZB,ZD,Zm,Z1,ZS,Z5,ZK,ZW,Yb,ZV,ZP,ZQ,Zo,ZH,Ya,Z3,ZI,Yd,Yc,Z4,Z7,Zg,ZC,ZL,ZU,Z8,Z9,Zd,Ze,Zz,ZA,Zu,Zv,Zw,Zx,Zj,Zk,Zs,Zt,Zi,Zl,Zq,Zr,ZG,ZF,ZZ,Yg,ZE,g,h,h1,h2,h3,q,q1,q2,q3,pe5,Prod.mk.injEq,and_true,true_and]
 refine ⟨hpre.1,fun ht=>⟨fun _=>by simp,fun h1=>⟨fun _=>by simp,fun h2=>⟨⟨⟨Int.le_refl 0,by show (0:Int)≤e.2.1.length; omega⟩,fun y hy=>by cases hy⟩,?_⟩⟩⟩,fun _=>by simp⟩
 have hb:=thin_bB ht
 rintro ⟨x,⟨⟩⟩ ⟨⟨i1,i2⟩,i3⟩
 simp only at i1 i2 i3 ⊢
 obtain ⟨k,rfl⟩:=Yp i1
 rw [Int.toNat_natCast] at i3 ⊢
 refine ⟨fun hlt=>?_,fun hge=>?_⟩
 ·have hk:k < e.2.1.length:=by omega
  rw [wr hlt (by omega),List.getElem?_eq_getElem hk,Option.getD_some]
  refine ⟨⟨by omega,hlt⟩,fun _=>by simp,fun hc=>⟨⟨⟨by show (0:Int)≤((k + 1:Nat):Int); omega,by show ((k + 1:Nat):Int)≤e.2.1.length; omega⟩,fun y hy=>?_⟩,by show ((e.2.1.length:Int) - ((k + 1:Nat):Int)).toNat < ((e.2.1.length:Int) - k).toNat; omega⟩⟩
  have hy:y ∈ e.2.1.take (k + 1):=hy
  rw [List.take_succ,List.getElem?_eq_getElem hk] at hy
  rcases List.mem_append.1 hy with hy | hy
  ·exact i3 y hy
  ·have:y = e.2.1[k]:=by simpa using hy
   rw [this]; omega
 ·have hk:k = e.2.1.length:=by omega
  rw [hk,List.take_length] at i3
  have he:bEF e:=⟨by omega,by omega,fun l hl=>by have:=i3 l hl; omega⟩
  have hp:pSndF b e:=⟨hb,he⟩
  by_cases c:chkB b = 0
  ·have t:soundEF b e = (soundF b e,0):=by rw [soundEF,if_neg (by simpa using c)]
   cases hv:soundF b e <;> simp [c,hb,he,hp,t,hv]
  ·have t:soundEF b e = (false,chkB b):=by rw [soundEF,if_pos c]
   simp [c,hb,he,hp,t]
end Go.Proofs.Tryz
namespace Go.Proofs.Tryz
open Go Go.VM
noncomputable def MM:BeF where
 bB:=bBF
 bT:=bTF
 bE:=bEF
 bEs:=bEsF
 bI:=fun _=>True
 bLL:=bLLF
 ex:=exF
 en:=enF
 chk:=chkB
 same:=fun a b=>decide (a = b)
 wk:=wkF
 sames:=fun a b=>decide (a = b)
 pWt:=pWtF
 wtr:=wtrF
 pWr:=pWrF
 wrt:=wrtF
 prg:=prgF
 pP:=bBF
 prgE:=fun _=>(([],[],0),0)
 sum:=sumF
 sumE:=sumEF
 pV:=pVF
 view:=viewF
 pIt:=pItF
 lst:=lstF
 told:=toldF
 pRun:=fun b l=>bBF b∧l.length≤1000000
 run:=runBF
 ends:=endsBG endsM srtB compBL
 cmpB:=cmpBF
 sortB:=fun l=>List.mergeSort (α:=BeD) l fun x y=>!(Go.Proofs.ltOf cmpBF) y x
 compB:=compBL
 thin:=thinB
 pMax:=pMaxF
 max:=maxF
 cat:=List.flatten
 nums:=numsBF
 pSeen:=pSeenF
 seen:=seenF
 pSnd:=pSndF
 sound:=soundF
 soundE:=soundEF
 has:=hasIF
 pIsL:=pIsLF
 isList:=isListF
 pVE:=fun _ _=>True
 viewE:=fun _ _=>((0,[],[]),0)
 pVR:=fun _ _=>True
 viewR:=fun _ _=>(0,[],[])
 wtrE:=fun _ _=>([],0)
 wrtE:=fun _ _=>([],0)
 sameL:=fun _ _=>false
 missed:=fun _=>([],0)
 before:=fun _ _=>false
 aw:=true
 cmpN:=cmpI
 iset:=fun a n=>(1,a,0,0,0,n)
 ilod:=fun a n=>(8,a,0,0,0,n)
 icalc:=fun o a b c=>(o,a,b,c,0,0)
 isto:=fun a n=>(9,a,0,0,0,n)
 iswap:=fun a b c=>(10,5,0,b,c,a)
 bef:=fun i=>2 + 2 * i
 bel:=fun i=>2 + 2 * i + 1
 pBf:=pBfF
 i3:=fun _ _ _ _ _=>(0,0,0,0,0,0)
 izero:=fun _ _=>(0,0,0,0,0,0)
 iswR:=fun _ _ _=>(0,0,0,0,0,0)
 ijmp:=fun _=>(0,0,0,0,0,0)
noncomputable def JJ:IxF:=⟨pMaxF,ixF⟩
theorem hb24:SpecOk prog 24 (Sb24 MM):=okb24 FF MM rfl rfl
theorem hb16:SpecOk prog 16 (Sb16 MM):=okb16 FF MM rfl
theorem hb80:SpecOk prog 80 (S92 FF):=okb80 FF MM rfl
theorem hb22:SpecOk prog 22 (Sb22 MM):=okb22 FF MM rfl rfl rfl hb80
theorem hb62:SpecOk prog 62 (Sb62 MM):=okb62 FF MM hb22
theorem hb147:SpecOk prog 147 (Sb147 MM):=okb147 FF MM rfl rfl
theorem hb148:XOk prog 148 (Rb148 MM).x:=okb148 FF MM rfl rfl okGrow
theorem hb88:SpecOk prog 88 (Sb88 MM):=okb88 FF MM rfl rfl rfl rfl rfl rfl hb147 hb148
theorem hb34:SpecOk prog 34 (Sb34 MM):=okb34 FF MM rfl rfl rfl hb62 hb88
theorem hb128:SpecOk prog 128 (Sb128 MM):=okb128 FF MM rfl
theorem hb129:SpecOk prog 129 (Sb129 MM):=okb129 FF MM rfl
theorem hb130:SpecOk prog 130 (Sb130 MM):=okb130 FF MM rfl
theorem hb132:SpecOk prog 132 (Sb132 MM):=okb132 FF MM rfl
theorem hb133:SpecOk prog 133 (Sb133 MM):=okb133 FF MM rfl rfl
theorem hb134:SpecOk prog 134 (Sb134 MM):=okb134 FF MM rfl
theorem hb135:SpecOk prog 135 (Sb135 MM):=okb135 FF MM rfl rfl rfl hb133
theorem hb75:SpecOk prog 75 (Sb75 MM):=okb75 FF MM rfl rfl rfl rfl rfl rfl rfl rfl rfl rfl hb128 hb129 hb130 okZero hb132 hb133 hb134 hb135
theorem hb77:SpecOk prog 77 (Sb77 MM):=okb77 FF MM rfl rfl rfl rfl rfl rfl hb128 hb129 hb130 okZero hb134
theorem hb63:SpecOk prog 63 (Sb63 MM):=okb63 FF MM rfl rfl rfl rfl rfl rfl hb75 hb77
theorem hb176:ItOk prog 176 (Ib176 MM):=okb176 FF MM rfl rfl rfl rfl hb133
theorem hb66:SpecOk prog 66 (Sb66 MM):=okb66 FF MM rfl rfl rfl rfl rfl h76 hb176
theorem hb70:SpecOk prog 70 (Sb70 FF MM):=okb70 FF MM rfl rfl
theorem hb17:SpecOk prog 17 (Sb17 MM):=okb17 FF MM rfl rfl rfl rfl rfl rfl rfl rfl rfl rfl rfl rfl hb62 hb63 hb66 h51 hb70
theorem hb123:SpecOk prog 123 (Sb123 MM):=okb123 FF MM rfl
theorem hb105:SpecOk prog 105 (Sb105 MM):=okb105 FF MM rfl rfl rfl rfl rfl rfl rfl rfl h111 hb123 h112 h113
theorem hb104:XOk prog 104 (Rb104 MM).u:=okb104 MM rfl rfl rfl rfl hb105
theorem hb107:SpecOk prog 107 (Sb107 MM):=okb107 FF MM rfl rfl hb105
theorem hb106:XOk prog 106 (Rb106 MM).x:=okb106 FF MM rfl rfl rfl rfl hb107
theorem hb55:SpecOk prog 55 (Sb55 MM):=okb55 FF MM rfl rfl rfl rfl rfl (fun l=>List.mergeSort_perm l _) (fun l=>List.mergeSort_perm l _) rfl rfl rfl rfl rfl hb62 hb63 h19 hb66 hb104 hb105 hb106 hb107
theorem hb72:SpecOk prog 72 (Sb72 MM):=okb72 FF MM rfl rfl
theorem hb18:SpecOk prog 18 (Sb18 MM):=okb18 FF MM rfl rfl rfl rfl rfl hb72 h46
theorem hb19:SpecOk prog 19 (Sb19 MM):=okb19 FF MM rfl
theorem hb59:SpecOk prog 59 (Sb59 MM):=okb59 FF MM rfl rfl rfl rfl hb18
theorem hb23:SpecOk prog 23 (Sb23 MM):=okb23 FF MM rfl rfl rfl rfl rfl rfl rfl run5 sum5 (Eq.trans (congrFun (show MM.ends = endsBG endsM srtB compBL from rfl) _) ends5) (Eq.trans (congrFun (show MM.ends = endsBG endsM srtB compBL from rfl) _) ends8) rfl rfl rfl rfl hb16 hb34 hb17 hb55 hb18 hb19 hb59
theorem hb25:SpecOk prog 25 (Sb25 MM):=okb25 FF MM rfl
theorem hb46:SpecOk prog 46 (Sb46 MM):=okb46 FF MM rfl
theorem hb210:SpecOk prog 210 (Sb210 JJ):=okb210 FF MM JJ rfl rfl
theorem hb175:SpecOk prog 175 (Sb175 MM):=okb175 FF MM JJ rfl rfl rfl rfl hb210
theorem hb112:SpecOk prog 112 (Sb112 MM):=okb112 FF MM rfl rfl rfl rfl rfl rfl rfl rfl hb88 hb148 hb175
theorem hb65:SpecOk prog 65 (Sb65 MM):=okb65 FF MM rfl rfl rfl rfl rfl rfl hb88 hb112
theorem hb45:SpecOk prog 45 (Sb45 MM):=okb45 FF MM rfl rfl rfl rfl rfl hb62 hb65
theorem hb83:XOk prog 83 (Rb83 MM).x:=okb83 FF MM rfl rfl
theorem hb26:SpecOk prog 26 (Sb22 MM):=okb26 FF MM rfl rfl rfl rfl rfl hb83 h63 h54
theorem hb35:SpecOk prog 35 (Sb35 MM):=okb35 FF MM rfl rfl rfl hb83
theorem hb32:SpecOk prog 32 (Sb32 FF MM):=okb32 FF MM rfl rfl
theorem hb96:SpecOk prog 96 (Sb96 MM):=okb96 FF MM rfl rfl rfl rfl rfl h54 hb32
theorem hb47:SpecOk prog 47 (Sb47 MM):=okb47 FF MM rfl rfl rfl rfl rfl rfl rfl rfl rfl hb35 hb96 hb83 hb32
theorem hb10:SpecOk prog 10 LBE:=okb10 FF MM rfl rfl rfl rfl rfl rfl rfl rfl rfl hb24 hb23 hb25 hb46 hb45 hb26 hb47
end Go.Proofs.Tryz
