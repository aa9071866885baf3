/- What functions of the weak memory compute, proved through the condition generator, and plain facts of it. Conditions: none of ours. -/
import Derived.Calls
import Derived.Orders
import Derived.Below
import Derived.Lib.ItoaNum
import Derived.Laws.Sem
import Derived.Laws.Cells
import Derived.Laws.Entries
import Derived.Laws.StructEq
import Derived.Lib.IfaceEq
import Derived.Lib.IfaceNeq
import Derived.Laws.MakeOwn
import Derived.Laws.AppendOwn
import Derived.Lib.AppendStr
import Derived.Laws.CopyRow
import Derived.Laws.BytesString
import Derived.MapKept
import Derived.OrdersIn
import Derived.RangeFuncCalls
import Derived.RangeFuncLeaves
import Derived.Test.YtljepnnnjfalcaaGreatProg
import Derived.Shelf.SlSortCmp.Insertion
import GoSem.Step
import Derived.Shelf.SlSortCmp.InsertionK
import Derived.Shelf.SlSortCmp.NoneTotal
import Derived.Ground.SlsfProg
import Derived.Shelf.Spec.SlicesGrow
import Derived.Shelf.SlGeneric
import Derived.Ground.Names8Prog
import Derived.WalkKit
import Derived.StillTactics
import Derived.Laws.Pointers
import Derived.Laws.NewBlocks
import Derived.Laws.Rows
import Derived.Handy
import Derived.Lib.SliceRun
import Derived.Sort.LotA
import Derived.Test.YtljepnnnjfalcaaGreatB0
import Derived.Test.YtljepnnnjfalcaaGreatB1
import Derived.Test.YtljepnnnjfalcaaGreatB2
import Derived.Test.YtljepnnnjfalcaaGreatB3
import Derived.Test.YtljepnnnjfalcaaGreatB4
import Derived.Test.YtljepnnnjfalcaaGreatB5
import Derived.Test.YtljepnnnjfalcaaGreatB6
import Derived.Test.YtljepnnnjfalcaaGreatB7
import Derived.Test.YtljepnnnjfalcaaGreatB8
import Derived.Test.YtljepnnnjfalcaaGreatB9
import Derived.Test.YtljepnnnjfalcaaGreatB10
import Derived.Test.YtljepnnnjfalcaaGreatB11
import Derived.Test.YtljepnnnjfalcaaGreatB12
import Derived.Test.YtljepnnnjfalcaaGreatB13
import Derived.Test.YtljepnnnjfalcaaGreatB14
import Derived.Test.YtljepnnnjfalcaaGreatB15
import Derived.Test.YtljepnnnjfalcaaGreatB16
import Derived.Test.YtljepnnnjfalcaaGreatB17
import Derived.Test.YtljepnnnjfalcaaGreatB18
import Derived.Test.YtljepnnnjfalcaaGreatB19
import Derived.Test.YtljepnnnjfalcaaGreatB20
import Derived.Test.YtljepnnnjfalcaaGreatB21
import Derived.Test.YtljepnnnjfalcaaGreatB22
import Derived.Test.YtljepnnnjfalcaaGreatB23
import Derived.Test.YtljepnnnjfalcaaGreatB24
import Derived.Test.YtljepnnnjfalcaaGreatB25
import Derived.Test.YtljepnnnjfalcaaGreatB26
import Derived.Test.YtljepnnnjfalcaaGreatB27
import Derived.Test.YtljepnnnjfalcaaGreatB28
import Derived.Test.YtljepnnnjfalcaaGreatB29
import Derived.Test.YtljepnnnjfalcaaGreatB30
import Derived.Test.YtljepnnnjfalcaaGreatB31
import Derived.Test.YtljepnnnjfalcaaGreatB32
import Derived.Test.YtljepnnnjfalcaaGreatB33
set_option autoImplicit false
set_option maxRecDepth 100000
set_option linter.all false
namespace Go.Proofs.Tryz
open Go Go.VM
theorem at27:prog.funcs[58]? = some f58:=by kernel_rfl
def pl27:Nat→Plan
 | _=>[]
noncomputable def D27 (ann:Nat→LAnn):FnD:=⟨f58.body.getD .skip,f58.ntmps,f58.results.toList,pl27,ann⟩
theorem fnok27 (ann:Nat→LAnn):FnOk prog 58 (D27 ann):=⟨f58,at27,by kernel_rfl,by kernel_rfl,rfl,rfl,by kernel_rfl⟩
theorem at31:prog.funcs[36]? = some f36:=by kernel_rfl
def pl31:Nat→Plan
 | 6=>[(0,[]),(1,[]),(2,[0,1]),(3,[]),(4,[]),(5,[]),(6,[0,1,2,3,4,5]),(7,[0,1,2,3,4,5]),(8,[0,1,2,3,4,5,6,7]),(9,[0,1,2,3,4,5]),(10,[0,1,2,3,4,5]),(11,[0,1,2,3,4,5]),(12,[])]
 | 11=>[(0,[]),(1,[]),(2,[0,1]),(3,[]),(4,[]),(5,[0,1,2,3,4]),(6,[]),(7,[]),(8,[0,1,2,3,4,5,6,7]),(9,[0,1,2,3,4,5,6,7]),(10,[0,1,2,3,4,5,6,7,8,9]),(11,[0,1,2,3,4,5,6,7]),(12,[0,1,2,3,4,5,6,7]),(13,[0,1,2,3,4,5,6,7,8,9,10,11,12]),(14,[0,1,2,3,4,5,6,7]),(15,[0,1,2,3,4,5,6,7]),(16,[])]
 | _=>[]
noncomputable def D31 (ann:Nat→LAnn):FnD:=⟨f36.body.getD .skip,f36.ntmps,f36.results.toList,pl31,ann⟩
theorem fnok31 (ann:Nat→LAnn):FnOk prog 36 (D31 ann):=⟨f36,at31,by kernel_rfl,by kernel_rfl,rfl,rfl,by kernel_rfl⟩
end Go.Proofs.Tryz
namespace Go.Proofs.Tryz
open Go Go.VM
def n27 (L:Lv) (F:BxF) (a b:List Int)  : VC :=
 let z1:=(BxF.sameL F a b,()); .obl (BxF.bl F a∧BxF.bl F b) (.br (L.cmp .eql (BxF.cmpR F a b) 0) (.ok ((true,()) = z1)) (.ok ((false,()) = z1)))
theorem n27_go (L:Lv) (F:BxF) (a b:List Int) (h:VC.holds (n27 L F a b)):Holds (vcC L F [110] (D27 a0) (S27 F) (a,b,())):=Holds.of_eq (by kernel_rfl) h
theorem ok27 (F:BxF) (h:F.sameL = fun a b=>decide (a = b)) (h1:F.cmpR = lexR) (k1:SpecOk prog 110 (S75 F)):SpecOk prog 58 (S27 F):=by
 refine Zc hm hE D27 fnok27 _ fun (z:List Int × List Int × Unit) hpre=>?_
 obtain ⟨a,b,⟨⟩⟩:=z
 have hpre':F.bl a∧F.bl b:=hpre
 refine Yq _ 3 a0 (Zn (T:=cT F) (l:=[110]) (Za (Yh k1 (by kernel_rfl)) Z2)) ?_
 refine n27_go Lv.std F a b ?_
 simp only [n27,VC.holds,ZJ,ZO,Zb,Zh,Zp,Yj,Ym,Z6,ZM,Yl,Yk,Yf,ZX,ZY,ZT,ZR,Ye,ZN,ZB,ZD,Zm,Z1,ZS,Z5,ZK,ZW,Yb,ZV,ZP,ZQ,Zo,ZH,Ya,Z3,ZI,Yd,Yc,Z4,Z7,Zg,ZC,ZL,ZU,Z8,Z9,Zd,Ze,Zz,ZA,Zu,Zv,Zw,Zx,Zj,Zk,Zs,Zt,Zi,Zl,Zq,Zr,ZG,ZF,ZZ,Yg,ZE,h,h1,Prod.mk.injEq,and_true,true_and]
 exact ⟨hpre',fun e=>(decide_eq_true ((lexR_eq _ _).1 e)).symm,fun e=>(decide_eq_false (fun e'=>e ((lexR_eq _ _).2 e'))).symm⟩
end Go.Proofs.Tryz
namespace Go.Proofs.Tryz
open Go Go.VM
def a31 (L:Lv) (I:Ds [It]→Prop) (mu:Ds [It]→Nat) (I2:Int × Unit→Ds [It]→Prop) (m2:Int × Unit→Ds [It]→Nat):Nat→LAnn
 | 0=>anH L [2,3,5] [] [.s 5 It] I mu
 | 2=>anE L [2,3,5,6] [] [.h (.s 5 It)] [.s 6 It] I2 m2
 | _=>.no
def n31 (L:Lv) (F:BxF) (I:Ds [It]→Prop) (mu:Ds [It]→Nat) (I2:Int × Unit→Ds [It]→Prop) (m2:Int × Unit→Ds [It]→Nat) (a b:WkD)  : VC :=
 let z1:=a.2.2;
 let z2:=b.2.2;
 let z3:=(BxF.sameW F a b,());
 let z4:=a.1;
 let z5:=b.1;
 let z6:=a.2.1;
 let z7:=L.llen (Ty.sl In) z6;
 let z8:=L.cast z7;
 let z9:=b.2.1;
 let z10:=L.llen (Ty.sl In) z9; .br (L.cmp .neq z1 z2) (.ok ((false,()) = z3)) (.obl (BxF.bl F z4∧BxF.bl F z5) (.br (BxF.sameL F z4 z5) (.br (L.cmp
  .neq z8 (L.cast z10)) (.ok ((false,()) = z3)) (.obl (St.mk 76 [(2,V.c (C.ptr 1 0)),(3,V.c (C.ptr 2 0)),(5,V.c (C.int .i64 0))] [(0,Ob.amb),(1,Ob.box
  50 [C.sl It z4,C.sl (Ty.sl In) z6,C.int .i64 z1]),(2,Ob.box 50 [C.sl It z5,C.sl (Ty.sl In) z9,C.int .i64 z2])] 3 = St.mk 76 [(2,V.c (C.ptr 1 0)),(3,V.c
  (C.ptr 2 0)),(5,V.c (C.int .i64 0))] [(0,Ob.amb),(1,Ob.box 50 [C.sl It z4,C.sl (Ty.sl In) z6,C.int .i64 z1]),(2,Ob.box 50 [C.sl It z5,C.sl (Ty.sl In) z9,
  C.int .i64 z2])] 3) (.obl (I (0,())) (.all (Int × Unit) fun (v1:Int × Unit) =>
 let z11:=v1.1;
 let z12:=L.inR z11 z7;
 let z13:=L.inR z11 z10;
 let z14:=L.toN z11;
 let z15:=L.get (Ty.sl In) z6 z14;
 let z16:=L.llen In z15;
 let z17:=L.cast z16;
 let z18:=L.get (Ty.sl In) z9 z14;
 let z19:=L.llen In z18;
 let z20:=(Prod.fst v1,());
 let z21:=L.ar .add .i64 z11 1;
 let z22:=(L.ar .add .i64 z11 1,()); .imp (I v1) (.br (L.cmp .lss z11 z8) (.obl z12 (.obl z13 (.br (L.cmp .neq z17 (L.cast z19))
  (.ok ((false,()) = z3)) (.obl (St.mk 76 [(2,V.c (C.ptr 1 0)),(3,V.c (C.ptr 2 0)),(5,V.c (C.int .i64 z11)),(6,V.c (C.int .i64 0))] [(0,Ob.amb),(1,
  Ob.box 50 [C.sl It z4,C.sl (Ty.sl In) z6,C.int .i64 z1]),(2,Ob.box 50 [C.sl It z5,C.sl (Ty.sl In) z9,C.int .i64 z2])] 3 = St.mk 76 [(2,V.c (C.ptr 1 0)),(3,
  V.c (C.ptr 2 0)),(5,V.c (C.int .i64 z11)),(6,V.c (C.int .i64 0))] [(0,Ob.amb),(1,Ob.box 50 [C.sl It z4,C.sl (Ty.sl In) z6,C.int .i64 z1]),(2,
  Ob.box 50 [C.sl It z5,C.sl (Ty.sl In) z9,C.int .i64 z2])] 3) (.obl (I2 z20 (0,())) (.all (Int × Unit) fun (v2:Int × Unit) =>
 let z23:=v2.1;
 let z24:=L.toN z23;
 let z25:=L.get In z15 z24;
 let z26:=L.get In z18 z24;
 let z27:=z25.2;
 let z28:=z26.2;
 let z29:=z27.2;
 let z30:=z28.2;
 let z31:=z29.2;
 let z32:=z30.2;
 let z33:=z31.2;
 let z34:=z32.2;
 let z35:=L.ar .add .i64 z23 1;
 let z36:=(L.ar .add .i64 z23 1,()); .imp (I2 z20 v2) (.obl z12 (.br (L.cmp .lss z23 z17) (.obl z12 (.obl (L.inR z23 z16) (.obl z13 (.obl
  (L.inR z23 z19) (.br (L.bnot (L.band (L.cmp .eql z25.1 z26.1) (L.band (L.cmp .eql z27.1 z28.1) (L.band
  (L.cmp .eql z29.1 z30.1) (L.band (L.cmp .eql z31.1 z32.1) (L.band (L.cmp .eql z33.1 z34.1)
  (L.band (L.cmp .eql z33.2 z34.2) true))))))) (.ok ((false,()) = z3)) (.ok (St.mk 76 [(2,V.c (C.ptr 1 0)),(3,V.c (C.ptr 2 0)),(5,V.c (C.int
  .i64 z11)),(6,V.c (C.int .i64 z35))] [(0,Ob.amb),(1,Ob.box 50 [C.sl It z4,C.sl (Ty.sl In) z6,C.int .i64 z1]),(2,Ob.box 50 [C.sl It z5,C.sl (Ty.sl
  In) z9,C.int .i64 z2])] 3 = St.mk 76 [(2,V.c (C.ptr 1 0)),(3,V.c (C.ptr 2 0)),(5,V.c (C.int .i64 z11)),(6,V.c (C.int .i64 z35))] [(0,Ob.amb),(1,
  Ob.box 50 [C.sl It z4,C.sl (Ty.sl In) z6,C.int .i64 z1]),(2,Ob.box 50 [C.sl It z5,C.sl (Ty.sl In) z9,C.int .i64 z2])] 3∧I2 z20 z36∧m2 z20 z36 < m2 z20
  v2))))))) (.ok (St.mk 76 [(2,V.c (C.ptr 1 0)),(3,V.c (C.ptr 2 0)),(5,V.c (C.int .i64 z21))] [(0,Ob.amb),(1,Ob.box 50 [C.sl It z4,C.sl (Ty.sl In) z6,C.int
  .i64 z1]),(2,Ob.box 50 [C.sl It z5,C.sl (Ty.sl In) z9,C.int .i64 z2])] 3 = St.mk 76 [(2,V.c (C.ptr 1 0)),(3,V.c (C.ptr 2 0)),(5,V.c (C.int .i64
  z21))] [(0,Ob.amb),(1,Ob.box 50 [C.sl It z4,C.sl (Ty.sl In) z6,C.int .i64 z1]),(2,Ob.box 50 [C.sl It z5,C.sl (Ty.sl In) z9,C.int .i64 z2])] 3∧I z22∧mu
  z22 < mu v1)))))))))) (.ok ((true,()) = z3))))))) (.ok ((false,()) = z3))))
theorem n31_go (L:Lv) (F:BxF) (I:Ds [It]→Prop) (mu:Ds [It]→Nat) (I2:Int × Unit→Ds [It]→Prop) (m2:Int × Unit→Ds [It]→Nat) (a b:WkD) (h:VC.holds (n31 L F I mu I2 m2 a b)):Holds (vcC L F [58] (D31 (a31 L I mu I2 m2)) (S31 F) (a,b,())):=Holds.of_eq (by kernel_rfl) h
theorem eqIn (u v:InD):(VM.compare BinOp.eql u.1 v.1 && (VM.compare BinOp.eql u.2.1 v.2.1 && (VM.compare BinOp.eql u.2.2.1 v.2.2.1 && (VM.compare BinOp.eql u.2.2.2.1 v.2.2.2.1 && (VM.compare BinOp.eql u.2.2.2.2.1 v.2.2.2.2.1 && (VM.compare BinOp.eql u.2.2.2.2.2 v.2.2.2.2.2 && true)))))) = decide (u = v):=by
 obtain ⟨u1,u2,u3,u4,u5,u6⟩:=u
 obtain ⟨v1,v2,v3,v4,v5,v6⟩:=v
 show ((u1 == v1) && ((u2 == v2) && ((u3 == v3) && ((u4 == v4) && ((u5 == v5) && ((u6 == v6) && true)))))) = _
 rw [Bool.eq_iff_iff]; simp
theorem ok31 (F:BxF) (h:F.sameW = fun a b=>decide (a = b)) (h1:F.sameL = fun a b=>decide (a = b)) (hp:F.bw = bW) (q:F.bl = bL) (k1:SpecOk prog 58 (S27 F)):SpecOk prog 36 (S31 F):=by
 refine Zc hm hE D31 fnok31 _ fun (z:WkD × WkD × Unit) hpre=>?_
 obtain ⟨a,b,⟨⟩⟩:=z
 have hpre':F.bw a∧F.bw b:=hpre
 rw [hp] at hpre'
 obtain ⟨⟨a1,a2,a3⟩,b1,b2,b3⟩:=hpre'
 let I:Int × Unit→Prop:=Iv a.2.1.length fun k=>(a.2.1.drop k = b.2.1.drop k↔a = b)
 let I2:Int × Unit→Int × Unit→Prop:=fun e=>Iv (listAt (a,false) e.1).length fun k=>((listAt (a,false) e.1).drop k = (listAt (b,false) e.1).drop k↔listAt (a,false) e.1 = listAt (b,false) e.1)
 let m2:Int × Unit→Int × Unit→Nat:=fun e=>Mu (listAt (a,false) e.1).length
 refine Yq _ 3 (a31 Lv.std I (Mu a.2.1.length) I2 m2) (Zn (T:=cT F) (l:=[58]) (Za (Yh k1 (by kernel_rfl)) Z2)) ?_
 refine n31_go Lv.std F I (Mu a.2.1.length) I2 m2 a b ?_
 have e1:∀ k:Int,Lv.std.get (.sl In) a.2.1 k.toNat = listAt (a,false) k:=fun _=>rfl
 have e2:∀ k:Int,Lv.std.get (.sl In) b.2.1 k.toNat = listAt (b,false) k:=fun _=>rfl
 have e3:∀ (l:List InD) (k:Int),Lv.std.get In l k.toNat = insIn l k:=fun _ _=>rfl
 simp only [n31,VC.holds,ZJ,Zo,Zm,ZH,Yf,ZY,ZX,e1,e2,e3,ZI,Zb,Zd,Ze,Zs,Zt,h,h1,q,Prod.mk.injEq,and_true,true_and]
 have fls:a ≠ b→false = decide (a = b):=fun e=>(decide_eq_false e).symm
 refine ⟨fun hn=>fls fun e=>hn (by rw [e]),fun h3=>⟨⟨a1,b1⟩,fun h0=>⟨fun hn=>fls fun e=>hn (by rw [e]),fun hlen=>⟨Iv.zero ⟨fun e=>?_,fun e=>by rw [e]⟩,fun x hx=>?_⟩⟩,fun h0=>fls fun e=>of_decide_eq_false h0 (by rw [e])⟩⟩
 ·exact Prod.ext (of_decide_eq_true h0) (Prod.ext e h3)
 ·obtain ⟨k,rfl,hk,i3⟩:=Iv.elim hx
  refine ⟨fun hlt=>?_,fun hge=>?_⟩
  ·have k1:k < a.2.1.length:=by omega
   have k2:k < b.2.1.length:=by omega
   have ea:listAt (a,false) (k:Int) = a.2.1[k]:=by show (a.2.1[(k:Int).toNat]?).getD [] = _; rw [Int.toNat_natCast,List.getElem?_eq_getElem k1]; rfl
   have eb:listAt (b,false) (k:Int) = b.2.1[k]:=by show (b.2.1[(k:Int).toNat]?).getD [] = _; rw [Int.toNat_natCast,List.getElem?_eq_getElem k2]; rfl
   rw [List.drop_eq_getElem_cons k1,List.drop_eq_getElem_cons k2] at i3
   have nek:a.2.1[k] ≠ b.2.1[k]→false = decide (a = b):=fun e=>fls fun e'=>e (by have:=i3.2 e'; injection this)
   have J:I2 ((k:Int),()) = Iv a.2.1[k].length fun j=>(a.2.1[k].drop j = b.2.1[k].drop j↔a.2.1[k] = b.2.1[k]):=by show Iv (listAt (a,false) (k:Int)).length (fun j=>((listAt (a,false) (k:Int)).drop j = (listAt (b,false) (k:Int)).drop j↔listAt (a,false) (k:Int) = listAt (b,false) (k:Int))) = _; rw [ea,eb]
   have M:m2 ((k:Int),()) = Mu a.2.1[k].length:=by show Mu (listAt (a,false) (k:Int)).length = _; rw [ea]
   have la:=a3 _ (List.getElem_mem k1)
   simp only [ea,eb,J,M]
   refine ⟨⟨by omega,hlt⟩,⟨by omega,by omega⟩,fun hn=>nek fun e=>hn (by rw [e]),fun hl=>⟨Iv.zero Iff.rfl,fun y hy=>?_⟩⟩
   obtain ⟨j,rfl,hj,j3⟩:=Iv.elim hy
   refine ⟨⟨by omega,hlt⟩,fun hlt2=>?_,fun hge2=>?_⟩
   ·have j1:j < a.2.1[k].length:=by omega
    have j2:j < b.2.1[k].length:=by omega
    rw [List.drop_eq_getElem_cons j1,List.drop_eq_getElem_cons j2] at j3
    have ia:insIn a.2.1[k] (j:Int) = a.2.1[k][j]:=by show (a.2.1[k][(j:Int).toNat]?).getD _ = _; rw [Int.toNat_natCast,List.getElem?_eq_getElem j1]; rfl
    have ib:insIn b.2.1[k] (j:Int) = b.2.1[k][j]:=by show (b.2.1[k][(j:Int).toNat]?).getD _ = _; rw [Int.toNat_natCast,List.getElem?_eq_getElem j2]; rfl
    simp only [ia,ib,eqIn,Bool.not_eq_true',Bool.not_eq_false']
    refine ⟨⟨by omega,hlt⟩,⟨by omega,hlt2⟩,⟨by omega,by omega⟩,⟨by omega,by omega⟩,fun he=>nek fun e=>?_,fun he=>?_⟩
    ·have:=j3.2 e; injection this with e1 _; exact of_decide_eq_false he e1
    ·rw [wr hlt2 la]
     refine ⟨Iv.mk (by omega) ?_,Mu.lt j1⟩
     rw [← j3,of_decide_eq_true he]; simp only [List.cons.injEq,true_and]
   ·rw [wr hlt a2]
    have e0:a.2.1[k] = b.2.1[k]:=by rw [← j3,List.drop_eq_nil_of_le (by omega),List.drop_eq_nil_of_le (by omega)]
    refine ⟨Iv.mk (by omega) ?_,Mu.lt k1⟩
    rw [← i3,e0]; simp only [List.cons.injEq,true_and]
  ·have e0:a = b:=i3.1 (by rw [List.drop_eq_nil_of_le (by omega),List.drop_eq_nil_of_le (by omega)])
   exact (decide_eq_true e0).symm
end Go.Proofs.Tryz
namespace Go.Proofs.Tryz
open Go Go.VM
theorem h27:SpecOk prog 58 (S27 FF):=ok27 FF rfl rfl h75
theorem h31:SpecOk prog 36 (S31 FF):=ok31 FF rfl rfl rfl rfl h27
end Go.Proofs.Tryz
namespace Go.Proofs.Tryz
open Go Go.VM
theorem atb7:prog.funcs[7]? = some f7:=by kernel_rfl
def plb7:Nat→Plan
 | 7=>[(0,[]),(1,[]),(2,[0,1]),(3,[]),(4,[]),(5,[])]
 | _=>[]
noncomputable def Db7 (ann:Nat→LAnn):FnD:=⟨f7.body.getD .skip,f7.ntmps,f7.results.toList,plb7,ann⟩
theorem fnokb7 (ann:Nat→LAnn):FnOk prog 7 (Db7 ann):=⟨f7,atb7,by kernel_rfl,by kernel_rfl,rfl,rfl,by kernel_rfl⟩
theorem atb28:prog.funcs[28]? = some f28:=by kernel_rfl
def plb28:Nat→Plan
 | 1=>[(9,[]),(0,[9]),(1,[9]),(2,[9]),(3,[9]),(4,[9]),(5,[9]),(6,[9,0,1,2,3,4,5]),(7,[9,0,1,2,3,4,5]),(8,[9]),(10,[])]
 | 6=>[(0,[]),(1,[]),(2,[0,1]),(3,[0,1,2]),(4,[0,1]),(5,[0,1]),(6,[]),(7,[]),(8,[])]
 | 10=>[(0,[]),(1,[]),(2,[0,1]),(3,[0,1,2]),(4,[0,1]),(5,[0,1]),(6,[]),(7,[]),(8,[])]
 | _=>[]
noncomputable def Db28 (ann:Nat→LAnn):FnD:=⟨f28.body.getD .skip,f28.ntmps,f28.results.toList,plb28,ann⟩
theorem fnokb28 (ann:Nat→LAnn):FnOk prog 28 (Db28 ann):=⟨f28,atb28,by kernel_rfl,by kernel_rfl,rfl,rfl,by kernel_rfl⟩
theorem atb33:prog.funcs[33]? = some f33:=by kernel_rfl
def plb33:Nat→Plan
 | _=>[]
noncomputable def Db33 (ann:Nat→LAnn):FnD:=⟨f33.body.getD .skip,f33.ntmps,f33.results.toList,plb33,ann⟩
theorem fnokb33 (ann:Nat→LAnn):FnOk prog 33 (Db33 ann):=⟨f33,atb33,by kernel_rfl,by kernel_rfl,rfl,rfl,by kernel_rfl⟩
theorem atb35:prog.funcs[35]? = some f35:=by kernel_rfl
def plb35:Nat→Plan
 | 1=>[(0,[]),(1,[]),(2,[0,1]),(3,[0,1]),(4,[]),(5,[])]
 | _=>[]
noncomputable def Db35 (ann:Nat→LAnn):FnD:=⟨f35.body.getD .skip,f35.ntmps,f35.results.toList,plb35,ann⟩
theorem fnokb35 (ann:Nat→LAnn):FnOk prog 35 (Db35 ann):=⟨f35,atb35,by kernel_rfl,by kernel_rfl,rfl,rfl,by kernel_rfl⟩
theorem atb38:prog.funcs[38]? = some f38:=by kernel_rfl
def plb38:Nat→Plan
 | 5=>[(0,[]),(1,[]),(2,[]),(3,[0,1,2]),(4,[0,1,2]),(5,[0,1,2,3,4]),(6,[0,1,2]),(7,[0,1,2]),(8,[]),(9,[]),(10,[]),(11,[0,1,2,3,4,5,6,7,8,9,10]),(12,[]),(13,[]),(14,[0,1,2,3,4,5,6,7,8,9,10,11,12,13]),(15,[0,1,2,3,4,5,6,7,8,9,10,11,12,13]),(16,[0,1,2,3,4,5,6,7,8,9,10,11,12,13]),(17,[]),(18,[]),(19,[]),(20,[]),(21,[])]
 | _=>[]
noncomputable def Db38 (ann:Nat→LAnn):FnD:=⟨f38.body.getD .skip,f38.ntmps,f38.results.toList,plb38,ann⟩
theorem fnokb38 (ann:Nat→LAnn):FnOk prog 38 (Db38 ann):=⟨f38,atb38,by kernel_rfl,by kernel_rfl,rfl,rfl,by kernel_rfl⟩
theorem atb39:prog.funcs[39]? = some f39:=by kernel_rfl
def plb39:Nat→Plan
 | _=>[]
noncomputable def Db39 (ann:Nat→LAnn):FnD:=⟨f39.body.getD .skip,f39.ntmps,f39.results.toList,plb39,ann⟩
theorem fnokb39 (ann:Nat→LAnn):FnOk prog 39 (Db39 ann):=⟨f39,atb39,by kernel_rfl,by kernel_rfl,rfl,rfl,by kernel_rfl⟩
theorem atb89:prog.funcs[89]? = some f89:=by kernel_rfl
def plb89:Nat→Plan
 | _=>[]
noncomputable def Db89 (ann:Nat→LAnn):FnD:=⟨f89.body.getD .skip,f89.ntmps,f89.results.toList,plb89,ann⟩
theorem fnokb89 (ann:Nat→LAnn):FnOk prog 89 (Db89 ann):=⟨f89,atb89,by kernel_rfl,by kernel_rfl,rfl,rfl,by kernel_rfl⟩
theorem atb90:prog.funcs[90]? = some f90:=by kernel_rfl
def plb90:Nat→Plan
 | _=>[]
noncomputable def Db90 (ann:Nat→LAnn):FnD:=⟨f90.body.getD .skip,f90.ntmps,f90.results.toList,plb90,ann⟩
theorem fnokb90 (ann:Nat→LAnn):FnOk prog 90 (Db90 ann):=⟨f90,atb90,by kernel_rfl,by kernel_rfl,rfl,rfl,by kernel_rfl⟩
theorem atb91:prog.funcs[91]? = some f91:=by kernel_rfl
def plb91:Nat→Plan
 | _=>[]
noncomputable def Db91 (ann:Nat→LAnn):FnD:=⟨f91.body.getD .skip,f91.ntmps,f91.results.toList,plb91,ann⟩
theorem fnokb91 (ann:Nat→LAnn):FnOk prog 91 (Db91 ann):=⟨f91,atb91,by kernel_rfl,by kernel_rfl,rfl,rfl,by kernel_rfl⟩
theorem atb92:prog.funcs[92]? = some f92:=by kernel_rfl
def plb92:Nat→Plan
 | _=>[]
noncomputable def Db92 (ann:Nat→LAnn):FnD:=⟨f92.body.getD .skip,f92.ntmps,f92.results.toList,plb92,ann⟩
theorem fnokb92 (ann:Nat→LAnn):FnOk prog 92 (Db92 ann):=⟨f92,atb92,by kernel_rfl,by kernel_rfl,rfl,rfl,by kernel_rfl⟩
end Go.Proofs.Tryz
namespace Go.Proofs.Tryz
open Go Go.VM
theorem fold_max (l:List Int):∀ a:Int,maxF (l ++ [a]) = l.foldl max a:=by
 have g:∀ (l:List Int) (x a:Int),(l ++ [a]).foldl max x = l.foldl max (max x a):=fun l=>by
  induction l with
  | nil=>intro x a; rfl
  | cons y l ih =>
    intro x a
    show (l ++ [a]).foldl max (max x y) = l.foldl max (max (max x a) y)
    rw [ih,show max (max x y) a = max (max x a) y by omega]
 intro a
 cases l with
 | nil=>rfl
 | cons y l =>
   show (l ++ [a]).foldl max y = l.foldl max (max a y)
   rw [g,show max y a = max a y by omega]
def prgEF (b:BlD):WkD × Int:=if chkB b ≠ 0 then (([],[],0),chkB b) else (prgF b,0)
end Go.Proofs.Tryz
namespace Go.Proofs.Tryz
open Go Go.VM
def nb33 (L:Lv) (F:BxF) (M:BeF) (b:BlD)  : VC :=
 let z1:=b.2.2;
 let z2:=z1.2;
 let z3:=(Prod.fst b,b.2.1,z1.1,z2.1,z2.2);
 let z4:=(Prod.fst (BeF.prgE M b),Prod.snd (BeF.prgE M b),());
 let z5:=Prod.snd (BeF.prg M z3); .obl (BeF.bB M z3) (.br (L.cmp .neq (BeF.chk M z3) 0) (.ok ((([],[],0),BeF.chk M z3,()) = z4)) (.obl (BeF.pP M z3) (.ok
  (((Prod.fst (BeF.prg M z3),z5.1,z5.2),0,()) = z4))))
theorem nb33_go (L:Lv) (F:BxF) (M:BeF) (b:BlD) (h:VC.holds (nb33 L F M b)):Holds (vcE L F M [] [62,63] 3 (Db33 a0) (Sb33 M) (b,())):=Holds.of_eq (by kernel_rfl) h
end Go.Proofs.Tryz
namespace Go.Proofs.Tryz
open Go Go.VM
def ab28 (L:Lv) (I:Ds [.sl (.sl In),It]→Prop) (mu:Ds [.sl (.sl In),It]→Nat) (I2:Ds [.sl (.sl In),It]→Prop) (m2:Ds [.sl (.sl In),It]→Nat):Nat→LAnn
 | 0=>anH L [1,2,3,4] [(3,some 1,36,.sl In)] [.br 3 1 (.sl In),.s 4 It] I mu
 | 2=>anH L [1,2,3,5] [] [.br 3 1 (.sl In),.s 5 It] I2 m2
 | _=>.no
def ab35 (L:Lv) (I:Ds [It,It]→Prop) (mu:Ds [It,It]→Nat):Nat→LAnn
 | 0=>anH L [3,4,5] [] [.s 3 It,.s 5 It] I mu
 | _=>.no
def nb28 (L:Lv) (F:BxF) (M:BeF) (I:Ds [.sl (.sl In),It]→Prop) (mu:Ds [.sl (.sl In),It]→Nat) (I2:Ds [.sl (.sl In),It]→Prop) (m2:Ds [.sl (.sl In),It]→Nat) (b:BlD)  : VC :=
 let z1:=b.2;
 let z2:=z1.2;
 let z3:=z2.2;
 let z4:=z3.1;
 let z5:=L.cast (L.llen It z4);
 let z6:=L.ar .add .i64 2 (L.ar .mul .i64 2 z5);
 let z7:=L.toN z6;
 let z8:=L.rep It z7 0;
 let z9:=b.1;
 let z10:=z1.1;
 let z11:=z2.1;
 let z12:=z3.2;
 let z13:=L.setl It z8 (L.toN 0) z9;
 let z14:=List (Int × Int × Int × Int × Int × Int);
 let z15:=List z14 × Int × Unit;
 let z16:=(Prod.fst b,z1.1,z2.1,z3.1,z3.2); .obl (L.mkOk z6 z6 8) (.obl (L.inR 0 z7) (.obl (L.ltN (L.toN 0) (L.llen It z8))
  (.obl (St.mk 51 [(1,V.c (C.ptr 1 0)),(2,V.c (C.ptr 2 0)),(3,V.c (C.ptr 3 0)),(4,V.c (C.int .i64 0))] [(0,Ob.amb),(1,Ob.box 28 [C.int .i64 z9,C.int
  .i64 z10,C.sym z11,C.sl It z4,C.sl (Ty.sl It) z12]),(2,Ob.box 50 [C.nils,C.nils,C.int .i64 0]),(3,Ob.box 50 [C.own 4 z7,C.own 6 0,C.int .i64
  z10]),(4,Ob.row 3 It z13),(6,Ob.row 36 (Ty.sl In) [])] 7 = St.mk 51 [(1,V.c (C.ptr 1 0)),(2,V.c (C.ptr 2 0)),(3,V.c (C.ptr 3 0)),(4,V.c (C.int .i64 0))] [(0,
  Ob.amb),(1,Ob.box 28 [C.int .i64 z9,C.int .i64 z10,C.sym z11,C.sl It z4,C.sl (Ty.sl It) z12]),(2,Ob.box 50 [C.nils,C.nils,C.int .i64 0]),(3,
  Ob.box 50 [C.own 4 z7,C.own 6 (L.llen (Ty.sl In) []),C.int .i64 z10]),(4,Ob.row 3 It z13),(6,Ob.row 36 (Ty.sl In) [])] 7) (.obl (I ([],0,())) (.all z15 fun
  (v1:List (List (Int × Int × Int × Int × Int × Int)) × Int × Unit) =>
 let z17:=v1.2.1;
 let z18:=v1.1;
 let z19:=L.llen (Ty.sl In) z18;
 let z20:=L.take (Ty.sl In) z18 z19;
 let z21:=L.take (Ty.sl In) [BeF.wtr M z16 z17] 1;
 let z22:=L.add (L.llen (Ty.sl In) z20) (L.llen (Ty.sl In) z21);
 let z23:=L.ar .add .i64 z17 1;
 let z24:=L.app (Ty.sl In) z20 z21;
 let z25:=(L.app (Ty.sl In) z20 z21,L.ar .add .i64 z17 1,()); .imp (I v1) (.br (L.cmp .lss z17 z5) (.obl (BeF.pWt M z16 z17) (.obl (L.room
  z22 24) (.ok (St.mk 51 [(1,V.c (C.ptr 1 0)),(2,V.c (C.ptr 2 0)),(3,V.c (C.ptr 3 0)),(4,V.c (C.int .i64 z23))] [(0,Ob.amb),(1,Ob.box 28 [C.int .i64 z9,
  C.int .i64 z10,C.sym z11,C.sl It z4,C.sl (Ty.sl It) z12]),(2,Ob.box 50 [C.nils,C.nils,C.int .i64 0]),(3,Ob.box 50 [C.own 4 z7,C.own 6 z22,C.int
  .i64 z10]),(4,Ob.row 3 It z13),(6,Ob.row 36 (Ty.sl In) z24)] 7 = St.mk 51 [(1,V.c (C.ptr 1 0)),(2,V.c (C.ptr 2 0)),(3,V.c (C.ptr 3 0)),(4,V.c (C.int .i64
  z23))] [(0,Ob.amb),(1,Ob.box 28 [C.int .i64 z9,C.int .i64 z10,C.sym z11,C.sl It z4,C.sl (Ty.sl It) z12]),(2,Ob.box 50 [C.nils,C.nils,C.int .i64
  0]),(3,Ob.box 50 [C.own 4 z7,C.own 6 (L.llen (Ty.sl In) z24),C.int .i64 z10]),(4,Ob.row 3 It z13),(6,Ob.row 36 (Ty.sl In) z24)] 7∧I z25∧mu z25 < mu v1))))
  (.obl (St.mk 51 [(1,V.c (C.ptr 1 0)),(2,V.c (C.ptr 2 0)),(3,V.c (C.ptr 3 0)),(5,V.c (C.int .i64 0))] [(0,Ob.amb),(1,Ob.box 28 [C.int .i64 z9,C.int
  .i64 z10,C.sym z11,C.sl It z4,C.sl (Ty.sl It) z12]),(2,Ob.box 50 [C.nils,C.nils,C.int .i64 0]),(3,Ob.box 50 [C.own 4 z7,C.own 7 z19,C.int .i64
  z10]),(4,Ob.row 3 It z13),(7,Ob.row 36 (Ty.sl In) z18)] 8 = St.mk 51 [(1,V.c (C.ptr 1 0)),(2,V.c (C.ptr 2 0)),(3,V.c (C.ptr 3 0)),(5,V.c (C.int .i64 0))] [(0,
  Ob.amb),(1,Ob.box 28 [C.int .i64 z9,C.int .i64 z10,C.sym z11,C.sl It z4,C.sl (Ty.sl It) z12]),(2,Ob.box 50 [C.nils,C.nils,C.int .i64 0]),(3,
  Ob.box 50 [C.own 4 z7,C.own 7 z19,C.int .i64 z10]),(4,Ob.row 3 It z13),(7,Ob.row 36 (Ty.sl In) z18)] 8) (.obl (I2 (Prod.fst v1,0,())) (.all z15 fun (v2:List
  (List (Int × Int × Int × Int × Int × Int)) × Int × Unit) =>
 let z26:=v2.2.1;
 let z27:=v2.1;
 let z28:=L.llen (Ty.sl In) z27;
 let z29:=L.take (Ty.sl In) z27 z28;
 let z30:=L.take (Ty.sl In) [BeF.wrt M z16 z26] 1;
 let z31:=L.add (L.llen (Ty.sl In) z29) (L.llen (Ty.sl In) z30);
 let z32:=L.ar .add .i64 z26 1;
 let z33:=L.app (Ty.sl In) z29 z30;
 let z34:=(L.app (Ty.sl In) z29 z30,L.ar .add .i64 z26 1,()); .imp (I2 v2) (.br (L.cmp .lss z26 (L.cast (L.llen (Ty.sl It) z12))) (.obl
  (BeF.pWr M z16 z26) (.obl (L.room z31 24) (.ok (St.mk 51 [(1,V.c (C.ptr 1 0)),(2,V.c (C.ptr 2 0)),(3,V.c (C.ptr 3 0)),(5,V.c (C.int .i64 z32))] [(0,Ob.amb),
  (1,Ob.box 28 [C.int .i64 z9,C.int .i64 z10,C.sym z11,C.sl It z4,C.sl (Ty.sl It) z12]),(2,Ob.box 50 [C.nils,C.nils,C.int .i64 0]),(3,Ob.box 50
  [C.own 4 z7,C.own 7 z31,C.int .i64 z10]),(4,Ob.row 3 It z13),(7,Ob.row 36 (Ty.sl In) z33)] 8 = St.mk 51 [(1,V.c (C.ptr 1 0)),(2,V.c (C.ptr 2 0)),(3,V.c (C.ptr 3
  0)),(5,V.c (C.int .i64 z32))] [(0,Ob.amb),(1,Ob.box 28 [C.int .i64 z9,C.int .i64 z10,C.sym z11,C.sl It z4,C.sl (Ty.sl It) z12]),(2,Ob.box 50
  [C.nils,C.nils,C.int .i64 0]),(3,Ob.box 50 [C.own 4 z7,C.own 7 (L.llen (Ty.sl In) z33),C.int .i64 z10]),(4,Ob.row 3 It z13),(7,Ob.row 36 (Ty.sl In)
  z33)] 8∧I2 z34∧m2 z34 < m2 v2)))) (.ok (((L.take It z13 z7,L.take (Ty.sl In) z27 z28,z1.1),()) = (BeF.prg M b,())))))))))))))
theorem nb28_go (L:Lv) (F:BxF) (M:BeF) (I:Ds [.sl (.sl In),It]→Prop) (mu:Ds [.sl (.sl In),It]→Nat) (I2:Ds [.sl (.sl In),It]→Prop) (m2:Ds [.sl (.sl In),It]→Nat) (b:BlD) (h:VC.holds (nb28 L F M I mu I2 m2 b)):Holds (vcE L F M [] [38,39] 3 (Db28 (ab28 L I mu I2 m2)) (Sb28 M) (b,())):=Holds.of_eq (by kernel_rfl) h
def nb35 (L:Lv) (F:BxF) (M:BeF) (I:Ds [It,It]→Prop) (mu:Ds [It,It]→Nat) (b:BlD)  : VC :=
 let z1:=b.2;
 let z2:=z1.2;
 let z3:=z2.2;
 let z4:=(Prod.fst b,z1.1,z2.1,z3.1,z3.2);
 let z5:=b.1;
 let z6:=L.llen It (BeF.nums M z4);
 let z7:=z1.1;
 let z8:=z2.1;
 let z9:=z3.1;
 let z10:=z3.2; .obl (BeF.bB M z4) (.obl (St.mk 23 [(3,V.c (C.int .i64 z5)),(4,V.c (C.own 2 z6)),(5,V.c (C.int .i64 0))] [(0,Ob.amb),(1,Ob.box 28
  [C.int .i64 z5,C.int .i64 z7,C.sym z8,C.sl It z9,C.sl (Ty.sl It) z10]),(2,Ob.row 3 It (BeF.nums M z4))] 3 = St.mk 23 [(3,V.c (C.int .i64 z5)),(4,V.c
  (C.own 2 z6)),(5,V.c (C.int .i64 0))] [(0,Ob.amb),(1,Ob.box 28 [C.int .i64 z5,C.int .i64 z7,C.sym z8,C.sl It z9,C.sl (Ty.sl It) z10]),(2,Ob.row 3
  It (BeF.nums M z4))] 3) (.obl (I (Prod.fst b,0,())) (.all (Int × Int × Unit) fun (v1:Int × Int × Unit) =>
 let z11:=v1.2.1;
 let z12:=L.toN z11;
 let z13:=L.get It (BeF.nums M z4) z12;
 let z14:=L.mx v1.1 z13;
 let z15:=L.ar .add .i64 z11 1;
 let z16:=(L.mx v1.1 z13,L.ar .add .i64 z11 1,()); .imp (I v1) (.br (L.cmp .lss z11 (L.cast z6)) (.obl (L.inR z11 z6) (.obl
  (L.ltN z12 z6) (.ok (St.mk 23 [(3,V.c (C.int .i64 z14)),(4,V.c (C.own 2 z6)),(5,V.c (C.int .i64 z15))] [(0,Ob.amb),(1,Ob.box 28 [C.int .i64 z5,
  C.int .i64 z7,C.sym z8,C.sl It z9,C.sl (Ty.sl It) z10]),(2,Ob.row 3 It (BeF.nums M z4))] 3 = St.mk 23 [(3,V.c (C.int .i64 z14)),(4,V.c (C.own 2 z6)),(5,
  V.c (C.int .i64 z15))] [(0,Ob.amb),(1,Ob.box 28 [C.int .i64 z5,C.int .i64 z7,C.sym z8,C.sl It z9,C.sl (Ty.sl It) z10]),(2,Ob.row 3 It (BeF.nums M
  z4))] 3∧I z16∧mu z16 < mu v1)))) (.ok ((Prod.fst v1,()) = (BeF.sum M b,())))))))
theorem nb35_go (L:Lv) (F:BxF) (M:BeF) (I:Ds [It,It]→Prop) (mu:Ds [It,It]→Nat) (b:BlD) (h:VC.holds (nb35 L F M I mu b)):Holds (vcE L F M [] [83] 3 (Db35 (ab35 L I mu)) (Sb35 M) (b,())):=Holds.of_eq (by kernel_rfl) h
theorem okb28 (F:BxF) (M:BeF) (h:M.prg = prgF) (h1:M.wtr = wtrF) (h2:M.wrt = wrtF) (q:M.pP = bBF) (q1:M.pWt = pWtF) (q2:M.pWr = pWrF) (k1:SpecOk prog 38 (Sb38 M)) (k2:SpecOk prog 39 (Sb39 M)):SpecOk prog 28 (Sb28 M):=by
 refine Zc hm hE Db28 fnokb28 _ fun (z:BlD × Unit) hpre=>?_
 obtain ⟨b,⟨⟩⟩:=z
 have hpre':M.pP b:=hpre
 rw [q] at hpre'
 obtain ⟨g1,g2,g3⟩:=hpre'
 have w1:IntKind.i64.wrap (2 + IntKind.i64.wrap (2 * (b.2.2.2.1.length:Int))) = ((2 + 2 * b.2.2.2.1.length:Nat):Int):=by rw [Yn (x:=2 * (b.2.2.2.1.length:Int)) (by omega) (by omega),Yn (by omega) (by omega)]; omega
 have w2:IntKind.i64.wrap (IntKind.i64.wrap (2 * (b.2.2.2.1.length:Int)) + 2) = ((2 + 2 * b.2.2.2.1.length:Nat):Int):=by rw [Yn (x:=2 * (b.2.2.2.1.length:Int)) (by omega) (by omega),Yn (by omega) (by omega)]; omega
 have w3:IntKind.i64.wrap (2 * (b.2.2.2.1.length:Int)) = 2 * (b.2.2.2.1.length:Int):=Yn (by omega) (by omega)
 let f1:Nat→List InD:=fun i=>wtrF b (i:Int)
 let f2:Nat→List InD:=fun k=>wrtF b (k:Int)
 let I:List (List InD) × Int × Unit→Prop:=fun x=>(0≤x.2.1∧x.2.1≤b.2.2.2.1.length)∧x.1 = (List.range x.2.1.toNat).map f1
 let mu:List (List InD) × Int × Unit→Nat:=fun x=>(b.2.2.2.1.length - x.2.1).toNat
 let I2:List (List InD) × Int × Unit→Prop:=fun x=>(0≤x.2.1∧x.2.1≤b.2.2.2.2.length)∧x.1 = (List.range b.2.2.2.1.length).map f1 ++ (List.range x.2.1.toNat).map f2
 let m2:List (List InD) × Int × Unit→Nat:=fun x=>(b.2.2.2.2.length - x.2.1).toNat
 refine Yq _ 3 (ab28 Lv.std I mu I2 m2) (Zn (T:=tabO [] (eT F M)) (l:=[38,39]) (Za (Yh k1 (by kernel_rfl)) (Za (Yh k2 (by kernel_rfl)) Z2))) ?_
 refine nb28_go Lv.std F M I mu I2 m2 b ?_
 simp only [nb28,VC.holds,ZJ,ZO,Zb,Zh,Zp,Yj,Ym,Z6,ZM,Yl,Yk,Yf,ZX,ZY,ZT,ZR,Ye,ZN,ZB,ZD,Zm,Z1,ZS,Z5,ZK,ZW,Yb,ZV,ZP,ZQ,Zo,ZH,Ya,Z3,ZI,Yd,Yc,Z4,Z7,Zg,ZC,ZL,ZU,Z8,Z9,Zd,Ze,Zz,ZA,Zu,Zv,Zw,Zx,Zj,Zk,Zs,Zt,Zi,Zl,Zq,Zr,ZG,ZF,ZZ,Yg,ZE,w1,w2,Int.toNat_natCast,h,h1,h2,q1,q2,pe5,List.length_set,List.length_replicate,List.take_length,List.take_succ_cons,List.take_zero,List.take_nil,List.nil_append,List.length_append,List.length_cons,List.length_nil,Nat.zero_add,Prod.mk.injEq,and_true,true_and]
 refine ⟨⟨by omega,by omega,by omega,by omega⟩,⟨by omega,by omega⟩,by show (0:Nat) < _; omega,⟨⟨Int.le_refl 0,by show (0:Int)≤b.2.2.2.1.length; omega⟩,rfl⟩,?_⟩
 rintro ⟨l,x,⟨⟩⟩ ⟨⟨i1,i2⟩,i3⟩
 simp only at i1 i2 i3 ⊢
 obtain ⟨j,rfl⟩:=Yp i1
 rw [Int.toNat_natCast] at i3
 have hl:l.length = j:=by rw [i3,List.length_map,List.length_range]
 refine ⟨fun hlt=>?_,fun hge=>⟨⟨⟨Int.le_refl 0,by show (0:Int)≤b.2.2.2.2.length; omega⟩,?_⟩,?_⟩⟩
 ·rw [wr hlt (by omega)]
  refine ⟨⟨⟨g1,g2,g3⟩,i1,hlt⟩,⟨by omega,by omega⟩,⟨⟨by show (0:Int)≤((j + 1:Nat):Int); omega,by show ((j + 1:Nat):Int)≤b.2.2.2.1.length; omega⟩,?_⟩,by show ((b.2.2.2.1.length:Int) - ((j + 1:Nat):Int)).toNat < ((b.2.2.2.1.length:Int) - j).toNat; omega⟩
  show l ++ [wtrF b j] = (List.range ((j + 1:Nat):Int).toNat).map f1
  rw [Int.toNat_natCast,range_map,i3]
 ·show l = (List.range b.2.2.2.1.length).map f1 ++ []
  rw [List.append_nil,i3,show j = b.2.2.2.1.length by omega]
 ·rintro ⟨r,x,⟨⟩⟩ ⟨⟨j1,j2⟩,j3⟩
  simp only at j1 j2 j3 ⊢
  obtain ⟨k,rfl⟩:=Yp j1
  rw [Int.toNat_natCast] at j3
  have hr:r.length = b.2.2.2.1.length + k:=by rw [j3,List.length_append,List.length_map,List.length_range,List.length_map,List.length_range]
  refine ⟨fun hlt=>?_,fun hge=>?_⟩
  ·rw [wr hlt (by omega)]
   refine ⟨⟨⟨g1,g2,g3⟩,j1,hlt⟩,⟨by omega,by omega⟩,⟨⟨by show (0:Int)≤((k + 1:Nat):Int); omega,by show ((k + 1:Nat):Int)≤b.2.2.2.2.length; omega⟩,?_⟩,by show ((b.2.2.2.2.length:Int) - ((k + 1:Nat):Int)).toNat < ((b.2.2.2.2.length:Int) - k).toNat; omega⟩
   show r ++ [wrtF b k] = (List.range b.2.2.2.1.length).map f1 ++ (List.range ((k + 1:Nat):Int).toNat).map f2
   rw [Int.toNat_natCast,range_map,j3,List.append_assoc]
  ·rw [List.take_of_length_le (by rw [List.length_set,List.length_replicate]; omega),j3,show k = b.2.2.2.2.length by omega]
   rfl
theorem okb35 (F:BxF) (M:BeF) (h:M.sum = sumF) (h1:M.nums = numsBF) (q:M.bB = bBF) (k1:XOk prog 83 (Rb83 M).x):SpecOk prog 35 (Sb35 M):=by
 refine Zc hm hE Db35 fnokb35 _ fun (z:BlD × Unit) hpre=>?_
 obtain ⟨b,⟨⟩⟩:=z
 have hpre':M.bB b:=hpre
 rw [q] at hpre'
 have hf:=bB_flat hpre'
 obtain ⟨fl,hfl⟩:∃ l,l = b.2.2.2.2.flatten:=⟨_,rfl⟩
 rw [← hfl] at hf
 let I:Int × Int × Unit→Prop:=fun x=>(0≤x.2.1∧x.2.1≤fl.length)∧x.1 = (fl.take x.2.1.toNat).foldl max b.1
 let mu:Int × Int × Unit→Nat:=fun x=>(fl.length - x.2.1).toNat
 refine Yq _ 3 (ab35 Lv.std I mu) (Zn (T:=tabO [] (eT F M)) (l:=[83]) (Za (Xz k1 (by kernel_rfl)) Z2)) ?_
 refine nb35_go Lv.std F M I mu b ?_
 simp only [nb35,VC.holds,ZJ,ZO,Zb,Zh,Zp,Yj,Ym,Z6,ZM,Yl,Yk,Yf,ZX,ZY,ZT,ZR,Ye,ZN,ZB,ZD,Zm,Z1,ZS,Z5,ZK,ZW,Yb,ZV,ZP,ZQ,Zo,ZH,Ya,Z3,ZI,Yd,Yc,Z4,Z7,Zg,ZC,ZL,ZU,Z8,Z9,Zd,Ze,Zz,ZA,Zu,Zv,Zw,Zx,Zj,Zk,Zs,Zt,Zi,Zl,Zq,Zr,ZG,ZF,ZZ,Yg,ZE,h,h1,q,pe5,numsBF,← hfl,List.take_length,Prod.mk.injEq,and_true,true_and]
 refine ⟨hpre',⟨⟨Int.le_refl 0,by show (0:Int)≤fl.length; omega⟩,rfl⟩,?_⟩
 rintro ⟨m,x,⟨⟩⟩ ⟨⟨i1,i2⟩,i3⟩
 simp only at i1 i2 i3 ⊢
 obtain ⟨j,rfl⟩:=Yp i1
 rw [Int.toNat_natCast] at i3 ⊢
 refine ⟨fun hlt=>?_,fun hge=>?_⟩
 ·rw [wr hlt hf]
  refine ⟨⟨by omega,hlt⟩,by omega,⟨⟨by show (0:Int)≤((j + 1:Nat):Int); omega,by show ((j + 1:Nat):Int)≤fl.length; omega⟩,?_⟩,by show ((fl.length:Int) - ((j + 1:Nat):Int)).toNat < ((fl.length:Int) - j).toNat; omega⟩
  show max m _ = (fl.take ((j + 1:Nat):Int).toNat).foldl max b.1
  rw [Int.toNat_natCast,fold_take fl b.1 j (by omega),i3]
 ·rw [i3,List.take_of_length_le (by omega)]
  unfold sumF
  rw [fold_max,hfl]
end Go.Proofs.Tryz
namespace Go.Proofs.Tryz
open Go Go.VM
def ab39 (L:Lv) (I:Ds [.sl In,It]→Prop) (mu:Ds [.sl In,It]→Nat):Nat→LAnn
 | 0=>anH L [1,2,5,6] [] [.r 5 In,.s 6 It] I mu
 | _=>.no
def nb89 (L:Lv) (F:BxF) (M:BeF) (o a b c n:Int)  : VC :=
 .ok (((o,a,b,c,0,n),()) = (BeF.i3 M o a b c n,()))
theorem nb89_go (L:Lv) (F:BxF) (M:BeF) (o a b c n:Int) (h:VC.holds (nb89 L F M o a b c n)):Holds (vcE L F M [] [] 3 (Db89 a0) (Sb89 M) (o,a,b,c,n,())):=Holds.of_eq (by kernel_rfl) h
def nb90 (L:Lv) (F:BxF) (M:BeF) (a b:Int)  : VC :=
 let z1:=Prod.snd (BeF.i3 M 14 a 0 0 b);
 let z2:=z1.2;
 let z3:=z2.2;
 let z4:=z3.2; .obl True (.ok (((Prod.fst (BeF.i3 M 14 a 0 0 b),z1.1,z2.1,z3.1,z4.1,z4.2),()) = (BeF.izero M a b,())))
theorem nb90_go (L:Lv) (F:BxF) (M:BeF) (a b:Int) (h:VC.holds (nb90 L F M a b)):Holds (vcE L F M [] [89] 3 (Db90 a0) (Sb90 M) (a,b,())):=Holds.of_eq (by kernel_rfl) h
def nb91 (L:Lv) (F:BxF) (M:BeF) (a b c:Int)  : VC :=
 .ok (((10,5,0,a,b,c),()) = (BeF.iswR M a b c,()))
theorem nb91_go (L:Lv) (F:BxF) (M:BeF) (a b c:Int) (h:VC.holds (nb91 L F M a b c)):Holds (vcE L F M [] [] 3 (Db91 a0) (Sb91 M) (a,b,c,())):=Holds.of_eq (by kernel_rfl) h
def nb92 (L:Lv) (F:BxF) (M:BeF) (a:Int)  : VC :=
 let z1:=Prod.snd (BeF.i3 M 13 0 0 0 a);
 let z2:=z1.2;
 let z3:=z2.2;
 let z4:=z3.2; .obl True (.ok (((Prod.fst (BeF.i3 M 13 0 0 0 a),z1.1,z2.1,z3.1,z4.1,z4.2),()) = (BeF.ijmp M a,())))
theorem nb92_go (L:Lv) (F:BxF) (M:BeF) (a:Int) (h:VC.holds (nb92 L F M a)):Holds (vcE L F M [] [89] 3 (Db92 a0) (Sb92 M) (a,())):=Holds.of_eq (by kernel_rfl) h
def nb38 (L:Lv) (F:BxF) (M:BeF) (b:BlD) (i:Int)  : VC :=
 let z1:=b.2.2;
 let z2:=z1.1;
 let z3:=z1.2.1;
 let z4:=L.inR i (L.llen It z3);
 let z5:=L.ar .add .i64 i 1;
 let z6:=Prod.snd (BeF.i3 M 1 8 0 0 z5);
 let z7:=z6.2;
 let z8:=z7.2;
 let z9:=z8.2;
 let z10:=(Prod.fst (BeF.i3 M 1 8 0 0 z5),z6.1,z7.1,z8.1,z9.1,z9.2);
 let z11:=L.get It z3 (L.toN i);
 let z12:=Prod.snd (BeF.i3 M 1 9 0 0 z11);
 let z13:=z12.2;
 let z14:=z13.2;
 let z15:=z14.2;
 let z16:=(Prod.fst (BeF.i3 M 1 9 0 0 z11),z12.1,z13.1,z14.1,z15.1,z15.2);
 let z17:=Prod.snd (BeF.i3 M 8 1 0 0 0);
 let z18:=z17.2;
 let z19:=z18.2;
 let z20:=z19.2;
 let z21:=(Prod.fst (BeF.i3 M 8 1 0 0 0),z17.1,z18.1,z19.1,z20.1,z20.2);
 let z22:=Prod.snd (BeF.i3 M 6 5 9 1 0);
 let z23:=z22.2;
 let z24:=z23.2;
 let z25:=z24.2;
 let z26:=(Prod.fst (BeF.i3 M 6 5 9 1 0),z22.1,z23.1,z24.1,z25.1,z25.2);
 let z27:=L.ar .sub .i64 15 3;
 let z28:=Prod.snd (BeF.izero M 5 z27);
 let z29:=z28.2;
 let z30:=z29.2;
 let z31:=z30.2;
 let z32:=(Prod.fst (BeF.izero M 5 z27),z28.1,z29.1,z30.1,z31.1,z31.2);
 let z33:=Prod.snd (BeF.i3 M 8 2 0 0 1);
 let z34:=z33.2;
 let z35:=z34.2;
 let z36:=z35.2;
 let z37:=(Prod.fst (BeF.i3 M 8 2 0 0 1),z33.1,z34.1,z35.1,z36.1,z36.2);
 let z38:=L.ar .mul .i64 2 i;
 let z39:=L.ar .add .i64 z38 2;
 let z40:=Prod.snd (BeF.i3 M 9 2 0 0 z39);
 let z41:=z40.2;
 let z42:=z41.2;
 let z43:=z42.2;
 let z44:=(Prod.fst (BeF.i3 M 9 2 0 0 z39),z40.1,z41.1,z42.1,z43.1,z43.2);
 let z45:=Prod.snd (BeF.iswR M 2 8 1);
 let z46:=z45.2;
 let z47:=z46.2;
 let z48:=z47.2;
 let z49:=(Prod.fst (BeF.iswR M 2 8 1),z45.1,z46.1,z47.1,z48.1,z48.2);
 let z50:=Prod.snd (BeF.izero M 5 5);
 let z51:=z50.2;
 let z52:=z51.2;
 let z53:=z52.2;
 let z54:=(Prod.fst (BeF.izero M 5 5),z50.1,z51.1,z52.1,z53.1,z53.2);
 let z55:=(L.take In [z10,z16,z21,z26,z32,z37,z44,z49,z54] 9);
 let z56:=L.llen In z55;
 let z57:=L.ar .add .i64 z38 3;
 let z58:=Prod.snd (BeF.i3 M 12 0 0 0 z57);
 let z59:=z58.2;
 let z60:=z59.2;
 let z61:=z60.2;
 let z62:=Prod.snd (BeF.i3 M 9 0 0 0 z57);
 let z63:=z62.2;
 let z64:=z63.2;
 let z65:=z64.2;
 let z66:=Prod.snd (BeF.ijmp M 2);
 let z67:=z66.2;
 let z68:=z67.2;
 let z69:=z68.2;
 let z70:=Prod.snd (BeF.i3 M 15 1 0 0 0);
 let z71:=z70.2;
 let z72:=z71.2;
 let z73:=z72.2;
 let z74:=(L.take In [(Prod.fst (BeF.i3 M 12 0 0 0 z57),z58.1,z59.1,z60.1,z61.1,z61.2),(Prod.fst (BeF.i3 M 9 0 0 0 z57),z62.1,
  Prod.fst z63,z64.1,z65.1,z65.2),(Prod.fst (BeF.ijmp M 2),z66.1,z67.1,z68.1,z69.1,z69.2),(Prod.fst (BeF.i3 M 15 1
  0 0 0),z70.1,z71.1,z72.1,z73.1,z73.2)] 4);
 let z75:=L.llen In z74;
 let z76:=L.add z56 z75;
 let z77:=(L.take In [z21,z26,z32] 3);
 let z78:=L.add z56 (L.llen In z77);
 let z79:=L.take In (L.app In z55 z77) z78;
 let z80:=L.add (L.llen In z79) z75;
 let z81:=L.ar .sub .i64 15 0;
 let z82:=Prod.snd (BeF.izero M 5 z81);
 let z83:=z82.2;
 let z84:=z83.2;
 let z85:=z84.2;
 let z86:=(Prod.fst (BeF.izero M 5 z81),z82.1,z83.1,z84.1,z85.1,z85.2);
 let z87:=(L.take In [z10,z16,z21,z26,z86,z37,z44,z49,z54] 9);
 let z88:=L.llen In z87;
 let z89:=L.add z88 z75;
 let z90:=(L.take In [z21,z26,z86] 3);
 let z91:=L.add z88 (L.llen In z90);
 let z92:=L.take In (L.app In z87 z90) z91;
 let z93:=L.add (L.llen In z92) z75; .br z2 (.obl True (.obl z4 (.obl True (.obl True (.obl True (.obl True (.obl True (.obl True (.obl True (.obl True
  (.br z2 (.obl True (.obl True (.obl True (.obl True (.obl (L.room z76 48) (.ok ((L.take In (L.app In z55 z74) z76,()) = (BeF.wtr M b i,())))))))) (.obl
  True (.obl True (.obl True (.obl (L.room z78 48) (.obl True (.obl True (.obl True (.obl True (.obl (L.room z80 48) (.ok ((L.take In (L.app In z79
  z74) z80,()) = (BeF.wtr M b i,()))))))))))))))))))))))) (.obl True (.obl z4 (.obl True (.obl True (.obl True (.obl True (.obl True (.obl True (.obl True
  (.obl True (.br z2 (.obl True (.obl True (.obl True (.obl True (.obl (L.room z89 48) (.ok ((L.take In (L.app In z87 z74) z89,()) = (BeF.wtr M b i,
  ())))))))) (.obl True (.obl True (.obl True (.obl (L.room z91 48) (.obl True (.obl True (.obl True (.obl True (.obl (L.room z93 48) (.ok ((L.take In
  (L.app In z92 z74) z93,()) = (BeF.wtr M b i,())))))))))))))))))))))))
theorem nb38_go (L:Lv) (F:BxF) (M:BeF) (b:BlD) (i:Int) (h:VC.holds (nb38 L F M b i)):Holds (vcE L F M [] [89,90,91,92] 3 (Db38 a0) (Sb38 M) (b,i,())):=Holds.of_eq (by kernel_rfl) h
def nb39 (L:Lv) (F:BxF) (M:BeF) (I:Ds [.sl In,It]→Prop) (mu:Ds [.sl In,It]→Nat) (b:BlD) (i:Int)  : VC :=
 let z1:=b.1;
 let z2:=b.2.1;
 let z3:=b.2.2;
 let z4:=z3.1;
 let z5:=z3.2;
 let z6:=z5.1;
 let z7:=z5.2;
 let z8:=Prod.snd (BeF.i3 M 1 7 0 0 1);
 let z9:=z8.2;
 let z10:=z9.2;
 let z11:=z10.2;
 let z12:=(Prod.fst (BeF.i3 M 1 7 0 0 1),z8.1,z9.1,z10.1,z11.1,z11.2);
 let z13:=Int × Int × Int × Int × Int × Int;
 let z14:=L.inR i (L.llen (Ty.sl It) z7);
 let z15:=L.get (Ty.sl It) z7 (L.toN i);
 let z16:=L.llen It z15;
 let z17:=Prod.snd (BeF.i3 M 8 1 0 0 0);
 let z18:=z17.2;
 let z19:=z18.2;
 let z20:=z19.2;
 let z21:=(Prod.fst (BeF.i3 M 8 1 0 0 0),z17.1,z18.1,z19.1,z20.1,z20.2);
 let z22:=Prod.snd (BeF.i3 M 6 5 3 1 0);
 let z23:=z22.2;
 let z24:=z23.2;
 let z25:=z24.2;
 let z26:=(Prod.fst (BeF.i3 M 6 5 3 1 0),z22.1,z23.1,z24.1,z25.1,z25.2);
 let z27:=Prod.snd (BeF.iswR M 1 3 0);
 let z28:=z27.2;
 let z29:=z28.2;
 let z30:=z29.2;
 let z31:=(Prod.fst (BeF.iswR M 1 3 0),z27.1,z28.1,z29.1,z30.1,z30.2);
 let z32:=Prod.snd (BeF.i3 M 8 2 0 0 1);
 let z33:=z32.2;
 let z34:=z33.2;
 let z35:=z34.2;
 let z36:=(Prod.fst (BeF.i3 M 8 2 0 0 1),z32.1,z33.1,z34.1,z35.1,z35.2);
 let z37:=Prod.snd (BeF.iswR M 2 0 1);
 let z38:=z37.2;
 let z39:=z38.2;
 let z40:=z39.2;
 let z41:=(Prod.fst (BeF.iswR M 2 0 1),z37.1,z38.1,z39.1,z40.1,z40.2);
 let z42:=Prod.snd (BeF.i3 M 2 4 2 2 0);
 let z43:=z42.2;
 let z44:=z43.2;
 let z45:=z44.2;
 let z46:=(Prod.fst (BeF.i3 M 2 4 2 2 0),z42.1,z43.1,z44.1,z45.1,z45.2);
 let z47:=Prod.snd (BeF.i3 M 8 6 4 0 0);
 let z48:=z47.2;
 let z49:=z48.2;
 let z50:=z49.2;
 let z51:=(Prod.fst (BeF.i3 M 8 6 4 0 0),z47.1,z48.1,z49.1,z50.1,z50.2);
 let z52:=Prod.snd (BeF.i3 M 9 7 4 0 1);
 let z53:=z52.2;
 let z54:=z53.2;
 let z55:=z54.2;
 let z56:=(Prod.fst (BeF.i3 M 9 7 4 0 1),z52.1,z53.1,z54.1,z55.1,z55.2);
 let z57:=Prod.snd (BeF.i3 M 2 2 6 0 0);
 let z58:=z57.2;
 let z59:=z58.2;
 let z60:=z59.2;
 let z61:=(Prod.fst (BeF.i3 M 2 2 6 0 0),z57.1,z58.1,z59.1,z60.1,z60.2); .obl True (.obl (St.mk 65 [(1,V.c (C.int .i64 i)),(2,
  V.c (C.ptr 1 0)),(5,V.c (C.own 3 1)),(6,V.c (C.int .i64 0))] [(0,Ob.amb),(1,Ob.box 28 [C.int .i64 z1,C.int .i64 z2,C.sym z4,C.sl It z6,C.sl (Ty.sl
  It) z7]),(3,Ob.row 140 In [z12])] 4 = St.mk 65 [(1,V.c (C.int .i64 i)),(2,V.c (C.ptr 1 0)),(5,V.c (C.own 3 (L.llen In [z12]))),(6,V.c (C.int .i64 0))]
  [(0,Ob.amb),(1,Ob.box 28 [C.int .i64 z1,C.int .i64 z2,C.sym z4,C.sl It z6,C.sl (Ty.sl It) z7]),(3,Ob.row 140 In [z12])] 4) (.obl (I ([z12],0,()))
  (.all (List z13 × Int × Unit) fun (v1:List (Int × Int × Int × Int × Int × Int) × Int × Unit) =>
 let z62:=v1.2.1;
 let z63:=v1.1;
 let z64:=L.llen In z63;
 let z65:=L.take In z63 z64;
 let z66:=L.get It z15 (L.toN z62);
 let z67:=Prod.snd (BeF.i3 M 1 3 0 0 z66);
 let z68:=z67.2;
 let z69:=z68.2;
 let z70:=z69.2;
 let z71:=L.cast z64;
 let z72:=L.ar .add .i64 z71 17;
 let z73:=Prod.snd (BeF.izero M 5 z72);
 let z74:=z73.2;
 let z75:=z74.2;
 let z76:=z75.2;
 let z77:=L.ar .add .i64 z71 1;
 let z78:=Prod.snd (BeF.izero M 5 z77);
 let z79:=z78.2;
 let z80:=z79.2;
 let z81:=z80.2;
 let z82:=Prod.snd (BeF.izero M 2 z72);
 let z83:=z82.2;
 let z84:=z83.2;
 let z85:=z84.2;
 let z86:=(Prod.fst (BeF.izero M 2 z72),z82.1,z83.1,z84.1,z85.1,z85.2);
 let z87:=L.ar .add .i64 z71 6;
 let z88:=Prod.snd (BeF.izero M 5 z87);
 let z89:=z88.2;
 let z90:=z89.2;
 let z91:=z90.2;
 let z92:=L.ar .add .i64 z71 11;
 let z93:=Prod.snd (BeF.ijmp M z92);
 let z94:=z93.2;
 let z95:=z94.2;
 let z96:=z95.2;
 let z97:=(L.take In [(Prod.fst (BeF.i3 M 1 3 0 0 z66),z67.1,z68.1,z69.1,z70.1,z70.2),z21,z26,(Prod.fst (BeF.izero M 5 z72),Prod.fst
  z73,z74.1,z75.1,z76.1,z76.2),z31,(Prod.fst (BeF.izero M 5 z77),z78.1,z79.1,z80.1,z81.1,z81.2),z36,z86,
  z41,(Prod.fst (BeF.izero M 5 z87),z88.1,z89.1,z90.1,z91.1,z91.2),z86,z46,z51,z56,z61,z86,(Prod.fst (BeF.ijmp M z92),z93.1,
  Prod.fst z94,z95.1,z96.1,z96.2)] 17);
 let z98:=L.add (L.llen In z65) (L.llen In z97);
 let z99:=L.ar .add .i64 z62 1;
 let z100:=L.app In z65 z97;
 let z101:=(L.app In z65 z97,L.ar .add .i64 z62 1,()); .imp (I v1) (.obl z14 (.br (L.cmp .lss z62 (L.cast z16)) (.obl z14 (.obl (L.inR
  z62 z16) (.obl True (.obl True (.obl True (.obl True (.obl True (.obl True (.obl True (.obl True (.obl True (.obl True (.obl True (.obl True (.obl True
  (.obl True (.obl True (.obl True (.obl True (.obl (L.room z98 48) (.ok (St.mk 65 [(1,V.c (C.int .i64 i)),(2,V.c (C.ptr 1 0)),(5,V.c (C.own 3 z98)),(6,
  V.c (C.int .i64 z99))] [(0,Ob.amb),(1,Ob.box 28 [C.int .i64 z1,C.int .i64 z2,C.sym z4,C.sl It z6,C.sl (Ty.sl It) z7]),(3,Ob.row 140 In z100)] 4 =
  St.mk 65 [(1,V.c (C.int .i64 i)),(2,V.c (C.ptr 1 0)),(5,V.c (C.own 3 (L.llen In z100))),(6,V.c (C.int .i64 z99))] [(0,Ob.amb),(1,Ob.box 28 [C.int
  .i64 z1,C.int .i64 z2,C.sym z4,C.sl It z6,C.sl (Ty.sl It) z7]),(3,Ob.row 140 In z100)] 4∧I z101∧mu z101 < mu v1)))))))))))))))))))))) (.ok ((L.take
  In z63 z64,()) = (BeF.wrt M b i,()))))))))
theorem nb39_go (L:Lv) (F:BxF) (M:BeF) (I:Ds [.sl In,It]→Prop) (mu:Ds [.sl In,It]→Nat) (b:BlD) (i:Int) (h:VC.holds (nb39 L F M I mu b i)):Holds (vcE L F M [] [89,90,91,92] 3 (Db39 (ab39 L I mu)) (Sb39 M) (b,i,())):=Holds.of_eq (by kernel_rfl) h
theorem okb89 (F:BxF) (M:BeF) (h:M.i3 = fun o a b c n=>(o,a,b,c,0,n)):SpecOk prog 89 (Sb89 M):=by
 refine Zc hm hE Db89 fnokb89 _ fun (z:Int × Int × Int × Int × Int × Unit) hpre=>?_
 obtain ⟨o,a,b,c,n,⟨⟩⟩:=z
 refine Yq _ 3 a0 (Zn (T:=tabO [] (eT F M)) (l:=[]) Z2) ?_
 refine nb89_go Lv.std F M o a b c n ?_
 simp only [nb89,VC.holds,ZJ,ZO,Zb,Zh,Zp,Yj,Ym,Z6,ZM,Yl,Yk,Yf,ZX,ZY,ZT,ZR,Ye,ZN,ZB,ZD,Zm,Z1,ZS,Z5,ZK,ZW,Yb,ZV,ZP,ZQ,Zo,ZH,Ya,Z3,ZI,Yd,Yc,Z4,Z7,Zg,ZC,ZL,ZU,Z8,Z9,Zd,Ze,Zz,ZA,Zu,Zv,Zw,Zx,Zj,Zk,Zs,Zt,Zi,Zl,Zq,Zr,ZG,ZF,ZZ,Yg,ZE,h]
theorem okb90 (F:BxF) (M:BeF) (h:M.izero = fun a n=>(14,a,0,0,0,n)) (h1:M.i3 = fun o a b c n=>(o,a,b,c,0,n)) (k1:SpecOk prog 89 (Sb89 M)):SpecOk prog 90 (Sb90 M):=by
 refine Zc hm hE Db90 fnokb90 _ fun (z:Int × Int × Unit) hpre=>?_
 obtain ⟨a,b,⟨⟩⟩:=z
 refine Yq _ 3 a0 (Zn (T:=tabO [] (eT F M)) (l:=[89]) (Za (Yh k1 (by kernel_rfl)) Z2)) ?_
 refine nb90_go Lv.std F M a b ?_
 simp only [nb90,VC.holds,ZJ,ZO,Zb,Zh,Zp,Yj,Ym,Z6,ZM,Yl,Yk,Yf,ZX,ZY,ZT,ZR,Ye,ZN,ZB,ZD,Zm,Z1,ZS,Z5,ZK,ZW,Yb,ZV,ZP,ZQ,Zo,ZH,Ya,Z3,ZI,Yd,Yc,Z4,Z7,Zg,ZC,ZL,ZU,Z8,Z9,Zd,Ze,Zz,ZA,Zu,Zv,Zw,Zx,Zj,Zk,Zs,Zt,Zi,Zl,Zq,Zr,ZG,ZF,ZZ,Yg,ZE,h,h1,and_true]
theorem okb91 (F:BxF) (M:BeF) (h:M.iswR = fun a b c=>(10,5,0,a,b,c)):SpecOk prog 91 (Sb91 M):=by
 refine Zc hm hE Db91 fnokb91 _ fun (z:Int × Int × Int × Unit) hpre=>?_
 obtain ⟨a,b,c,⟨⟩⟩:=z
 refine Yq _ 3 a0 (Zn (T:=tabO [] (eT F M)) (l:=[]) Z2) ?_
 refine nb91_go Lv.std F M a b c ?_
 simp only [nb91,VC.holds,ZJ,ZO,Zb,Zh,Zp,Yj,Ym,Z6,ZM,Yl,Yk,Yf,ZX,ZY,ZT,ZR,Ye,ZN,ZB,ZD,Zm,Z1,ZS,Z5,ZK,ZW,Yb,ZV,ZP,ZQ,Zo,ZH,Ya,Z3,ZI,Yd,Yc,Z4,Z7,Zg,ZC,ZL,ZU,Z8,Z9,Zd,Ze,Zz,ZA,Zu,Zv,Zw,Zx,Zj,Zk,Zs,Zt,Zi,Zl,Zq,Zr,ZG,ZF,ZZ,Yg,ZE,h]
theorem okb92 (F:BxF) (M:BeF) (h:M.ijmp = fun n=>(13,0,0,0,0,n)) (h1:M.i3 = fun o a b c n=>(o,a,b,c,0,n)) (k1:SpecOk prog 89 (Sb89 M)):SpecOk prog 92 (Sb92 M):=by
 refine Zc hm hE Db92 fnokb92 _ fun (z:Int × Unit) hpre=>?_
 obtain ⟨a,⟨⟩⟩:=z
 refine Yq _ 3 a0 (Zn (T:=tabO [] (eT F M)) (l:=[89]) (Za (Yh k1 (by kernel_rfl)) Z2)) ?_
 refine nb92_go Lv.std F M a ?_
 simp only [nb92,VC.holds,ZJ,ZO,Zb,Zh,Zp,Yj,Ym,Z6,ZM,Yl,Yk,Yf,ZX,ZY,ZT,ZR,Ye,ZN,ZB,ZD,Zm,Z1,ZS,Z5,ZK,ZW,Yb,ZV,ZP,ZQ,Zo,ZH,Ya,Z3,ZI,Yd,Yc,Z4,Z7,Zg,ZC,ZL,ZU,Z8,Z9,Zd,Ze,Zz,ZA,Zu,Zv,Zw,Zx,Zj,Zk,Zs,Zt,Zi,Zl,Zq,Zr,ZG,ZF,ZZ,Yg,ZE,h,h1,and_true]
theorem okb38 (F:BxF) (M:BeF) (h:M.wtr = wtrF) (hp:M.pWt = pWtF) (e1:M.i3 = fun o a b c n=>(o,a,b,c,0,n)) (e2:M.izero = fun a n=>(14,a,0,0,0,n)) (e3:M.iswR = fun a b c=>(10,5,0,a,b,c)) (e4:M.ijmp = fun n=>(13,0,0,0,0,n))
  (k1:SpecOk prog 89 (Sb89 M)) (k2:SpecOk prog 90 (Sb90 M)) (k3:SpecOk prog 91 (Sb91 M)) (k4:SpecOk prog 92 (Sb92 M)):SpecOk prog 38 (Sb38 M):=by
 refine Zc hm hE Db38 fnokb38 _ fun (z:BlD × Int × Unit) hpre=>?_
 obtain ⟨b,i,⟨⟩⟩:=z
 have hpre':M.pWt b i:=hpre
 rw [hp] at hpre'
 obtain ⟨⟨g1,g2,g3⟩,g4,g5⟩:=hpre'
 refine Yq _ 3 a0 (Zn (T:=tabO [] (eT F M)) (l:=[89,90,91,92]) (Za (Yh k1 (by kernel_rfl)) (Za (Yh k2 (by kernel_rfl)) (Za (Yh k3 (by kernel_rfl)) (Za (Yh k4 (by kernel_rfl)) Z2))))) ?_
 refine nb38_go Lv.std F M b i ?_
 have wi:IntKind.i64.wrap (i + 1) = i + 1:=Yn (by omega) (by omega)
 have w2:IntKind.i64.wrap (2 * i) = 2 * i:=Yn (by omega) (by omega)
 have w3:IntKind.i64.wrap (2 * i + 2) = 2 + 2 * i:=by rw [Yn (by omega) (by omega)]; omega
 have w4:IntKind.i64.wrap (2 * i + 3) = 2 + 2 * i + 1:=by rw [Yn (by omega) (by omega)]; omega
 have w5:IntKind.i64.wrap (15 - 3) = 12:=rfl
 have w6:IntKind.i64.wrap (15 - 0) = 15:=rfl
 simp only [nb38,VC.holds,ZJ,ZO,Zb,Zh,Zp,Yj,Ym,Z6,ZM,Yl,Yk,Yf,ZX,ZY,ZT,ZR,Ye,ZN,ZB,ZD,Zm,Z1,ZS,Z5,ZK,ZW,Yb,ZV,ZP,ZQ,Zo,ZH,Ya,Z3,ZI,Yd,Yc,Z4,Z7,Zg,ZC,ZL,ZU,Z8,Z9,Zd,Ze,Zz,ZA,Zu,Zv,Zw,Zx,Zj,Zk,Zs,Zt,Zi,Zl,Zq,Zr,ZG,ZF,ZZ,Yg,ZE,h,e1,e2,e3,e4,wi,w2,w3,w4,w5,w6,List.take_succ_cons,List.take_zero,List.take_nil,List.nil_append,List.cons_append,List.append_nil,List.length_cons,List.length_nil,Nat.zero_add,Nat.reduceAdd,Nat.reduceMul,Nat.reduceLeDiff,Prod.mk.injEq,and_true,true_and,wtrF]
 exact ⟨fun c=>⟨⟨g4,g5⟩,(fun _=>by rw [c]; rfl),fun d=>by rw [c] at d; cases d⟩,fun c=>⟨⟨g4,g5⟩,(fun d=>by rw [c] at d; cases d),fun _=>by rw [c]; rfl⟩⟩
theorem okb39 (F:BxF) (M:BeF) (h:M.wrt = wrtF) (hp:M.pWr = pWrF) (e1:M.i3 = fun o a b c n=>(o,a,b,c,0,n)) (e2:M.izero = fun a n=>(14,a,0,0,0,n)) (e3:M.iswR = fun a b c=>(10,5,0,a,b,c)) (e4:M.ijmp = fun n=>(13,0,0,0,0,n))
  (k1:SpecOk prog 89 (Sb89 M)) (k2:SpecOk prog 90 (Sb90 M)) (k3:SpecOk prog 91 (Sb91 M)) (k4:SpecOk prog 92 (Sb92 M)):SpecOk prog 39 (Sb39 M):=by
 refine Zc hm hE Db39 fnokb39 _ fun (z:BlD × Int × Unit) hpre=>?_
 obtain ⟨b,i,⟨⟩⟩:=z
 have hpre':M.pWr b i:=hpre
 rw [hp] at hpre'
 obtain ⟨⟨g1,g2,g3⟩,g4,g5⟩:=hpre'
 obtain ⟨k,rfl⟩:=Yp g4
 have hk:k < b.2.2.2.2.length:=by omega
 obtain ⟨row,hrow⟩:∃ r,r = (b.2.2.2.2[k]?).getD []:=⟨_,rfl⟩
 have g6:row.length≤1000:=by rw [hrow,List.getElem?_eq_getElem hk]; exact g3 _ (List.getElem_mem hk)
 let I:List InD × Int × Unit→Prop:=fun x=>(0≤x.2.1∧x.2.1≤row.length)∧x.1 = ringsF (row.take x.2.1.toNat)
 let mu:List InD × Int × Unit→Nat:=fun x=>(row.length - x.2.1).toNat
 refine Yq _ 3 (ab39 Lv.std I mu) (Zn (T:=tabO [] (eT F M)) (l:=[89,90,91,92]) (Za (Yh k1 (by kernel_rfl)) (Za (Yh k2 (by kernel_rfl)) (Za (Yh k3 (by kernel_rfl)) (Za (Yh k4 (by kernel_rfl)) Z2))))) ?_
 refine nb39_go Lv.std F M I mu b k ?_
 simp only [nb39,VC.holds,ZJ,ZO,Zb,Zh,Zp,Yj,Ym,Z6,ZM,Yl,Yk,Yf,ZX,ZY,ZT,ZR,Ye,ZN,ZB,ZD,Zm,Z1,ZS,Z5,ZK,ZW,Yb,ZV,ZP,ZQ,Zo,ZH,Ya,Z3,ZI,Yd,Yc,Z4,Z7,Zg,ZC,ZL,ZU,Z8,Z9,Zd,Ze,Zz,ZA,Zu,Zv,Zw,Zx,Zj,Zk,Zs,Zt,Zi,Zl,Zq,Zr,ZG,ZF,ZZ,Yg,ZE,h,tkI,e1,e2,e3,e4,Int.toNat_natCast,← hrow,List.take_succ_cons,List.take_zero,List.take_nil,List.take_length,List.nil_append,List.cons_append,List.append_nil,List.length_cons,List.length_nil,Nat.zero_add,Nat.reduceAdd,Nat.reduceMul,Nat.reduceLeDiff,Prod.mk.injEq,and_true,true_and]
 refine ⟨⟨⟨Int.le_refl 0,by show (0:Int)≤row.length; omega⟩,rfl⟩,?_⟩
 rintro ⟨l,x,⟨⟩⟩ ⟨⟨i1,i2⟩,i3⟩
 simp only at i1 i2 i3 ⊢
 obtain ⟨j,rfl⟩:=Yp i1
 rw [Int.toNat_natCast] at i3 ⊢
 have hl:l.length = 1 + 17 * j:=by rw [i3,rings_len,List.length_take]; omega
 have wl:∀ n:Int,0≤n→n≤100→IntKind.i64.wrap ((l.length:Int) + n) = (l.length:Int) + n:=fun n h0 h1=>Yn (by omega) (by omega)
 rw [wl 17 (by omega) (by omega),wl 1 (by omega) (by omega),wl 6 (by omega) (by omega),wl 11 (by omega) (by omega)]
 refine ⟨⟨g4,by omega⟩,fun hlt=>?_,fun hge=>?_⟩
 ·have hj:j < row.length:=by omega
  rw [wr hlt (by omega)]
  refine ⟨⟨g4,by omega⟩,⟨by omega,hlt⟩,⟨by omega,by omega⟩,?_,⟨⟨by show (0:Int)≤((j + 1:Nat):Int); omega,by show ((j + 1:Nat):Int)≤row.length; omega⟩,?_⟩,by show ((row.length:Int) - ((j + 1:Nat):Int)).toNat < ((row.length:Int) - j).toNat; omega⟩
  ·simp only [List.length_append,List.length_cons,List.length_nil]
  ·show _ = ringsF (row.take ((j + 1:Nat):Int).toNat)
   rw [Int.toNat_natCast,rings_take row j hj,← i3]
   rfl
 ·rw [i3,List.take_of_length_le (by omega),hrow]
  unfold wrtF
  rw [Int.toNat_natCast]
end Go.Proofs.Tryz
namespace Go.Proofs.Tryz
open Go Go.VM
theorem okb33 (F:BxF) (M:BeF) (h:M.prgE = prgEF) (h1:M.chk = chkB) (h2:M.prg = prgF) (q:M.bB = bBF) (q2:M.pP = bBF) (k1:SpecOk prog 62 (Sb62 M)) (k2:SpecOk prog 63 (Sb63 M)):SpecOk prog 33 (Sb33 M):=by
 refine Zc hm hE Db33 fnokb33 _ fun (z:BlD × Unit) hpre=>?_
 obtain ⟨b,⟨⟩⟩:=z
 have hpre':M.bB b:=hpre
 rw [q] at hpre'
 refine Yq _ 3 a0 (Zn (T:=tabO [] (eT F M)) (l:=[62,63]) (Za (Yh k1 (by kernel_rfl)) (Za (Yh k2 (by kernel_rfl)) Z2))) ?_
 refine nb33_go Lv.std F M b ?_
 simp only [nb33,VC.holds,ZJ,ZO,Zb,Zh,Zp,Yj,Ym,Z6,ZM,Yl,Yk,Yf,ZX,ZY,ZT,ZR,Ye,ZN,ZB,ZD,Zm,Z1,ZS,Z5,ZK,ZW,Yb,ZV,ZP,ZQ,Zo,ZH,Ya,Z3,ZI,Yd,Yc,Z4,Z7,Zg,ZC,ZL,ZU,Z8,Z9,Zd,Ze,Zz,ZA,Zu,Zv,Zw,Zx,Zj,Zk,Zs,Zt,Zi,Zl,Zq,Zr,ZG,ZF,ZZ,Yg,ZE,h,h1,h2,q,q2,prgEF,pe5,Prod.mk.injEq,and_true,true_and]
 refine ⟨hpre',fun hc=>?_,fun hc=>⟨hpre',?_⟩⟩
 ·rw [if_pos hc]; simp
 ·rw [if_neg (by omega)]; simp
end Go.Proofs.Tryz
namespace Go.Proofs.Tryz
open Go Go.VM
def LB:VM.Spec:=⟨[Bl],[.bool],fun x=>bTF x.1,fun _=>(true,())⟩
def nb7 (L:Lv) (F:BxF) (M:BeF) (b:BlD)  : VC :=
 let z1:=b.2.2;
 let z2:=z1.2;
 let z3:=(Prod.fst b,b.2.1,z1.1,z2.1,z2.2);
 let z4:=L.cmp .eql (BeF.chk M z3) (BeF.chk M z3);
 let z5:=L.cmp .eql (Prod.snd (BeF.prgE M z3)) (BeF.chk M z3);
 let z6:=L.cmp .eql (Prod.snd (BeF.sumE M z3)) (BeF.chk M z3);
 let z7:=Prod.fst (BeF.prgE M z3);
 let z8:=z7.2;
 let z9:=(Prod.fst z7,z8.1,z8.2);
 let z10:=Prod.snd (BeF.prg M z3);
 let z11:=(Prod.fst (BeF.prg M z3),z10.1,z10.2);
 let z12:=Prod.fst (BeF.sumE M z3); .obl (BeF.bT M z3) (.br (BeF.thin M z3) (.obl (BeF.bB M z3) (.obl (BeF.bB M z3) (.obl (BeF.bB M z3) (.obl (BeF.bB M z3) (.obl
  (BeF.bB M z3) (.br (L.cmp .eql (BeF.chk M z3) 0) (.obl (BeF.pP M z3) (.obl (BeF.bB M z3) (.obl (BeF.bB M z3) (.obl (BeF.bB M z3) (.br z4 (.br z5 (.br z6
  (.obl (BxF.bw F z9∧BxF.bw F z11) (.br (BxF.sameW F z9 z11) (.br (L.cmp .eql z12 (BeF.sum M z3)) (.obl True (.br (BeF.aw M) (.ok ((true,()) = (true,())))
  (.ok ((false,()) = (true,()))))) (.ok ((false,()) = (true,())))) (.ok ((false,()) = (true,()))))) (.ok ((false,()) = (true,())))) (.ok ((false,()) = (true,
  ())))) (.ok ((false,()) = (true,())))))))) (.obl (BeF.bB M z3) (.obl (BeF.bB M z3) (.br z4 (.br z5 (.br z6 (.obl (BxF.bw F z9∧BxF.bw F ([],[],0)) (.br
  (BxF.sameW F z9 ([],[],0)) (.br (L.cmp .eql z12 0) (.obl True (.br (BeF.aw M) (.ok ((true,()) = (true,()))) (.ok ((false,()) = (true,()))))) (.ok
  ((false,()) = (true,())))) (.ok ((false,()) = (true,()))))) (.ok ((false,()) = (true,())))) (.ok ((false,()) = (true,())))) (.ok ((false,()) = (true,
  ())))))))))))) (.obl True (.br (BeF.aw M) (.ok ((true,()) = (true,()))) (.ok ((false,()) = (true,()))))))
theorem nb7_go (L:Lv) (F:BxF) (M:BeF) (b:BlD) (h:VC.holds (nb7 L F M b)):Holds (vcE L F M [] [24,23,25,33,34,26,28,35,22,36] 3 (Db7 a0) LB (b,())):=Holds.of_eq (by kernel_rfl) h
theorem okb7 (F:BxF) (M:BeF) (g:M.aw = true) (h:M.thin = thinB) (h1:M.chk = chkB) (h2:M.prg = prgF) (h3:M.prgE = prgEF) (h4:M.sum = sumF) (h5:M.sumE = sumEF) (h6:F.sameW = fun a b=>decide (a = b)) (q:M.bB = bBF) (q1:M.bT = bTF) (q2:M.pP = bBF) (q3:F.bw = bW)
  (k1:SpecOk prog 24 (Sb24 M)) (k2:SpecOk prog 23 (Sb23 M)) (k3:SpecOk prog 25 (Sb25 M)) (k4:SpecOk prog 33 (Sb33 M)) (k5:SpecOk prog 34 (Sb34 M)) (k6:SpecOk prog 26 (Sb22 M)) (k7:SpecOk prog 28 (Sb28 M)) (k8:SpecOk prog 35 (Sb35 M)) (k9:SpecOk prog 22 (Sb22 M)) (k10:SpecOk prog 36 (S31 F)):SpecOk prog 7 LB:=by
 refine Zc hm hE Db7 fnokb7 _ fun (z:BlD × Unit) hpre=>?_
 obtain ⟨b,⟨⟩⟩:=z
 have hpre:bTF b:=hpre
 refine Yq _ 3 a0 (Zn (T:=tabO [] (eT F M)) (l:=[24,23,25,33,34,26,28,35,22,36]) (Za (Yh k1 (by kernel_rfl)) (Za (Yh k2 (by kernel_rfl)) (Za (Yh k3 (by kernel_rfl)) (Za (Yh k4 (by kernel_rfl)) (Za (Yh k5 (by kernel_rfl)) (Za (Yh k6 (by kernel_rfl)) (Za (Yh k7 (by kernel_rfl)) (Za (Yh k8 (by kernel_rfl)) (Za (Yh k9 (by kernel_rfl)) (Za (Yh k10 (by kernel_rfl)) Z2))))))))))) ?_
 refine nb7_go Lv.std F M b ?_
 simp only [nb7,VC.holds,ZJ,ZO,Zb,Zh,Zp,Yj,Ym,Z6,ZM,Yl,Yk,Yf,ZX,ZY,ZT,ZR,Ye,ZN,ZB,ZD,Zm,Z1,ZS,Z5,ZK,ZW,Yb,ZV,ZP,ZQ,Zo,ZH,Ya,Z3,ZI,Yd,Yc,Z4,Z7,Zg,ZC,ZL,ZU,Z8,Z9,Zd,Ze,Zz,ZA,Zu,Zv,Zw,Zx,Zj,Zk,Zs,Zt,Zi,Zl,Zq,Zr,ZG,ZF,ZZ,Yg,ZE,g,h,h1,h2,h3,h4,h5,h6,q,q1,q2,q3,pe5,Prod.mk.injEq,and_true,true_and]
 refine ⟨hpre,fun ht=>?_,fun _=>by simp⟩
 have hb:=thin_bB ht
 have hw:=prg_bW hb
 by_cases c:chkB b = 0
 ·have t1:prgEF b = (prgF b,0):=by rw [prgEF,if_neg (by simpa using c)]
  have t2:sumEF b = (sumF b,0):=by rw [sumEF,if_neg (by simpa using c)]
  simp [c,hb,hw,t1,t2]
 ·have t1:prgEF b = (([],[],0),chkB b):=by rw [prgEF,if_pos c]
  have t2:sumEF b = (0,chkB b):=by rw [sumEF,if_pos c]
  have hw0:bW ([],[],0):=⟨by decide,by decide,fun _ h=>by cases h⟩
  simp [c,hb,hw0,t1,t2]
end Go.Proofs.Tryz
namespace Go.Proofs.Tryz
open Go Go.VM
noncomputable def MM:BeF where
 bB:=bBF
 bT:=bTF
 bE:=bEF
 bEs:=bEsF
 bI:=fun _=>True
 bLL:=bLLF
 ex:=exF
 en:=enF
 chk:=chkB
 same:=fun a b=>decide (a = b)
 wk:=wkF
 sames:=fun a b=>decide (a = b)
 pWt:=pWtF
 wtr:=wtrF
 pWr:=pWrF
 wrt:=wrtF
 prg:=prgF
 pP:=bBF
 prgE:=prgEF
 sum:=sumF
 sumE:=sumEF
 pV:=pVF
 view:=viewF
 pIt:=pItF
 lst:=lstF
 told:=toldF
 pRun:=fun b l=>bBF b∧l.length≤1000000
 run:=runBF
 ends:=endsBG endsM srtB compBL
 cmpB:=cmpBF
 sortB:=fun l=>List.mergeSort (α:=BeD) l fun x y=>!(Go.Proofs.ltOf cmpBF) y x
 compB:=compBL
 thin:=thinB
 pMax:=pMaxF
 max:=maxF
 cat:=List.flatten
 nums:=numsBF
 pSeen:=fun _ _ _=>True
 seen:=fun _ _ _=>false
 pSnd:=fun _ _=>True
 sound:=fun _ _=>false
 soundE:=fun _ _=>(false,0)
 has:=fun _ _=>false
 pIsL:=fun _ _=>True
 isList:=fun _ _=>false
 pVE:=fun _ _=>True
 viewE:=fun _ _=>((0,[],[]),0)
 pVR:=fun _ _=>True
 viewR:=fun _ _=>(0,[],[])
 wtrE:=fun _ _=>([],0)
 wrtE:=fun _ _=>([],0)
 sameL:=fun _ _=>false
 missed:=fun _=>([],0)
 before:=fun _ _=>false
 aw:=true
 cmpN:=cmpI
 iset:=fun a n=>(1,a,0,0,0,n)
 ilod:=fun a n=>(8,a,0,0,0,n)
 icalc:=fun o a b c=>(o,a,b,c,0,0)
 isto:=fun a n=>(9,a,0,0,0,n)
 iswap:=fun a b c=>(10,5,0,b,c,a)
 bef:=fun i=>2 + 2 * i
 bel:=fun i=>2 + 2 * i + 1
 pBf:=pBfF
 i3:=fun o a b c n=>(o,a,b,c,0,n)
 izero:=fun a n=>(14,a,0,0,0,n)
 iswR:=fun a b c=>(10,5,0,a,b,c)
 ijmp:=fun n=>(13,0,0,0,0,n)
theorem hb24:SpecOk prog 24 (Sb24 MM):=okb24 FF MM rfl rfl
theorem hb16:SpecOk prog 16 (Sb16 MM):=okb16 FF MM rfl
theorem hb80:SpecOk prog 80 (S92 FF):=okb80 FF MM rfl
theorem hb22:SpecOk prog 22 (Sb22 MM):=okb22 FF MM rfl rfl rfl hb80
theorem hb62:SpecOk prog 62 (Sb62 MM):=okb62 FF MM hb22
theorem hb147:SpecOk prog 147 (Sb147 MM):=okb147 FF MM rfl rfl
theorem hb148:XOk prog 148 (Rb148 MM).x:=okb148 FF MM rfl rfl okGrow
theorem hb88:SpecOk prog 88 (Sb88 MM):=okb88 FF MM rfl rfl rfl rfl rfl rfl hb147 hb148
theorem hb34:SpecOk prog 34 (Sb34 MM):=okb34 FF MM rfl rfl rfl hb62 hb88
theorem hb128:SpecOk prog 128 (Sb128 MM):=okb128 FF MM rfl
theorem hb129:SpecOk prog 129 (Sb129 MM):=okb129 FF MM rfl
theorem hb130:SpecOk prog 130 (Sb130 MM):=okb130 FF MM rfl
theorem hb132:SpecOk prog 132 (Sb132 MM):=okb132 FF MM rfl
theorem hb133:SpecOk prog 133 (Sb133 MM):=okb133 FF MM rfl rfl
theorem hb134:SpecOk prog 134 (Sb134 MM):=okb134 FF MM rfl
theorem hb135:SpecOk prog 135 (Sb135 MM):=okb135 FF MM rfl rfl rfl hb133
theorem hb75:SpecOk prog 75 (Sb75 MM):=okb75 FF MM rfl rfl rfl rfl rfl rfl rfl rfl rfl rfl hb128 hb129 hb130 okZero hb132 hb133 hb134 hb135
theorem hb77:SpecOk prog 77 (Sb77 MM):=okb77 FF MM rfl rfl rfl rfl rfl rfl hb128 hb129 hb130 okZero hb134
theorem hb63:SpecOk prog 63 (Sb63 MM):=okb63 FF MM rfl rfl rfl rfl rfl rfl hb75 hb77
theorem hb176:ItOk prog 176 (Ib176 MM):=okb176 FF MM rfl rfl rfl rfl hb133
theorem hb66:SpecOk prog 66 (Sb66 MM):=okb66 FF MM rfl rfl rfl rfl rfl h76 hb176
theorem hb70:SpecOk prog 70 (Sb70 FF MM):=okb70 FF MM rfl rfl
theorem hb17:SpecOk prog 17 (Sb17 MM):=okb17 FF MM rfl rfl rfl rfl rfl rfl rfl rfl rfl rfl rfl rfl hb62 hb63 hb66 h51 hb70
theorem hb123:SpecOk prog 123 (Sb123 MM):=okb123 FF MM rfl
theorem hb105:SpecOk prog 105 (Sb105 MM):=okb105 FF MM rfl rfl rfl rfl rfl rfl rfl rfl h111 hb123 h112 h113
theorem hb104:XOk prog 104 (Rb104 MM).u:=okb104 MM rfl rfl rfl rfl hb105
theorem hb107:SpecOk prog 107 (Sb107 MM):=okb107 FF MM rfl rfl hb105
theorem hb106:XOk prog 106 (Rb106 MM).x:=okb106 FF MM rfl rfl rfl rfl hb107
theorem hb55:SpecOk prog 55 (Sb55 MM):=okb55 FF MM rfl rfl rfl rfl rfl (fun l=>List.mergeSort_perm l _) (fun l=>List.mergeSort_perm l _) rfl rfl rfl rfl rfl hb62 hb63 h19 hb66 hb104 hb105 hb106 hb107
theorem hb72:SpecOk prog 72 (Sb72 MM):=okb72 FF MM rfl rfl
theorem hb18:SpecOk prog 18 (Sb18 MM):=okb18 FF MM rfl rfl rfl rfl rfl hb72 h46
theorem hb19:SpecOk prog 19 (Sb19 MM):=okb19 FF MM rfl
theorem hb59:SpecOk prog 59 (Sb59 MM):=okb59 FF MM rfl rfl rfl rfl hb18
theorem hb23:SpecOk prog 23 (Sb23 MM):=okb23 FF MM rfl rfl rfl rfl rfl rfl rfl run5 sum5 (Eq.trans (congrFun (show MM.ends = endsBG endsM srtB compBL from rfl) _) ends5) (Eq.trans (congrFun (show MM.ends = endsBG endsM srtB compBL from rfl) _) ends8) rfl rfl rfl rfl hb16 hb34 hb17 hb55 hb18 hb19 hb59
theorem hb25:SpecOk prog 25 (Sb25 MM):=okb25 FF MM rfl
theorem hb33:SpecOk prog 33 (Sb33 MM):=okb33 FF MM rfl rfl rfl rfl rfl hb62 hb63
theorem hb83:XOk prog 83 (Rb83 MM).x:=okb83 FF MM rfl rfl
theorem hb26:SpecOk prog 26 (Sb22 MM):=okb26 FF MM rfl rfl rfl rfl rfl hb83 h63 h54
theorem hb89:SpecOk prog 89 (Sb89 MM):=okb89 FF MM rfl
theorem hb90:SpecOk prog 90 (Sb90 MM):=okb90 FF MM rfl rfl hb89
theorem hb91:SpecOk prog 91 (Sb91 MM):=okb91 FF MM rfl
theorem hb92:SpecOk prog 92 (Sb92 MM):=okb92 FF MM rfl rfl hb89
theorem hb38:SpecOk prog 38 (Sb38 MM):=okb38 FF MM rfl rfl rfl rfl rfl rfl hb89 hb90 hb91 hb92
theorem hb39:SpecOk prog 39 (Sb39 MM):=okb39 FF MM rfl rfl rfl rfl rfl rfl hb89 hb90 hb91 hb92
theorem hb28:SpecOk prog 28 (Sb28 MM):=okb28 FF MM rfl rfl rfl rfl rfl rfl hb38 hb39
theorem hb35:SpecOk prog 35 (Sb35 MM):=okb35 FF MM rfl rfl rfl hb83
theorem hb7:SpecOk prog 7 LB:=okb7 FF MM rfl rfl rfl rfl rfl rfl rfl rfl rfl rfl rfl rfl hb24 hb23 hb25 hb33 hb34 hb26 hb28 hb35 hb22 h31
end Go.Proofs.Tryz
