/- What functions of the weak memory compute, proved through the condition generator, and plain facts of it. Conditions: none of ours. -/
import Derived.Calls
import Derived.Orders
import Derived.Below
import Derived.Lib.ItoaNum
import Derived.Laws.Sem
import Derived.Laws.Cells
import Derived.Laws.Entries
import Derived.Laws.StructEq
import Derived.Lib.IfaceEq
import Derived.Lib.IfaceNeq
import Derived.Laws.MakeOwn
import Derived.Laws.AppendOwn
import Derived.Lib.AppendStr
import Derived.Laws.CopyRow
import Derived.Laws.BytesString
import Derived.MapKept
import Derived.OrdersIn
import Derived.RangeFuncCalls
import Derived.RangeFuncLeaves
import Derived.Test.YtljepnnnjfalcaaGreatProg
import Derived.Shelf.SlSortCmp.Insertion
import GoSem.Step
import Derived.Shelf.SlSortCmp.InsertionK
import Derived.Shelf.SlSortCmp.NoneTotal
import Derived.Ground.SlsfProg
import Derived.Shelf.Spec.SlicesGrow
import Derived.Shelf.SlGeneric
import Derived.Ground.Names8Prog
import Derived.WalkKit
import Derived.StillTactics
import Derived.Laws.Pointers
import Derived.Laws.NewBlocks
import Derived.Laws.Rows
import Derived.Handy
import Derived.Lib.SliceRun
import Derived.Sort.LotA
import Derived.Test.YtljepnnnjfalcaaGreatC0
import Derived.Test.YtljepnnnjfalcaaGreatC1
import Derived.Test.YtljepnnnjfalcaaGreatC2
import Derived.Test.YtljepnnnjfalcaaGreatC3
import Derived.Test.YtljepnnnjfalcaaGreatC4
import Derived.Test.YtljepnnnjfalcaaGreatC5
import Derived.Test.YtljepnnnjfalcaaGreatC6
import Derived.Test.YtljepnnnjfalcaaGreatC7
import Derived.Test.YtljepnnnjfalcaaGreatC8
import Derived.Test.YtljepnnnjfalcaaGreatC9
import Derived.Test.YtljepnnnjfalcaaGreatC10
import Derived.Test.YtljepnnnjfalcaaGreatC11
import Derived.Test.YtljepnnnjfalcaaGreatC12
import Derived.Test.YtljepnnnjfalcaaGreatC13
import Derived.Test.YtljepnnnjfalcaaGreatC14
import Derived.Test.YtljepnnnjfalcaaGreatC15
import Derived.Test.YtljepnnnjfalcaaGreatC16
import Derived.Test.YtljepnnnjfalcaaGreatC17
import Derived.Test.YtljepnnnjfalcaaGreatC18
import Derived.Test.YtljepnnnjfalcaaGreatC19
import Derived.Test.YtljepnnnjfalcaaGreatC20
import Derived.Test.YtljepnnnjfalcaaGreatC21
import Derived.Test.YtljepnnnjfalcaaGreatC22
import Derived.Test.YtljepnnnjfalcaaGreatC23
import Derived.Test.YtljepnnnjfalcaaGreatC24
import Derived.Test.YtljepnnnjfalcaaGreatC25
import Derived.Test.YtljepnnnjfalcaaGreatC26
import Derived.Test.YtljepnnnjfalcaaGreatC27
import Derived.Test.YtljepnnnjfalcaaGreatC28
import Derived.Test.YtljepnnnjfalcaaGreatC29
import Derived.Test.YtljepnnnjfalcaaGreatC30
import Derived.Test.YtljepnnnjfalcaaGreatC31
import Derived.Test.YtljepnnnjfalcaaGreatC32
import Derived.Test.YtljepnnnjfalcaaGreatC33
set_option autoImplicit false
set_option maxRecDepth 100000
set_option linter.all false
namespace Go.Proofs.Tryz
open Go Go.VM
theorem at27:prog.funcs[58]? = some f58:=by kernel_rfl
def pl27:Nat→Plan
 | _=>[]
noncomputable def D27 (ann:Nat→LAnn):FnD:=⟨f58.body.getD .skip,f58.ntmps,f58.results.toList,pl27,ann⟩
theorem fnok27 (ann:Nat→LAnn):FnOk prog 58 (D27 ann):=⟨f58,at27,by kernel_rfl,by kernel_rfl,rfl,rfl,by kernel_rfl⟩
theorem at31:prog.funcs[36]? = some f36:=by kernel_rfl
def pl31:Nat→Plan
 | 6=>[(0,[]),(1,[]),(2,[0,1]),(3,[]),(4,[]),(5,[]),(6,[0,1,2,3,4,5]),(7,[0,1,2,3,4,5]),(8,[0,1,2,3,4,5,6,7]),(9,[0,1,2,3,4,5]),(10,[0,1,2,3,4,5]),(11,[0,1,2,3,4,5]),(12,[])]
 | 11=>[(0,[]),(1,[]),(2,[0,1]),(3,[]),(4,[]),(5,[0,1,2,3,4]),(6,[]),(7,[]),(8,[0,1,2,3,4,5,6,7]),(9,[0,1,2,3,4,5,6,7]),(10,[0,1,2,3,4,5,6,7,8,9]),(11,[0,1,2,3,4,5,6,7]),(12,[0,1,2,3,4,5,6,7]),(13,[0,1,2,3,4,5,6,7,8,9,10,11,12]),(14,[0,1,2,3,4,5,6,7]),(15,[0,1,2,3,4,5,6,7]),(16,[])]
 | _=>[]
noncomputable def D31 (ann:Nat→LAnn):FnD:=⟨f36.body.getD .skip,f36.ntmps,f36.results.toList,pl31,ann⟩
theorem fnok31 (ann:Nat→LAnn):FnOk prog 36 (D31 ann):=⟨f36,at31,by kernel_rfl,by kernel_rfl,rfl,rfl,by kernel_rfl⟩
end Go.Proofs.Tryz
namespace Go.Proofs.Tryz
open Go Go.VM
def n27 (L:Lv) (F:BxF) (a b:List Int)  : VC :=
 let z1:=(BxF.sameL F a b,()); .obl (BxF.bl F a∧BxF.bl F b) (.br (L.cmp .eql (BxF.cmpR F a b) 0) (.ok ((true,()) = z1)) (.ok ((false,()) = z1)))
theorem n27_go (L:Lv) (F:BxF) (a b:List Int) (h:VC.holds (n27 L F a b)):Holds (vcC L F [110] (D27 a0) (S27 F) (a,b,())):=Holds.of_eq (by kernel_rfl) h
theorem ok27 (F:BxF) (h:F.sameL = fun a b=>decide (a = b)) (h1:F.cmpR = lexR) (k1:SpecOk prog 110 (S75 F)):SpecOk prog 58 (S27 F):=by
 refine Zc hm hE D27 fnok27 _ fun (z:List Int × List Int × Unit) hpre=>?_
 obtain ⟨a,b,⟨⟩⟩:=z
 have hpre':F.bl a∧F.bl b:=hpre
 refine Yp _ 3 a0 (Zs (T:=cT F) (l:=[110]) (Za (Yh k1 (by kernel_rfl)) Z4)) ?_
 refine n27_go Lv.std F a b ?_
 simp only [n27,VC.holds,ZJ,ZO,Zb,Zh,Zm,Yj,Ym,Z5,ZM,Yl,Yk,Yf,ZX,ZY,ZT,ZR,Ye,ZN,Zz,ZD,Zr,Z1,ZS,Z2,ZK,ZW,Yb,ZV,ZP,ZQ,Zt,ZH,Ya,Z3,ZI,Yd,Yc,Z6,Z7,Zg,ZC,ZL,ZU,Z8,Z9,Zd,Ze,ZA,ZB,Zu,Zv,Zx,Zy,Zk,Zl,Zp,Zq,Zi,Zj,Zn,Zo,ZG,ZF,ZZ,Yg,ZE,h,h1,Prod.mk.injEq,and_true,true_and]
 exact ⟨hpre',fun e=>(decide_eq_true ((lexR_eq _ _).1 e)).symm,fun e=>(decide_eq_false (fun e'=>e ((lexR_eq _ _).2 e'))).symm⟩
end Go.Proofs.Tryz
namespace Go.Proofs.Tryz
open Go Go.VM
def a31 (L:Lv) (I:Ds [It]→Prop) (mu:Ds [It]→Nat) (I2:Int × Unit→Ds [It]→Prop) (m2:Int × Unit→Ds [It]→Nat):Nat→LAnn
 | 0=>anH L [2,3,5] [] [.s 5 It] I mu
 | 2=>anE L [2,3,5,6] [] [.h (.s 5 It)] [.s 6 It] I2 m2
 | _=>.no
def n31 (L:Lv) (F:BxF) (I:Ds [It]→Prop) (mu:Ds [It]→Nat) (I2:Int × Unit→Ds [It]→Prop) (m2:Int × Unit→Ds [It]→Nat) (a b:WkD)  : VC :=
 let z1:=a.2.2;
 let z2:=b.2.2;
 let z3:=(BxF.sameW F a b,());
 let z4:=a.1;
 let z5:=b.1;
 let z6:=a.2.1;
 let z7:=L.llen (Ty.sl In) z6;
 let z8:=L.cast z7;
 let z9:=b.2.1;
 let z10:=L.llen (Ty.sl In) z9; .br (L.cmp .neq z1 z2) (.ok ((false,()) = z3)) (.obl (BxF.bl F z4∧BxF.bl F z5) (.br (BxF.sameL F z4 z5) (.br (L.cmp
  .neq z8 (L.cast z10)) (.ok ((false,()) = z3)) (.obl (St.mk 76 [(2,V.c (C.ptr 1 0)),(3,V.c (C.ptr 2 0)),(5,V.c (C.int .i64 0))] [(0,Ob.amb),(1,Ob.box
  50 [C.sl It z4,C.sl (Ty.sl In) z6,C.int .i64 z1]),(2,Ob.box 50 [C.sl It z5,C.sl (Ty.sl In) z9,C.int .i64 z2])] 3 = St.mk 76 [(2,V.c (C.ptr 1 0)),(3,V.c
  (C.ptr 2 0)),(5,V.c (C.int .i64 0))] [(0,Ob.amb),(1,Ob.box 50 [C.sl It z4,C.sl (Ty.sl In) z6,C.int .i64 z1]),(2,Ob.box 50 [C.sl It z5,C.sl (Ty.sl In) z9,
  C.int .i64 z2])] 3) (.obl (I (0,())) (.all (Int × Unit) fun (v1:Int × Unit) =>
 let z11:=v1.1;
 let z12:=L.inR z11 z7;
 let z13:=L.inR z11 z10;
 let z14:=L.toN z11;
 let z15:=L.get (Ty.sl In) z6 z14;
 let z16:=L.llen In z15;
 let z17:=L.cast z16;
 let z18:=L.get (Ty.sl In) z9 z14;
 let z19:=L.llen In z18;
 let z20:=(Prod.fst v1,());
 let z21:=L.ar .add .i64 z11 1;
 let z22:=(L.ar .add .i64 z11 1,()); .imp (I v1) (.br (L.cmp .lss z11 z8) (.obl z12 (.obl z13 (.br (L.cmp .neq z17 (L.cast z19))
  (.ok ((false,()) = z3)) (.obl (St.mk 76 [(2,V.c (C.ptr 1 0)),(3,V.c (C.ptr 2 0)),(5,V.c (C.int .i64 z11)),(6,V.c (C.int .i64 0))] [(0,Ob.amb),(1,
  Ob.box 50 [C.sl It z4,C.sl (Ty.sl In) z6,C.int .i64 z1]),(2,Ob.box 50 [C.sl It z5,C.sl (Ty.sl In) z9,C.int .i64 z2])] 3 = St.mk 76 [(2,V.c (C.ptr 1 0)),(3,
  V.c (C.ptr 2 0)),(5,V.c (C.int .i64 z11)),(6,V.c (C.int .i64 0))] [(0,Ob.amb),(1,Ob.box 50 [C.sl It z4,C.sl (Ty.sl In) z6,C.int .i64 z1]),(2,
  Ob.box 50 [C.sl It z5,C.sl (Ty.sl In) z9,C.int .i64 z2])] 3) (.obl (I2 z20 (0,())) (.all (Int × Unit) fun (v2:Int × Unit) =>
 let z23:=v2.1;
 let z24:=L.toN z23;
 let z25:=L.get In z15 z24;
 let z26:=L.get In z18 z24;
 let z27:=z25.2;
 let z28:=z26.2;
 let z29:=z27.2;
 let z30:=z28.2;
 let z31:=z29.2;
 let z32:=z30.2;
 let z33:=z31.2;
 let z34:=z32.2;
 let z35:=L.ar .add .i64 z23 1;
 let z36:=(L.ar .add .i64 z23 1,()); .imp (I2 z20 v2) (.obl z12 (.br (L.cmp .lss z23 z17) (.obl z12 (.obl (L.inR z23 z16) (.obl z13 (.obl
  (L.inR z23 z19) (.br (L.bnot (L.band (L.cmp .eql z25.1 z26.1) (L.band (L.cmp .eql z27.1 z28.1) (L.band
  (L.cmp .eql z29.1 z30.1) (L.band (L.cmp .eql z31.1 z32.1) (L.band (L.cmp .eql z33.1 z34.1)
  (L.band (L.cmp .eql z33.2 z34.2) true))))))) (.ok ((false,()) = z3)) (.ok (St.mk 76 [(2,V.c (C.ptr 1 0)),(3,V.c (C.ptr 2 0)),(5,V.c (C.int
  .i64 z11)),(6,V.c (C.int .i64 z35))] [(0,Ob.amb),(1,Ob.box 50 [C.sl It z4,C.sl (Ty.sl In) z6,C.int .i64 z1]),(2,Ob.box 50 [C.sl It z5,C.sl (Ty.sl
  In) z9,C.int .i64 z2])] 3 = St.mk 76 [(2,V.c (C.ptr 1 0)),(3,V.c (C.ptr 2 0)),(5,V.c (C.int .i64 z11)),(6,V.c (C.int .i64 z35))] [(0,Ob.amb),(1,
  Ob.box 50 [C.sl It z4,C.sl (Ty.sl In) z6,C.int .i64 z1]),(2,Ob.box 50 [C.sl It z5,C.sl (Ty.sl In) z9,C.int .i64 z2])] 3∧I2 z20 z36∧m2 z20 z36 < m2 z20
  v2))))))) (.ok (St.mk 76 [(2,V.c (C.ptr 1 0)),(3,V.c (C.ptr 2 0)),(5,V.c (C.int .i64 z21))] [(0,Ob.amb),(1,Ob.box 50 [C.sl It z4,C.sl (Ty.sl In) z6,C.int
  .i64 z1]),(2,Ob.box 50 [C.sl It z5,C.sl (Ty.sl In) z9,C.int .i64 z2])] 3 = St.mk 76 [(2,V.c (C.ptr 1 0)),(3,V.c (C.ptr 2 0)),(5,V.c (C.int .i64
  z21))] [(0,Ob.amb),(1,Ob.box 50 [C.sl It z4,C.sl (Ty.sl In) z6,C.int .i64 z1]),(2,Ob.box 50 [C.sl It z5,C.sl (Ty.sl In) z9,C.int .i64 z2])] 3∧I z22∧mu
  z22 < mu v1)))))))))) (.ok ((true,()) = z3))))))) (.ok ((false,()) = z3))))
theorem n31_go (L:Lv) (F:BxF) (I:Ds [It]→Prop) (mu:Ds [It]→Nat) (I2:Int × Unit→Ds [It]→Prop) (m2:Int × Unit→Ds [It]→Nat) (a b:WkD) (h:VC.holds (n31 L F I mu I2 m2 a b)):Holds (vcC L F [58] (D31 (a31 L I mu I2 m2)) (S31 F) (a,b,())):=Holds.of_eq (by kernel_rfl) h
theorem eqIn (u v:InD):(VM.compare BinOp.eql u.1 v.1 && (VM.compare BinOp.eql u.2.1 v.2.1 && (VM.compare BinOp.eql u.2.2.1 v.2.2.1 && (VM.compare BinOp.eql u.2.2.2.1 v.2.2.2.1 && (VM.compare BinOp.eql u.2.2.2.2.1 v.2.2.2.2.1 && (VM.compare BinOp.eql u.2.2.2.2.2 v.2.2.2.2.2 && true)))))) = decide (u = v):=by
 obtain ⟨u1,u2,u3,u4,u5,u6⟩:=u
 obtain ⟨v1,v2,v3,v4,v5,v6⟩:=v
 show ((u1 == v1) && ((u2 == v2) && ((u3 == v3) && ((u4 == v4) && ((u5 == v5) && ((u6 == v6) && true)))))) = _
 rw [Bool.eq_iff_iff]; simp
theorem ok31 (F:BxF) (h:F.sameW = fun a b=>decide (a = b)) (h1:F.sameL = fun a b=>decide (a = b)) (hp:F.bw = bW) (q:F.bl = bL) (k1:SpecOk prog 58 (S27 F)):SpecOk prog 36 (S31 F):=by
 refine Zc hm hE D31 fnok31 _ fun (z:WkD × WkD × Unit) hpre=>?_
 obtain ⟨a,b,⟨⟩⟩:=z
 have hpre':F.bw a∧F.bw b:=hpre
 rw [hp] at hpre'
 obtain ⟨⟨a1,a2,a3⟩,b1,b2,b3⟩:=hpre'
 let I:Int × Unit→Prop:=Iv a.2.1.length fun k=>(a.2.1.drop k = b.2.1.drop k↔a = b)
 let I2:Int × Unit→Int × Unit→Prop:=fun e=>Iv (listAt (a,false) e.1).length fun k=>((listAt (a,false) e.1).drop k = (listAt (b,false) e.1).drop k↔listAt (a,false) e.1 = listAt (b,false) e.1)
 let m2:Int × Unit→Int × Unit→Nat:=fun e=>Mu (listAt (a,false) e.1).length
 refine Yp _ 3 (a31 Lv.std I (Mu a.2.1.length) I2 m2) (Zs (T:=cT F) (l:=[58]) (Za (Yh k1 (by kernel_rfl)) Z4)) ?_
 refine n31_go Lv.std F I (Mu a.2.1.length) I2 m2 a b ?_
 have e1:∀ k:Int,Lv.std.get (.sl In) a.2.1 k.toNat = listAt (a,false) k:=fun _=>rfl
 have e2:∀ k:Int,Lv.std.get (.sl In) b.2.1 k.toNat = listAt (b,false) k:=fun _=>rfl
 have e3:∀ (l:List InD) (k:Int),Lv.std.get In l k.toNat = insIn l k:=fun _ _=>rfl
 simp only [n31,VC.holds,ZJ,Zt,Zr,ZH,Yf,ZY,ZX,e1,e2,e3,ZI,Zb,Zd,Ze,Zp,Zq,h,h1,q,Prod.mk.injEq,and_true,true_and]
 have fls:a ≠ b→false = decide (a = b):=fun e=>(decide_eq_false e).symm
 refine ⟨fun hn=>fls fun e=>hn (by rw [e]),fun h3=>⟨⟨a1,b1⟩,fun h0=>⟨fun hn=>fls fun e=>hn (by rw [e]),fun hlen=>⟨Iv.zero ⟨fun e=>?_,fun e=>by rw [e]⟩,fun x hx=>?_⟩⟩,fun h0=>fls fun e=>of_decide_eq_false h0 (by rw [e])⟩⟩
 ·exact Prod.ext (of_decide_eq_true h0) (Prod.ext e h3)
 ·obtain ⟨k,rfl,hk,i3⟩:=Iv.elim hx
  refine ⟨fun hlt=>?_,fun hge=>?_⟩
  ·have k1:k < a.2.1.length:=by omega
   have k2:k < b.2.1.length:=by omega
   have ea:listAt (a,false) (k:Int) = a.2.1[k]:=by show (a.2.1[(k:Int).toNat]?).getD [] = _; rw [Int.toNat_natCast,List.getElem?_eq_getElem k1]; rfl
   have eb:listAt (b,false) (k:Int) = b.2.1[k]:=by show (b.2.1[(k:Int).toNat]?).getD [] = _; rw [Int.toNat_natCast,List.getElem?_eq_getElem k2]; rfl
   rw [List.drop_eq_getElem_cons k1,List.drop_eq_getElem_cons k2] at i3
   have nek:a.2.1[k] ≠ b.2.1[k]→false = decide (a = b):=fun e=>fls fun e'=>e (by have:=i3.2 e'; injection this)
   have J:I2 ((k:Int),()) = Iv a.2.1[k].length fun j=>(a.2.1[k].drop j = b.2.1[k].drop j↔a.2.1[k] = b.2.1[k]):=by show Iv (listAt (a,false) (k:Int)).length (fun j=>((listAt (a,false) (k:Int)).drop j = (listAt (b,false) (k:Int)).drop j↔listAt (a,false) (k:Int) = listAt (b,false) (k:Int))) = _; rw [ea,eb]
   have M:m2 ((k:Int),()) = Mu a.2.1[k].length:=by show Mu (listAt (a,false) (k:Int)).length = _; rw [ea]
   have la:=a3 _ (List.getElem_mem k1)
   simp only [ea,eb,J,M]
   refine ⟨⟨by omega,hlt⟩,⟨by omega,by omega⟩,fun hn=>nek fun e=>hn (by rw [e]),fun hl=>⟨Iv.zero Iff.rfl,fun y hy=>?_⟩⟩
   obtain ⟨j,rfl,hj,j3⟩:=Iv.elim hy
   refine ⟨⟨by omega,hlt⟩,fun hlt2=>?_,fun hge2=>?_⟩
   ·have j1:j < a.2.1[k].length:=by omega
    have j2:j < b.2.1[k].length:=by omega
    rw [List.drop_eq_getElem_cons j1,List.drop_eq_getElem_cons j2] at j3
    have ia:insIn a.2.1[k] (j:Int) = a.2.1[k][j]:=by show (a.2.1[k][(j:Int).toNat]?).getD _ = _; rw [Int.toNat_natCast,List.getElem?_eq_getElem j1]; rfl
    have ib:insIn b.2.1[k] (j:Int) = b.2.1[k][j]:=by show (b.2.1[k][(j:Int).toNat]?).getD _ = _; rw [Int.toNat_natCast,List.getElem?_eq_getElem j2]; rfl
    simp only [ia,ib,eqIn,Bool.not_eq_true',Bool.not_eq_false']
    refine ⟨⟨by omega,hlt⟩,⟨by omega,hlt2⟩,⟨by omega,by omega⟩,⟨by omega,by omega⟩,fun he=>nek fun e=>?_,fun he=>?_⟩
    ·have:=j3.2 e; injection this with e1 _; exact of_decide_eq_false he e1
    ·rw [wr hlt2 la]
     refine ⟨Iv.mk (by omega) ?_,Mu.lt j1⟩
     rw [← j3,of_decide_eq_true he]; simp only [List.cons.injEq,true_and]
   ·rw [wr hlt a2]
    have e0:a.2.1[k] = b.2.1[k]:=by rw [← j3,List.drop_eq_nil_of_le (by omega),List.drop_eq_nil_of_le (by omega)]
    refine ⟨Iv.mk (by omega) ?_,Mu.lt k1⟩
    rw [← i3,e0]; simp only [List.cons.injEq,true_and]
  ·have e0:a = b:=i3.1 (by rw [List.drop_eq_nil_of_le (by omega),List.drop_eq_nil_of_le (by omega)])
   exact (decide_eq_true e0).symm
end Go.Proofs.Tryz
namespace Go.Proofs.Tryz
open Go Go.VM
theorem h27:SpecOk prog 58 (S27 FF):=ok27 FF rfl rfl h75
theorem h31:SpecOk prog 36 (S31 FF):=ok31 FF rfl rfl rfl rfl h27
end Go.Proofs.Tryz
namespace Go.Proofs.Tryz
open Go Go.VM
theorem atb8:prog.funcs[8]? = some f8:=by kernel_rfl
theorem atb24:prog.funcs[24]? = some f24:=by kernel_rfl
def plb24:Nat→Plan
 | _=>[]
noncomputable def Db24 (ann:Nat→LAnn):FnD:=⟨f24.body.getD .skip,f24.ntmps,f24.results.toList,plb24,ann⟩
theorem fnokb24 (ann:Nat→LAnn):FnOk prog 24 (Db24 ann):=⟨f24,atb24,by kernel_rfl,by kernel_rfl,rfl,rfl,by kernel_rfl⟩
theorem atb25:prog.funcs[25]? = some f25:=by kernel_rfl
def plb25:Nat→Plan
 | 1=>[(11,[]),(0,[11]),(1,[11]),(2,[11,0,1]),(3,[11,0,1]),(4,[11,0,1,2,3]),(5,[11,0,1,2,3]),(6,[11,0,1,2,3,4,5]),(7,[11,0,1,2,3,4,5,6]),(8,[11,0,1,2,3,4,5,6]),(9,[11,0,1,2,3,4,5]),(10,[11]),(12,[])]
 | 5=>[(0,[]),(1,[]),(2,[0,1]),(3,[0,1,2]),(4,[0,1,2]),(5,[0,1,2,3,4]),(6,[0,1,2]),(7,[0,1,2]),(8,[0,1]),(9,[0,1]),(10,[]),(11,[]),(12,[])]
 | _=>[]
noncomputable def Db25 (ann:Nat→LAnn):FnD:=⟨f25.body.getD .skip,f25.ntmps,f25.results.toList,plb25,ann⟩
theorem fnokb25 (ann:Nat→LAnn):FnOk prog 25 (Db25 ann):=⟨f25,atb25,by kernel_rfl,by kernel_rfl,rfl,rfl,by kernel_rfl⟩
theorem atb26:prog.funcs[26]? = some f26:=by kernel_rfl
def plb26:Nat→Plan
 | 9=>[(0,[]),(1,[0]),(2,[0]),(3,[0]),(4,[]),(5,[0,1,2,3,4]),(6,[0,1,2,3,4]),(7,[]),(8,[])]
 | _=>[]
noncomputable def Db26 (ann:Nat→LAnn):FnD:=⟨f26.body.getD .skip,f26.ntmps,f26.results.toList,plb26,ann⟩
theorem fnokb26 (ann:Nat→LAnn):FnOk prog 26 (Db26 ann):=⟨f26,atb26,by kernel_rfl,by kernel_rfl,rfl,rfl,by kernel_rfl⟩
theorem atb38:prog.funcs[38]? = some f38:=by kernel_rfl
def plb38:Nat→Plan
 | 5=>[(0,[]),(1,[]),(2,[]),(3,[0,1,2]),(4,[0,1,2]),(5,[0,1,2,3,4]),(6,[0,1,2]),(7,[0,1,2]),(8,[]),(9,[]),(10,[]),(11,[0,1,2,3,4,5,6,7,8,9,10]),(12,[]),(13,[]),(14,[0,1,2,3,4,5,6,7,8,9,10,11,12,13]),(15,[0,1,2,3,4,5,6,7,8,9,10,11,12,13]),(16,[0,1,2,3,4,5,6,7,8,9,10,11,12,13]),(17,[]),(18,[]),(19,[]),(20,[]),(21,[])]
 | _=>[]
noncomputable def Db38 (ann:Nat→LAnn):FnD:=⟨f38.body.getD .skip,f38.ntmps,f38.results.toList,plb38,ann⟩
theorem fnokb38 (ann:Nat→LAnn):FnOk prog 38 (Db38 ann):=⟨f38,atb38,by kernel_rfl,by kernel_rfl,rfl,rfl,by kernel_rfl⟩
theorem atb39:prog.funcs[39]? = some f39:=by kernel_rfl
def plb39:Nat→Plan
 | _=>[]
noncomputable def Db39 (ann:Nat→LAnn):FnD:=⟨f39.body.getD .skip,f39.ntmps,f39.results.toList,plb39,ann⟩
theorem fnokb39 (ann:Nat→LAnn):FnOk prog 39 (Db39 ann):=⟨f39,atb39,by kernel_rfl,by kernel_rfl,rfl,rfl,by kernel_rfl⟩
theorem atb40:prog.funcs[40]? = some f40:=by kernel_rfl
def plb40:Nat→Plan
 | _=>[]
noncomputable def Db40 (ann:Nat→LAnn):FnD:=⟨f40.body.getD .skip,f40.ntmps,f40.results.toList,plb40,ann⟩
theorem fnokb40 (ann:Nat→LAnn):FnOk prog 40 (Db40 ann):=⟨f40,atb40,by kernel_rfl,by kernel_rfl,rfl,rfl,by kernel_rfl⟩
theorem atb83:prog.funcs[83]? = some f83:=by kernel_rfl
def plb83:Nat→Plan
 | _=>[]
noncomputable def Db83 (ann:Nat→LAnn):FnD:=⟨f83.body.getD .skip,f83.ntmps,f83.results.toList,plb83,ann⟩
theorem fnokb83 (ann:Nat→LAnn):FnOk prog 83 (Db83 ann):=⟨f83,atb83,by kernel_rfl,by kernel_rfl,rfl,rfl,by kernel_rfl⟩
theorem atb89:prog.funcs[89]? = some f89:=by kernel_rfl
def plb89:Nat→Plan
 | _=>[]
noncomputable def Db89 (ann:Nat→LAnn):FnD:=⟨f89.body.getD .skip,f89.ntmps,f89.results.toList,plb89,ann⟩
theorem fnokb89 (ann:Nat→LAnn):FnOk prog 89 (Db89 ann):=⟨f89,atb89,by kernel_rfl,by kernel_rfl,rfl,rfl,by kernel_rfl⟩
theorem atb90:prog.funcs[90]? = some f90:=by kernel_rfl
def plb90:Nat→Plan
 | _=>[]
noncomputable def Db90 (ann:Nat→LAnn):FnD:=⟨f90.body.getD .skip,f90.ntmps,f90.results.toList,plb90,ann⟩
theorem fnokb90 (ann:Nat→LAnn):FnOk prog 90 (Db90 ann):=⟨f90,atb90,by kernel_rfl,by kernel_rfl,rfl,rfl,by kernel_rfl⟩
theorem atb91:prog.funcs[91]? = some f91:=by kernel_rfl
def plb91:Nat→Plan
 | _=>[]
noncomputable def Db91 (ann:Nat→LAnn):FnD:=⟨f91.body.getD .skip,f91.ntmps,f91.results.toList,plb91,ann⟩
theorem fnokb91 (ann:Nat→LAnn):FnOk prog 91 (Db91 ann):=⟨f91,atb91,by kernel_rfl,by kernel_rfl,rfl,rfl,by kernel_rfl⟩
theorem atb92:prog.funcs[92]? = some f92:=by kernel_rfl
def plb92:Nat→Plan
 | _=>[]
noncomputable def Db92 (ann:Nat→LAnn):FnD:=⟨f92.body.getD .skip,f92.ntmps,f92.results.toList,plb92,ann⟩
theorem fnokb92 (ann:Nat→LAnn):FnOk prog 92 (Db92 ann):=⟨f92,atb92,by kernel_rfl,by kernel_rfl,rfl,rfl,by kernel_rfl⟩
end Go.Proofs.Tryz
namespace Go.Proofs.Tryz
open Go Go.VM
def bIF (l:List InD):Prop:=l.length≤1000000
def numsBF (b:BlD):List Int:=b.2.2.2.2.flatten
def thinB (b:BlD):Bool:=decide ((b.2.2.2.1.length:Int)≤8) && decide ((b.2.2.2.2.length:Int)≤8) && b.2.2.2.2.all fun l=>decide ((l.length:Int)≤8)
theorem all_flat (l:List (List Int)):l.flatten.all isNumF = l.all allN:=by
 induction l with
 | nil=>rfl
 | cons x l ih=>rw [List.flatten_cons,List.all_append,List.all_cons,ih]; rfl
end Go.Proofs.Tryz
namespace Go.Proofs.Tryz
open Go Go.VM
def ab24 (L:Lv) (I:Ds [It]→Prop) (mu:Ds [It]→Nat):Nat→LAnn
 | 0=>anH L [1,3] [] [.s 3 It] I mu
 | _=>.no
def ab83 (L:Lv) (I:List (List Int) × Unit→Ds [.sl It,It]→Prop) (mu:List (List Int) × Unit→Ds [.sl It,It]→Nat):Nat→LAnn
 | 0=>anE L [1,3,4] [] [.h (.b 1 4 (.sl (.sl It)))] [.r 3 It,.s 4 It] I mu
 | _=>.no
def ab25 (L:Lv) (I:Ds [.sl (.sl It),It]→Prop) (mu:Ds [.sl (.sl It),It]→Nat):Nat→LAnn
 | 0=>anH L [1,2,3,4] [(3,some 4,22,.sl It)] [.br 3 4 (.sl It),.s 4 It] I mu
 | _=>.no
def nb24 (L:Lv) (F:BxF) (M:BeF) (I:Ds [It]→Prop) (mu:Ds [It]→Nat) (b:BlD)  : VC :=
 let z1:=b.2.2;
 let z2:=z1.2;
 let z3:=z2.1;
 let z4:=z2.2;
 let z5:=L.llen (Ty.sl It) z4;
 let z6:=L.cast z5;
 let z7:=b.1;
 let z8:=b.2.1;
 let z9:=z1.1; .br (L.cmp .gtr (L.cast (L.llen It z3)) 8) (.ok ((false,()) = (BeF.thin M b,()))) (.br (L.cmp .gtr z6 8) (.ok ((false,()) =
  (BeF.thin M b,()))) (.obl (St.mk 28 [(1,V.c (C.ptr 1 0)),(3,V.c (C.int .i64 0))] [(0,Ob.amb),(1,Ob.box 28 [C.int .i64 z7,C.int .i64 z8,C.sym z9,
  C.sl It z3,C.sl (Ty.sl It) z4])] 2 = St.mk 28 [(1,V.c (C.ptr 1 0)),(3,V.c (C.int .i64 0))] [(0,Ob.amb),(1,Ob.box 28 [C.int .i64 z7,C.int .i64 z8,
  C.sym z9,C.sl It z3,C.sl (Ty.sl It) z4])] 2) (.obl (I (0,())) (.all (Int × Unit) fun (v1:Int × Unit) =>
 let z10:=v1.1;
 let z11:=L.ar .add .i64 z10 1;
 let z12:=(L.ar .add .i64 z10 1,()); .imp (I v1) (.br (L.cmp .lss z10 z6) (.obl (L.inR z10 z5) (.br (L.cmp .gtr (L.cast (L.llen It
  (L.get (Ty.sl It) z4 (L.toN z10)))) 8) (.ok ((false,()) = (BeF.thin M b,()))) (.ok (St.mk 28 [(1,V.c (C.ptr 1 0)),(3,V.c (C.int .i64 z11))] [(0,Ob.amb),
  (1,Ob.box 28 [C.int .i64 z7,C.int .i64 z8,C.sym z9,C.sl It z3,C.sl (Ty.sl It) z4])] 2 = St.mk 28 [(1,V.c (C.ptr 1 0)),(3,V.c (C.int .i64 z11))] [(0,
  Ob.amb),(1,Ob.box 28 [C.int .i64 z7,C.int .i64 z8,C.sym z9,C.sl It z3,C.sl (Ty.sl It) z4])] 2∧I z12∧mu z12 < mu v1)))) (.ok ((true,()) = (BeF.thin M b,
  ()))))))))
theorem nb24_go (L:Lv) (F:BxF) (M:BeF) (I:Ds [It]→Prop) (mu:Ds [It]→Nat) (b:BlD) (h:VC.holds (nb24 L F M I mu b)):Holds (vcE L F M [] [] 3 (Db24 (ab24 L I mu)) (Sb24 M) (b,())):=Holds.of_eq (by kernel_rfl) h
def rb83 (L:Lv) (F:BxF) (M:BeF) (I:List (List Int) × Unit→Ds [.sl It,It]→Prop) (mu:List (List Int) × Unit→Ds [.sl It,It]→Nat) (b:BlD)  : VC :=
 let z1:=b.1;
 let z2:=b.2.1;
 let z3:=b.2.2;
 let z4:=z3.1;
 let z5:=z3.2;
 let z6:=z5.1;
 let z7:=z5.2;
 let z8:=(Prod.snd z5,());
 let z9:=L.llen (Ty.sl It) z7; .obl (St.mk 21 [(1,V.c (C.ptr 1 0)),(3,V.c (C.own 3 0)),(4,V.c (C.int .i64 0))] [(0,Ob.amb),(1,Ob.box 28 [C.int .i64 z1,
  C.int .i64 z2,C.sym z4,C.sl It z6,C.sl (Ty.sl It) z7]),(3,Ob.row 3 It [])] 4 = St.mk 21 [(1,V.c (C.ptr 1 0)),(3,V.c (C.own 3 (L.llen It []))),(4,V.c (C.int
  .i64 0))] [(0,Ob.amb),(1,Ob.box 28 [C.int .i64 z1,C.int .i64 z2,C.sym z4,C.sl It z6,C.sl (Ty.sl It) z7]),(3,Ob.row 3 It [])] 4) (.obl (I z8 ([],
  0,())) (.all (List Int × Int × Unit) fun (v1:List Int × Int × Unit) =>
 let z10:=v1.2.1;
 let z11:=v1.1;
 let z12:=L.take It z11 (L.llen It z11);
 let z13:=L.get (Ty.sl It) z7 (L.toN z10);
 let z14:=L.add (L.llen It z12) (L.llen It z13);
 let z15:=L.ar .add .i64 z10 1;
 let z16:=L.app It z12 z13;
 let z17:=(L.app It z12 z13,L.ar .add .i64 z10 1,()); .imp (I z8 v1) (.br (L.cmp .lss z10 (L.cast z9)) (.obl (L.inR z10 z9) (.obl
  (L.room z14 8) (.ok (St.mk 21 [(1,V.c (C.ptr 1 0)),(3,V.c (C.own 3 z14)),(4,V.c (C.int .i64 z15))] [(0,Ob.amb),(1,Ob.box 28 [C.int .i64 z1,C.int
  .i64 z2,C.sym z4,C.sl It z6,C.sl (Ty.sl It) z7]),(3,Ob.row 3 It z16)] 4 = St.mk 21 [(1,V.c (C.ptr 1 0)),(3,V.c (C.own 3 (L.llen It z16))),(4,V.c (C.int
  .i64 z15))] [(0,Ob.amb),(1,Ob.box 28 [C.int .i64 z1,C.int .i64 z2,C.sym z4,C.sl It z6,C.sl (Ty.sl It) z7]),(3,Ob.row 3 It z16)] 4∧I z8 z17∧mu z8
  z17 < mu z8 v1)))) (.ok (3 = 3∧Prod.fst v1 = BeF.nums M b∧L.llen It z11 = L.llen It z11)))))
theorem rb83_go (L:Lv) (F:BxF) (M:BeF) (I:List (List Int) × Unit→Ds [.sl It,It]→Prop) (mu:List (List Int) × Unit→Ds [.sl It,It]→Nat) (b:BlD) (h:VC.holds (rb83 L F M I mu b)):Holds (vcER L F M [] [] 3 (Db83 (ab83 L I mu)) (Rb83 M) (b,())):=Holds.of_eq (by kernel_rfl) h
def nb25 (L:Lv) (F:BxF) (M:BeF) (I:Ds [.sl (.sl It),It]→Prop) (mu:Ds [.sl (.sl It),It]→Nat) (b:BlD)  : VC :=
 let z1:=b.2;
 let z2:=z1.2;
 let z3:=z2.1;
 let z4:=L.take It [] 0;
 let z5:=L.llen It z4;
 let z6:=z2.2;
 let z7:=z6.1;
 let z8:=L.add z5 (L.llen It z7);
 let z9:=L.room z8 8;
 let z10:=b.1;
 let z11:=z1.1;
 let z12:=z6.2;
 let z13:=L.app It z4 z7;
 let z14:=L.llen (Ty.sl It) [];
 let z15:=List (List Int) × Int × Unit;
 let z16:=L.llen (Ty.sl It) z12;
 let z17:=L.cast z16; .br z3 (.obl z9 (.obl (St.mk 36 [(1,V.c (C.ptr 1 0)),(2,V.c (C.ptr 2 0)),(3,V.c (C.ptr 3 0)),(4,V.c (C.int .i64 0))] [(0,Ob.amb),(1,
  Ob.box 28 [C.int .i64 z10,C.int .i64 z11,C.sym z3,C.sl It z7,C.sl (Ty.sl It) z12]),(2,Ob.box 28 [C.int .i64 0,C.int .i64 0,C.sym false,
  C.nils,C.nils]),(3,Ob.box 28 [C.int .i64 z10,C.int .i64 z11,C.sym true,C.own 5 z8,C.own 7 0]),(5,Ob.row 3 It z13),(7,Ob.row 22 (Ty.sl It) [])] 8 = St.mk
  36 [(1,V.c (C.ptr 1 0)),(2,V.c (C.ptr 2 0)),(3,V.c (C.ptr 3 0)),(4,V.c (C.int .i64 0))] [(0,Ob.amb),(1,Ob.box 28 [C.int .i64 z10,C.int .i64 z11,
  C.sym z3,C.sl It z7,C.sl (Ty.sl It) z12]),(2,Ob.box 28 [C.int .i64 0,C.int .i64 0,C.sym false,C.nils,C.nils]),(3,Ob.box 28 [C.int .i64 z10,C.int
  .i64 z11,C.sym true,C.own 5 z8,C.own 7 z14]),(5,Ob.row 3 It z13),(7,Ob.row 22 (Ty.sl It) [])] 8) (.obl (I ([],0,())) (.all z15 fun (v1:List (List Int) × Int
  × Unit) =>
 let z18:=v1.2.1;
 let z19:=L.get (Ty.sl It) z12 (L.toN z18);
 let z20:=L.add z5 (L.llen It z19);
 let z21:=v1.1;
 let z22:=L.llen (Ty.sl It) z21;
 let z23:=L.take (Ty.sl It) z21 z22;
 let z24:=L.take (Ty.sl It) [L.take It (L.app It z4 z19) z20] 1;
 let z25:=L.add (L.llen (Ty.sl It) z23) (L.llen (Ty.sl It) z24);
 let z26:=L.ar .add .i64 z18 1;
 let z27:=L.app (Ty.sl It) z23 z24;
 let z28:=(L.app (Ty.sl It) z23 z24,L.ar .add .i64 z18 1,()); .imp (I v1) (.br (L.cmp .lss z18 z17) (.obl (L.inR z18 z16) (.obl (L.room
  z20 8) (.obl (L.room z25 24) (.ok (St.mk 36 [(1,V.c (C.ptr 1 0)),(2,V.c (C.ptr 2 0)),(3,V.c (C.ptr 3 0)),(4,V.c (C.int .i64 z26))] [(0,Ob.amb),(1,Ob.box
  28 [C.int .i64 z10,C.int .i64 z11,C.sym z3,C.sl It z7,C.sl (Ty.sl It) z12]),(2,Ob.box 28 [C.int .i64 0,C.int .i64 0,C.sym false,C.nils,
  C.nils]),(3,Ob.box 28 [C.int .i64 z10,C.int .i64 z11,C.sym true,C.own 5 z8,C.own 7 z25]),(5,Ob.row 3 It z13),(7,Ob.row 22 (Ty.sl It) z27)] 8 = St.mk 36
  [(1,V.c (C.ptr 1 0)),(2,V.c (C.ptr 2 0)),(3,V.c (C.ptr 3 0)),(4,V.c (C.int .i64 z26))] [(0,Ob.amb),(1,Ob.box 28 [C.int .i64 z10,C.int .i64 z11,
  C.sym z3,C.sl It z7,C.sl (Ty.sl It) z12]),(2,Ob.box 28 [C.int .i64 0,C.int .i64 0,C.sym false,C.nils,C.nils]),(3,Ob.box 28 [C.int .i64 z10,C.int
  .i64 z11,C.sym true,C.own 5 z8,C.own 7 (L.llen (Ty.sl It) z27)]),(5,Ob.row 3 It z13),(7,Ob.row 22 (Ty.sl It) z27)] 8∧I z28∧mu z28 < mu v1))))) (.ok
  (((Prod.fst b,z1.1,true,L.take It z13 z8,L.take (Ty.sl It) z21 z22),()) = (b,())))))))) (.obl z9 (.obl (St.mk 36 [(1,V.c (C.ptr 1 0)),(2,V.c (C.ptr 2
  0)),(3,V.c (C.ptr 3 0)),(4,V.c (C.int .i64 0))] [(0,Ob.amb),(1,Ob.box 28 [C.int .i64 z10,C.int .i64 z11,C.sym z3,C.sl It z7,C.sl (Ty.sl It) z12]),
  (2,Ob.box 28 [C.int .i64 0,C.int .i64 0,C.sym false,C.nils,C.nils]),(3,Ob.box 28 [C.int .i64 z10,C.int .i64 z11,C.sym false,C.own 5 z8,
  C.own 7 0]),(5,Ob.row 3 It z13),(7,Ob.row 22 (Ty.sl It) [])] 8 = St.mk 36 [(1,V.c (C.ptr 1 0)),(2,V.c (C.ptr 2 0)),(3,V.c (C.ptr 3 0)),(4,V.c (C.int .i64 0))]
  [(0,Ob.amb),(1,Ob.box 28 [C.int .i64 z10,C.int .i64 z11,C.sym z3,C.sl It z7,C.sl (Ty.sl It) z12]),(2,Ob.box 28 [C.int .i64 0,C.int .i64 0,
  C.sym false,C.nils,C.nils]),(3,Ob.box 28 [C.int .i64 z10,C.int .i64 z11,C.sym false,C.own 5 z8,C.own 7 z14]),(5,Ob.row 3 It z13),(7,Ob.row 22 (Ty.sl It)
  [])] 8) (.obl (I ([],0,())) (.all z15 fun (v2:List (List Int) × Int × Unit) =>
 let z29:=v2.2.1;
 let z30:=L.get (Ty.sl It) z12 (L.toN z29);
 let z31:=L.add z5 (L.llen It z30);
 let z32:=v2.1;
 let z33:=L.llen (Ty.sl It) z32;
 let z34:=L.take (Ty.sl It) z32 z33;
 let z35:=L.take (Ty.sl It) [L.take It (L.app It z4 z30) z31] 1;
 let z36:=L.add (L.llen (Ty.sl It) z34) (L.llen (Ty.sl It) z35);
 let z37:=L.ar .add .i64 z29 1;
 let z38:=L.app (Ty.sl It) z34 z35;
 let z39:=(L.app (Ty.sl It) z34 z35,L.ar .add .i64 z29 1,()); .imp (I v2) (.br (L.cmp .lss z29 z17) (.obl (L.inR z29 z16) (.obl (L.room
  z31 8) (.obl (L.room z36 24) (.ok (St.mk 36 [(1,V.c (C.ptr 1 0)),(2,V.c (C.ptr 2 0)),(3,V.c (C.ptr 3 0)),(4,V.c (C.int .i64 z37))] [(0,Ob.amb),(1,Ob.box
  28 [C.int .i64 z10,C.int .i64 z11,C.sym z3,C.sl It z7,C.sl (Ty.sl It) z12]),(2,Ob.box 28 [C.int .i64 0,C.int .i64 0,C.sym false,C.nils,
  C.nils]),(3,Ob.box 28 [C.int .i64 z10,C.int .i64 z11,C.sym false,C.own 5 z8,C.own 7 z36]),(5,Ob.row 3 It z13),(7,Ob.row 22 (Ty.sl It) z38)] 8 = St.mk 36
  [(1,V.c (C.ptr 1 0)),(2,V.c (C.ptr 2 0)),(3,V.c (C.ptr 3 0)),(4,V.c (C.int .i64 z37))] [(0,Ob.amb),(1,Ob.box 28 [C.int .i64 z10,C.int .i64 z11,
  C.sym z3,C.sl It z7,C.sl (Ty.sl It) z12]),(2,Ob.box 28 [C.int .i64 0,C.int .i64 0,C.sym false,C.nils,C.nils]),(3,Ob.box 28 [C.int .i64 z10,C.int
  .i64 z11,C.sym false,C.own 5 z8,C.own 7 (L.llen (Ty.sl It) z38)]),(5,Ob.row 3 It z13),(7,Ob.row 22 (Ty.sl It) z38)] 8∧I z39∧mu z39 < mu v2))))) (.ok
  (((Prod.fst b,z1.1,false,L.take It z13 z8,L.take (Ty.sl It) z32 z33),()) = (b,()))))))))
theorem nb25_go (L:Lv) (F:BxF) (M:BeF) (I:Ds [.sl (.sl It),It]→Prop) (mu:Ds [.sl (.sl It),It]→Nat) (b:BlD) (h:VC.holds (nb25 L F M I mu b)):Holds (vcE L F M [] [] 3 (Db25 (ab25 L I mu)) (Sb25 M) (b,())):=Holds.of_eq (by kernel_rfl) h
theorem okb83 (F:BxF) (M:BeF) (h:M.nums = numsBF) (q:M.bB = bBF):XOk prog 83 (Rb83 M).x:=by
 let I:List (List Int) × Unit→List Int × Int × Unit→Prop:=fun e x=>(0≤x.2.1∧x.2.1≤e.1.length)∧x.1 = (e.1.take x.2.1.toNat).flatten
 let mu:List (List Int) × Unit→List Int × Int × Unit→Nat:=fun e x=>(e.1.length - x.2.1).toNat
 refine rowX_ok hm hE 3 (fns:=only (tabO [] (eT F M)) []) (Zs Z4) (fnokb83 (ab83 Lv.std I mu)) (Rb83 M) fun (z:BlD × Unit) hpre=>?_
 obtain ⟨b,⟨⟩⟩:=z
 have hpre':M.bB b:=hpre
 rw [q] at hpre'
 obtain ⟨g1,g2,g3⟩:=hpre'
 refine rb83_go Lv.std F M I mu b ?_
 simp only [rb83,VC.holds,ZJ,ZO,Zb,Zh,Zm,Yj,Ym,Z5,ZM,Yl,Yk,Yf,ZX,ZY,ZT,ZR,Ye,ZN,Zz,ZD,Zr,Z1,ZS,Z2,ZK,ZW,Yb,ZV,ZP,ZQ,Zt,ZH,Ya,Z3,ZI,Yd,Yc,Z6,Z7,Zg,ZC,ZL,ZU,Z8,Z9,Zd,Ze,ZA,ZB,Zu,Zv,Zx,Zy,Zk,Zl,Zp,Zq,Zi,Zj,Zn,Zo,ZG,ZF,ZZ,Yg,ZE,h,List.take_length,List.take_nil,List.length_nil,Prod.mk.injEq,and_true,true_and]
 refine ⟨⟨⟨Int.le_refl 0,by show (0:Int)≤b.2.2.2.2.length; omega⟩,rfl⟩,?_⟩
 rintro ⟨r,x,⟨⟩⟩ ⟨⟨j1,j2⟩,j3⟩
 simp only at j1 j2 j3 ⊢
 obtain ⟨j,rfl⟩:=Yq j1
 rw [Int.toNat_natCast] at j3 ⊢
 refine ⟨fun hlt=>?_,fun hge=>?_⟩
 ·have hj:j < b.2.2.2.2.length:=by omega
  rw [wr hlt (by omega)]
  have f1:r.length≤(b.2.2.2.2.take j).length * 1000:=by rw [j3]; exact flat_len _ _ fun y hy=>g3 y (List.mem_of_mem_take hy)
  have f2:(b.2.2.2.2.take j).length≤1000:=by rw [List.length_take]; omega
  have f3:(b.2.2.2.2.take j).length * 1000≤1000 * 1000:=Nat.mul_le_mul_right _ f2
  have b1:((b.2.2.2.2[j]?).getD []).length≤1000:=by rw [List.getElem?_eq_getElem hj]; exact g3 _ (List.getElem_mem hj)
  refine ⟨⟨by omega,hlt⟩,⟨by omega,by omega⟩,by rw [List.length_append],⟨⟨by show (0:Int)≤((j + 1:Nat):Int); omega,by show ((j + 1:Nat):Int)≤b.2.2.2.2.length; omega⟩,?_⟩,by show ((b.2.2.2.2.length:Int) - ((j + 1:Nat):Int)).toNat < ((b.2.2.2.2.length:Int) - j).toNat; omega⟩
  show r ++ (b.2.2.2.2[j]?).getD [] = (b.2.2.2.2.take ((j + 1:Nat):Int).toNat).flatten
  rw [Int.toNat_natCast,flat_take _ j hj,j3]
 ·rw [j3,List.take_of_length_le (by omega)]; rfl
theorem okb24 (F:BxF) (M:BeF) (h:M.thin = thinB) (q:M.bT = bTF):SpecOk prog 24 (Sb24 M):=by
 refine Zc hm hE Db24 fnokb24 _ fun (z:BlD × Unit) hpre=>?_
 obtain ⟨b,⟨⟩⟩:=z
 have hpre':M.bT b:=hpre
 rw [q] at hpre'
 obtain ⟨g1,g2,g3⟩:=hpre'
 let I:Int × Unit→Prop:=Iv b.2.2.2.2.length fun k=>(b.2.2.2.2.drop k).all (fun l=>decide ((l.length:Int)≤8)) = b.2.2.2.2.all fun l=>decide ((l.length:Int)≤8)
 refine Yp _ 3 (ab24 Lv.std I (Mu b.2.2.2.2.length)) (Zs (T:=tabO [] (eT F M)) (l:=[]) Z4) ?_
 refine nb24_go Lv.std F M I (Mu b.2.2.2.2.length) b ?_
 have e2:∀ (l:List (List Int)) (k:Int),Lv.std.get (.sl It) l k.toNat = (l[k.toNat]?).getD []:=fun _ _=>rfl
 simp only [nb24,VC.holds,ZJ,Zt,Zr,ZH,e2,ZI,Zb,Zd,Ze,Zu,Zv,h,and_true,true_and]
 have et:thinB b = true↔(b.2.2.2.1.length:Int)≤8∧(b.2.2.2.2.length:Int)≤8∧(b.2.2.2.2.all fun l=>decide ((l.length:Int)≤8)) = true:=by
  unfold thinB; simp only [Bool.and_eq_true,decide_eq_true_eq,and_assoc]
 have fls:¬ (thinB b = true)→(false,()) = (thinB b,()):=fun h=>by rw [Bool.not_eq_true] at h; rw [h]
 refine ⟨fun c=>fls fun e=>by have:=(et.1 e).1; omega,fun c1=>⟨fun c=>fls fun e=>by have:=(et.1 e).2.1; omega,fun c2=>⟨Iv.zero rfl,fun x hx=>?_⟩⟩⟩
 obtain ⟨k,rfl,hk,i3⟩:=Iv.elim hx
 simp only [Int.toNat_natCast]
 refine ⟨fun hlt=>⟨⟨by omega,hlt⟩,fun hl=>fls fun e=>?_,fun hl=>?_⟩,fun hge=>?_⟩
 ·rw [(et.1 e).2.2,YF _ _ k [] (by omega),Bool.and_eq_true,decide_eq_true_eq] at i3
  have:=i3.1; omega
 ·rw [wr hlt (by omega)]
  rw [YF _ _ k [] (by omega),decide_eq_true hl,Bool.true_and] at i3
  exact ⟨Iv.mk (by omega) i3,Mu.lt (by omega)⟩
 ·rw [show k = b.2.2.2.2.length by omega,List.drop_length] at i3
  rw [et.2 ⟨c1,c2,i3.symm⟩]
theorem okb25 (F:BxF) (M:BeF) (q:M.bB = bBF):SpecOk prog 25 (Sb25 M):=by
 refine Zc hm hE Db25 fnokb25 _ fun (z:BlD × Unit) hpre=>?_
 obtain ⟨e,⟨⟩⟩:=z
 have hpre':M.bB e:=hpre
 rw [q] at hpre'
 obtain ⟨g1,g2,g3⟩:=hpre'
 let I:List (List Int) × Int × Unit→Prop:=fun x=>(0≤x.2.1∧x.2.1≤e.2.2.2.2.length)∧x.1 = e.2.2.2.2.take x.2.1.toNat
 let mu:List (List Int) × Int × Unit→Nat:=fun x=>(e.2.2.2.2.length - x.2.1).toNat
 refine Yp _ 3 (ab25 Lv.std I mu) (Zs (T:=tabO [] (eT F M)) (l:=[]) Z4) ?_
 refine nb25_go Lv.std F M I mu e ?_
 simp only [nb25,VC.holds,ZJ,ZO,Zb,Zh,Zm,Yj,Ym,Z5,ZM,Yl,Yk,Yf,ZX,ZY,ZT,ZR,Ye,ZN,Zz,ZD,Zr,Z1,ZS,Z2,ZK,ZW,Yb,ZV,ZP,ZQ,Zt,ZH,Ya,Z3,ZI,Yd,Yc,Z6,Z7,Zg,ZC,ZL,ZU,Z8,Z9,Zd,Ze,ZA,ZB,Zu,Zv,Zx,Zy,Zk,Zl,Zp,Zq,Zi,Zj,Zn,Zo,ZG,ZF,ZZ,Yg,ZE,List.take_length,List.take_succ_cons,List.take_zero,List.take_nil,List.nil_append,List.length_append,List.length_cons,List.length_nil,Nat.zero_add,pe5,Prod.mk.injEq,and_true,true_and]
 refine ⟨fun c=>⟨⟨by omega,by omega⟩,⟨⟨Int.le_refl 0,by show (0:Int)≤e.2.2.2.2.length; omega⟩,rfl⟩,?_⟩,fun c=>⟨⟨by omega,by omega⟩,⟨⟨Int.le_refl 0,by show (0:Int)≤e.2.2.2.2.length; omega⟩,rfl⟩,?_⟩⟩
 all_goals
  rintro ⟨l,x,⟨⟩⟩ ⟨⟨i1,i2⟩,i3⟩
  simp only at i1 i2 i3 ⊢
  obtain ⟨k,rfl⟩:=Yq i1
  rw [Int.toNat_natCast] at i3
  have hl:l.length = k:=by rw [i3,List.length_take]; omega
  rw [hl,Int.toNat_natCast]
  refine ⟨fun hlt=>?_,fun hge=>?_⟩
  ·have hk:k < e.2.2.2.2.length:=by omega
   rw [wr hlt (by omega),List.getElem?_eq_getElem hk,Option.getD_some]
   have b1:=g3 _ (List.getElem_mem hk)
   refine ⟨⟨i1,hlt⟩,⟨by omega,by omega⟩,⟨by omega,by omega⟩,⟨⟨by show (0:Int)≤((k + 1:Nat):Int); omega,by show ((k + 1:Nat):Int)≤_; omega⟩,?_⟩,by show ((e.2.2.2.2.length:Int) - ((k + 1:Nat):Int)).toNat < ((e.2.2.2.2.length:Int) - k).toNat; omega⟩
   show l ++ [e.2.2.2.2[k]] = e.2.2.2.2.take ((k + 1:Nat):Int).toNat
   rw [Int.toNat_natCast,List.take_succ,List.getElem?_eq_getElem hk,i3]; rfl
  ·rw [i3,List.take_of_length_le (by omega)]; rw [← c]
end Go.Proofs.Tryz
namespace Go.Proofs.Tryz
open Go Go.VM
def ab26 (L:Lv) (I:Ds [It]→Prop) (mu:Ds [It]→Nat) (I2:Ds [It]→Prop) (m2:Ds [It]→Nat):Nat→LAnn
 | 0=>anH L [1,3] [] [.s 3 It] I mu
 | 2=>anH L [1,4,5] [] [.s 5 It] I2 m2
 | _=>.no
def nb26 (L:Lv) (F:BxF) (M:BeF) (I:Ds [It]→Prop) (mu:Ds [It]→Nat) (I2:Ds [It]→Prop) (m2:Ds [It]→Nat) (b:BlD)  : VC :=
 let z1:=b.2;
 let z2:=z1.2;
 let z3:=z2.2;
 let z4:=z3.1;
 let z5:=L.llen It z4;
 let z6:=L.cast z5;
 let z7:=z3.2;
 let z8:=L.llen (Ty.sl It) z7;
 let z9:=L.cast z8;
 let z10:=L.ar .add .i64 z6 z9;
 let z11:=b.1;
 let z12:=z1.1;
 let z13:=z2.1;
 let z14:=(Prod.fst b,z1.1,z2.1,z3.1,z3.2);
 let z15:=L.take It (BeF.nums M z14) (L.llen It (BeF.nums M z14));
 let z16:=L.take It [Prod.fst b] 1;
 let z17:=L.add (L.llen It z15) (L.llen It z16);
 let z18:=L.take It (L.app It z15 z16) z17;
 let z19:=L.add (L.llen It z18) z5;
 let z20:=L.app It z18 z4; .br (L.cmp .gtr z6 4) (.ok ((5,()) = (BeF.chk M b,()))) (.br (L.cmp .gtr z9 4) (.ok ((5,()) = (BeF.chk M b,()))) (.br
  (L.cmp .gtr z10 4) (.ok ((5,()) = (BeF.chk M b,()))) (.obl (St.mk 74 [(1,V.c (C.ptr 1 0)),(3,V.c (C.int .i64 0))] [(0,Ob.amb),(1,Ob.box 28 [C.int
  .i64 z11,C.int .i64 z12,C.sym z13,C.sl It z4,C.sl (Ty.sl It) z7])] 2 = St.mk 74 [(1,V.c (C.ptr 1 0)),(3,V.c (C.int .i64 0))] [(0,Ob.amb),(1,Ob.box
  28 [C.int .i64 z11,C.int .i64 z12,C.sym z13,C.sl It z4,C.sl (Ty.sl It) z7])] 2) (.obl (I (0,())) (.all (Int × Unit) fun (v1:Int × Unit) =>
 let z21:=v1.1;
 let z22:=L.ar .add .i64 z21 1;
 let z23:=(L.ar .add .i64 z21 1,()); .imp (I v1) (.br (L.cmp .lss z21 z9) (.obl (L.inR z21 z8) (.br (L.cmp .gtr (L.cast (L.llen It
  (L.get (Ty.sl It) z7 (L.toN z21)))) 4) (.ok ((5,()) = (BeF.chk M b,()))) (.ok (St.mk 74 [(1,V.c (C.ptr 1 0)),(3,V.c (C.int .i64 z22))] [(0,Ob.amb),(1,
  Ob.box 28 [C.int .i64 z11,C.int .i64 z12,C.sym z13,C.sl It z4,C.sl (Ty.sl It) z7])] 2 = St.mk 74 [(1,V.c (C.ptr 1 0)),(3,V.c (C.int .i64 z22))] [(0,
  Ob.amb),(1,Ob.box 28 [C.int .i64 z11,C.int .i64 z12,C.sym z13,C.sl It z4,C.sl (Ty.sl It) z7])] 2∧I z23∧mu z23 < mu v1)))) (.obl (BeF.bB M z14) (.obl
  (L.room z17 8) (.obl (L.room z19 8) (.obl (St.mk 74 [(1,V.c (C.ptr 1 0)),(4,V.c (C.own 5 z19)),(5,V.c (C.int .i64 0))] [(0,Ob.amb),(1,Ob.box 28 [C.int
  .i64 z11,C.int .i64 z12,C.sym z13,C.sl It z4,C.sl (Ty.sl It) z7]),(3,Ob.row 3 It [Prod.fst b]),(5,Ob.row 3 It z20)] 6 = St.mk 74 [(1,V.c (C.ptr 1 0)),(4,
  V.c (C.own 5 z19)),(5,V.c (C.int .i64 0))] [(0,Ob.amb),(1,Ob.box 28 [C.int .i64 z11,C.int .i64 z12,C.sym z13,C.sl It z4,C.sl (Ty.sl It) z7]),(3,
  Ob.row 3 It [Prod.fst b]),(5,Ob.row 3 It z20)] 6) (.obl (I2 (0,())) (.all (Int × Unit) fun (v2:Int × Unit) =>
 let z24:=v2.1;
 let z25:=L.toN z24;
 let z26:=L.ar .add .i64 z24 1;
 let z27:=(L.ar .add .i64 z24 1,()); .imp (I2 v2) (.br (L.cmp .lss z24 (L.cast z19)) (.obl (L.inR z24 z19) (.obl (L.ltN z25 (L.llen It
  z20)) (.obl True (.br (BxF.isNum F (L.get It z20 z25)) (.ok (St.mk 74 [(1,V.c (C.ptr 1 0)),(4,V.c (C.own 5 z19)),(5,V.c (C.int .i64 z26))] [(0,Ob.amb),(1,
  Ob.box 28 [C.int .i64 z11,C.int .i64 z12,C.sym z13,C.sl It z4,C.sl (Ty.sl It) z7]),(3,Ob.row 3 It [Prod.fst b]),(5,Ob.row 3 It z20)] 6 = St.mk 74 [(1,V.c
  (C.ptr 1 0)),(4,V.c (C.own 5 z19)),(5,V.c (C.int .i64 z26))] [(0,Ob.amb),(1,Ob.box 28 [C.int .i64 z11,C.int .i64 z12,C.sym z13,C.sl It z4,C.sl
  (Ty.sl It) z7]),(3,Ob.row 3 It [Prod.fst b]),(5,Ob.row 3 It z20)] 6∧I2 z27∧m2 z27 < m2 v2)) (.ok ((3,()) = (BeF.chk M b,()))))))) (.obl True (.br (BxF.within F
  z12 1 8) (.br (L.cmp .eql z10 0) (.ok ((4,()) = (BeF.chk M b,()))) (.ok ((0,()) = (BeF.chk M b,())))) (.ok ((3,()) = (BeF.chk M b,()))))))))))))))))))
theorem nb26_go (L:Lv) (F:BxF) (M:BeF) (I:Ds [It]→Prop) (mu:Ds [It]→Nat) (I2:Ds [It]→Prop) (m2:Ds [It]→Nat) (b:BlD) (h:VC.holds (nb26 L F M I mu I2 m2 b)):Holds (vcE L F M [(84,.spec (S92 F)),(37,.spec (S86 F))] [83,84,37] 3 (Db26 (ab26 L I mu I2 m2)) (Sb22 M) (b,())):=Holds.of_eq (by kernel_rfl) h
theorem okb26 (F:BxF) (M:BeF) (h:M.chk = chkB) (h0:M.nums = numsBF) (q:M.bB = bBF) (h1:F.isNum = isNumF) (h2:F.within = withinF) (k1:XOk prog 83 (Rb83 M).x) (k2:SpecOk prog 84 (S92 F)) (k3:SpecOk prog 37 (S86 F)):SpecOk prog 26 (Sb22 M):=by
 refine Zc hm hE Db26 fnokb26 _ fun (z:BlD × Unit) hpre=>?_
 obtain ⟨b,⟨⟩⟩:=z
 have hpre':M.bB b:=hpre
 rw [q] at hpre'
 have hf:=bB_flat hpre'
 obtain ⟨g1,g2,g3⟩:=hpre'
 let al:List Int:=(b.2.2.2.2.flatten ++ [b.1]) ++ b.2.2.2.1
 let I:Int × Unit→Prop:=Iv b.2.2.2.2.length fun k=>(b.2.2.2.2.drop k).all le4 = b.2.2.2.2.all le4
 let I2:Int × Unit→Prop:=Iv al.length fun k=>(al.drop k).all isNumF = al.all isNumF
 refine Yp _ 3 (ab26 Lv.std I (Mu b.2.2.2.2.length) I2 (Mu al.length)) (Zs (T:=tabO [(84,.spec (S92 F)),(37,.spec (S86 F))] (eT F M)) (l:=[83,84,37]) (Za (XB k1 (by kernel_rfl)) (Za (Yh k2 (by kernel_rfl)) (Za (Yh k3 (by kernel_rfl)) Z4)))) ?_
 refine nb26_go Lv.std F M I (Mu b.2.2.2.2.length) I2 (Mu al.length) b ?_
 have eI:∀ (l:List (List Int)) (k:Int),Lv.std.get (.sl It) l k.toNat = (l[k.toNat]?).getD []:=fun _ _=>rfl
 have eJ:∀ (l:List Int) (k:Int),Lv.std.get It l k.toNat = (l[k.toNat]?).getD 0:=fun _ _=>rfl
 have ap:∀ (u v:List Int),Lv.std.app It u v = u ++ v:=fun _ _=>rfl
 have tk:∀ (u:List Int) (n:Nat),Lv.std.take It u n = u.take n:=fun _ _=>rfl
 simp only [nb26,VC.holds,ZJ,Zt,Zr,ZH,eI,eJ,ap,tk,Z3,ZL,Z6,ZI,Zb,Zd,Ze,ZA,ZB,Zu,Zv,Zx,Zy,Zk,Zl,h,h0,h1,h2,q,pe5,numsBF,List.take_length,List.take_succ_cons,List.take_zero,Prod.mk.injEq,and_true,true_and]
 have wl:IntKind.i64.wrap ((b.2.2.2.1.length:Int) + b.2.2.2.2.length) = (b.2.2.2.1.length:Int) + b.2.2.2.2.length:=Yn (by omega) (by omega)
 have tk2:List.take (b.2.2.2.2.flatten.length + [b.1].length) (b.2.2.2.2.flatten ++ [b.1]) = b.2.2.2.2.flatten ++ [b.1]:=List.take_of_length_le (by rw [List.length_append]; exact Nat.le_refl _)
 have l1:(b.2.2.2.2.flatten ++ [b.1]).length = b.2.2.2.2.flatten.length + 1:=by rw [List.length_append]; rfl
 have la:al.length = b.2.2.2.2.flatten.length + 1 + b.2.2.2.1.length:=by show ((b.2.2.2.2.flatten ++ [b.1]) ++ b.2.2.2.1).length = _; rw [List.length_append,l1]
 have aa:al.all isNumF = ((b.2.2.2.2.all allN && isNumF b.1) && b.2.2.2.1.all isNumF):=by show ((b.2.2.2.2.flatten ++ [b.1]) ++ b.2.2.2.1).all isNumF = _; rw [List.all_append,List.all_append,all_flat]; simp
 rw [wl,tk2,l1]
 refine ⟨fun c=>(cb5a (by omega)).symm,fun c1=>⟨fun c=>(cb5a (by omega)).symm,fun c2=>⟨fun c=>(cb5a c).symm,fun c3=>⟨Iv.zero rfl,fun x hx=>?_⟩⟩⟩⟩
 have n1:¬ 4 < (b.2.2.2.1.length:Int) + b.2.2.2.2.length:=by omega
 obtain ⟨k,rfl,hk,i3⟩:=Iv.elim hx
 simp only [Int.toNat_natCast] at i3 ⊢
 refine ⟨fun hlt=>⟨⟨by omega,hlt⟩,fun hl=>?_,fun hl=>?_⟩,fun hge=>?_⟩
 ·rw [YF le4 _ k [] (by omega),show le4 ((b.2.2.2.2[k]?).getD []) = false from decide_eq_false (by omega),Bool.false_and] at i3
  exact (cb5b n1 i3.symm).symm
 ·rw [YF le4 _ k [] (by omega),show le4 ((b.2.2.2.2[k]?).getD []) = true from decide_eq_true hl,Bool.true_and] at i3
  rw [wr hlt (by omega)]
  exact ⟨Iv.mk (by omega) i3,Mu.lt (by omega)⟩
 rw [show k = b.2.2.2.2.length by omega,List.drop_length] at i3
 have n2:b.2.2.2.2.all le4 = true:=i3.symm
 clear i3 hx
 have n5:al.all isNumF = false→chkB b = 3:=fun hf=>by
  by_cases c:b.2.1 < 1∨8 < b.2.1∨isNumF b.1 = false∨b.2.2.2.1.all isNumF = false
  ·exact cb3a n1 n2 c
  ·refine cb3b n1 n2 c ?_
   rw [aa] at hf
   have c1:isNumF b.1 = true:=by cases h:isNumF b.1 with | true=>rfl | false=>exact absurd (.inr (.inr (.inl h))) c
   have c2:b.2.2.2.1.all isNumF = true:=by cases h:b.2.2.2.1.all isNumF with | true=>rfl | false=>exact absurd (.inr (.inr (.inr h))) c
   rw [c1,c2,Bool.and_true,Bool.and_true] at hf
   exact hf
 refine ⟨⟨g1,g2,g3⟩,⟨by show b.2.2.2.2.flatten.length + 1≤_; omega,by show (b.2.2.2.2.flatten.length + 1) * 8≤_; omega⟩,⟨by omega,by omega⟩,Iv.zero rfl,fun x hx=>?_⟩
 obtain ⟨j,rfl,hj,j3⟩:=Iv.elim hx
 simp only [Int.toNat_natCast] at j3 ⊢
 refine ⟨fun hlt=>⟨⟨by omega,hlt⟩,by show j < al.length; omega,fun hl=>?_,fun hl=>?_⟩,fun hge=>?_⟩
 ·rw [YF isNumF _ j 0 (by omega),show isNumF ((al[j]?).getD 0) = true from hl,Bool.true_and] at j3
  rw [Yn (by omega) (by omega),show (j:Int) + 1 = ((j + 1:Nat):Int) by omega]
  exact ⟨Iv.mk (by omega) j3,Mu.lt (by omega)⟩
 ·rw [YF isNumF _ j 0 (by omega),show isNumF ((al[j]?).getD 0) = false from hl,Bool.false_and] at j3
  exact (n5 j3.symm).symm
 rw [show j = al.length by omega,List.drop_length] at j3
 have n6:al.all isNumF = true:=j3.symm
 rw [aa,Bool.and_eq_true,Bool.and_eq_true] at n6
 obtain ⟨⟨n7,n8⟩,n9⟩:=n6
 refine ⟨fun hw=>?_,fun hw=>?_⟩
 ·unfold withinF at hw
  simp only [Bool.and_eq_true,decide_eq_true_eq] at hw
  have n4:¬ (b.2.1 < 1∨8 < b.2.1∨isNumF b.1 = false∨b.2.2.2.1.all isNumF = false):=by rw [n8,n9]; simp; omega
  exact ⟨fun hz=>(cb4 n1 n2 n4 n7 hz).symm,fun hz=>(cb0 n1 n2 n4 n7 hz).symm⟩
 ·refine (cb3a n1 n2 ?_).symm
  unfold withinF at hw
  simp only [Bool.and_eq_false_iff,decide_eq_false_iff_not] at hw
  omega
end Go.Proofs.Tryz
namespace Go.Proofs.Tryz
open Go Go.VM
def ab39 (L:Lv) (I:Ds [.sl In,It]→Prop) (mu:Ds [.sl In,It]→Nat):Nat→LAnn
 | 0=>anH L [1,2,5,6] [] [.r 5 In,.s 6 It] I mu
 | _=>.no
def nb89 (L:Lv) (F:BxF) (M:BeF) (o a b c n:Int)  : VC :=
 .ok (((o,a,b,c,0,n),()) = (BeF.i3 M o a b c n,()))
theorem nb89_go (L:Lv) (F:BxF) (M:BeF) (o a b c n:Int) (h:VC.holds (nb89 L F M o a b c n)):Holds (vcE L F M [] [] 3 (Db89 a0) (Sb89 M) (o,a,b,c,n,())):=Holds.of_eq (by kernel_rfl) h
def nb90 (L:Lv) (F:BxF) (M:BeF) (a b:Int)  : VC :=
 let z1:=Prod.snd (BeF.i3 M 14 a 0 0 b);
 let z2:=z1.2;
 let z3:=z2.2;
 let z4:=z3.2; .obl True (.ok (((Prod.fst (BeF.i3 M 14 a 0 0 b),z1.1,z2.1,z3.1,z4.1,z4.2),()) = (BeF.izero M a b,())))
theorem nb90_go (L:Lv) (F:BxF) (M:BeF) (a b:Int) (h:VC.holds (nb90 L F M a b)):Holds (vcE L F M [] [89] 3 (Db90 a0) (Sb90 M) (a,b,())):=Holds.of_eq (by kernel_rfl) h
def nb91 (L:Lv) (F:BxF) (M:BeF) (a b c:Int)  : VC :=
 .ok (((10,5,0,a,b,c),()) = (BeF.iswR M a b c,()))
theorem nb91_go (L:Lv) (F:BxF) (M:BeF) (a b c:Int) (h:VC.holds (nb91 L F M a b c)):Holds (vcE L F M [] [] 3 (Db91 a0) (Sb91 M) (a,b,c,())):=Holds.of_eq (by kernel_rfl) h
def nb92 (L:Lv) (F:BxF) (M:BeF) (a:Int)  : VC :=
 let z1:=Prod.snd (BeF.i3 M 13 0 0 0 a);
 let z2:=z1.2;
 let z3:=z2.2;
 let z4:=z3.2; .obl True (.ok (((Prod.fst (BeF.i3 M 13 0 0 0 a),z1.1,z2.1,z3.1,z4.1,z4.2),()) = (BeF.ijmp M a,())))
theorem nb92_go (L:Lv) (F:BxF) (M:BeF) (a:Int) (h:VC.holds (nb92 L F M a)):Holds (vcE L F M [] [89] 3 (Db92 a0) (Sb92 M) (a,())):=Holds.of_eq (by kernel_rfl) h
def nb38 (L:Lv) (F:BxF) (M:BeF) (b:BlD) (i:Int)  : VC :=
 let z1:=b.2.2;
 let z2:=z1.1;
 let z3:=z1.2.1;
 let z4:=L.inR i (L.llen It z3);
 let z5:=L.ar .add .i64 i 1;
 let z6:=Prod.snd (BeF.i3 M 1 8 0 0 z5);
 let z7:=z6.2;
 let z8:=z7.2;
 let z9:=z8.2;
 let z10:=(Prod.fst (BeF.i3 M 1 8 0 0 z5),z6.1,z7.1,z8.1,z9.1,z9.2);
 let z11:=L.get It z3 (L.toN i);
 let z12:=Prod.snd (BeF.i3 M 1 9 0 0 z11);
 let z13:=z12.2;
 let z14:=z13.2;
 let z15:=z14.2;
 let z16:=(Prod.fst (BeF.i3 M 1 9 0 0 z11),z12.1,z13.1,z14.1,z15.1,z15.2);
 let z17:=Prod.snd (BeF.i3 M 8 1 0 0 0);
 let z18:=z17.2;
 let z19:=z18.2;
 let z20:=z19.2;
 let z21:=(Prod.fst (BeF.i3 M 8 1 0 0 0),z17.1,z18.1,z19.1,z20.1,z20.2);
 let z22:=Prod.snd (BeF.i3 M 6 5 9 1 0);
 let z23:=z22.2;
 let z24:=z23.2;
 let z25:=z24.2;
 let z26:=(Prod.fst (BeF.i3 M 6 5 9 1 0),z22.1,z23.1,z24.1,z25.1,z25.2);
 let z27:=L.ar .sub .i64 15 3;
 let z28:=Prod.snd (BeF.izero M 5 z27);
 let z29:=z28.2;
 let z30:=z29.2;
 let z31:=z30.2;
 let z32:=(Prod.fst (BeF.izero M 5 z27),z28.1,z29.1,z30.1,z31.1,z31.2);
 let z33:=Prod.snd (BeF.i3 M 8 2 0 0 1);
 let z34:=z33.2;
 let z35:=z34.2;
 let z36:=z35.2;
 let z37:=(Prod.fst (BeF.i3 M 8 2 0 0 1),z33.1,z34.1,z35.1,z36.1,z36.2);
 let z38:=L.ar .mul .i64 2 i;
 let z39:=L.ar .add .i64 z38 2;
 let z40:=Prod.snd (BeF.i3 M 9 2 0 0 z39);
 let z41:=z40.2;
 let z42:=z41.2;
 let z43:=z42.2;
 let z44:=(Prod.fst (BeF.i3 M 9 2 0 0 z39),z40.1,z41.1,z42.1,z43.1,z43.2);
 let z45:=Prod.snd (BeF.iswR M 2 8 1);
 let z46:=z45.2;
 let z47:=z46.2;
 let z48:=z47.2;
 let z49:=(Prod.fst (BeF.iswR M 2 8 1),z45.1,z46.1,z47.1,z48.1,z48.2);
 let z50:=Prod.snd (BeF.izero M 5 5);
 let z51:=z50.2;
 let z52:=z51.2;
 let z53:=z52.2;
 let z54:=(Prod.fst (BeF.izero M 5 5),z50.1,z51.1,z52.1,z53.1,z53.2);
 let z55:=(L.take In [z10,z16,z21,z26,z32,z37,z44,z49,z54] 9);
 let z56:=L.llen In z55;
 let z57:=L.ar .add .i64 z38 3;
 let z58:=Prod.snd (BeF.i3 M 12 0 0 0 z57);
 let z59:=z58.2;
 let z60:=z59.2;
 let z61:=z60.2;
 let z62:=Prod.snd (BeF.i3 M 9 0 0 0 z57);
 let z63:=z62.2;
 let z64:=z63.2;
 let z65:=z64.2;
 let z66:=Prod.snd (BeF.ijmp M 2);
 let z67:=z66.2;
 let z68:=z67.2;
 let z69:=z68.2;
 let z70:=Prod.snd (BeF.i3 M 15 1 0 0 0);
 let z71:=z70.2;
 let z72:=z71.2;
 let z73:=z72.2;
 let z74:=(L.take In [(Prod.fst (BeF.i3 M 12 0 0 0 z57),z58.1,z59.1,z60.1,z61.1,z61.2),(Prod.fst (BeF.i3 M 9 0 0 0 z57),z62.1,
  Prod.fst z63,z64.1,z65.1,z65.2),(Prod.fst (BeF.ijmp M 2),z66.1,z67.1,z68.1,z69.1,z69.2),(Prod.fst (BeF.i3 M 15 1
  0 0 0),z70.1,z71.1,z72.1,z73.1,z73.2)] 4);
 let z75:=L.llen In z74;
 let z76:=L.add z56 z75;
 let z77:=(L.take In [z21,z26,z32] 3);
 let z78:=L.add z56 (L.llen In z77);
 let z79:=L.take In (L.app In z55 z77) z78;
 let z80:=L.add (L.llen In z79) z75;
 let z81:=L.ar .sub .i64 15 0;
 let z82:=Prod.snd (BeF.izero M 5 z81);
 let z83:=z82.2;
 let z84:=z83.2;
 let z85:=z84.2;
 let z86:=(Prod.fst (BeF.izero M 5 z81),z82.1,z83.1,z84.1,z85.1,z85.2);
 let z87:=(L.take In [z10,z16,z21,z26,z86,z37,z44,z49,z54] 9);
 let z88:=L.llen In z87;
 let z89:=L.add z88 z75;
 let z90:=(L.take In [z21,z26,z86] 3);
 let z91:=L.add z88 (L.llen In z90);
 let z92:=L.take In (L.app In z87 z90) z91;
 let z93:=L.add (L.llen In z92) z75; .br z2 (.obl True (.obl z4 (.obl True (.obl True (.obl True (.obl True (.obl True (.obl True (.obl True (.obl True
  (.br z2 (.obl True (.obl True (.obl True (.obl True (.obl (L.room z76 48) (.ok ((L.take In (L.app In z55 z74) z76,()) = (BeF.wtr M b i,())))))))) (.obl
  True (.obl True (.obl True (.obl (L.room z78 48) (.obl True (.obl True (.obl True (.obl True (.obl (L.room z80 48) (.ok ((L.take In (L.app In z79
  z74) z80,()) = (BeF.wtr M b i,()))))))))))))))))))))))) (.obl True (.obl z4 (.obl True (.obl True (.obl True (.obl True (.obl True (.obl True (.obl True
  (.obl True (.br z2 (.obl True (.obl True (.obl True (.obl True (.obl (L.room z89 48) (.ok ((L.take In (L.app In z87 z74) z89,()) = (BeF.wtr M b i,
  ())))))))) (.obl True (.obl True (.obl True (.obl (L.room z91 48) (.obl True (.obl True (.obl True (.obl True (.obl (L.room z93 48) (.ok ((L.take In
  (L.app In z92 z74) z93,()) = (BeF.wtr M b i,())))))))))))))))))))))))
theorem nb38_go (L:Lv) (F:BxF) (M:BeF) (b:BlD) (i:Int) (h:VC.holds (nb38 L F M b i)):Holds (vcE L F M [] [89,90,91,92] 3 (Db38 a0) (Sb38 M) (b,i,())):=Holds.of_eq (by kernel_rfl) h
def nb39 (L:Lv) (F:BxF) (M:BeF) (I:Ds [.sl In,It]→Prop) (mu:Ds [.sl In,It]→Nat) (b:BlD) (i:Int)  : VC :=
 let z1:=b.1;
 let z2:=b.2.1;
 let z3:=b.2.2;
 let z4:=z3.1;
 let z5:=z3.2;
 let z6:=z5.1;
 let z7:=z5.2;
 let z8:=Prod.snd (BeF.i3 M 1 7 0 0 1);
 let z9:=z8.2;
 let z10:=z9.2;
 let z11:=z10.2;
 let z12:=(Prod.fst (BeF.i3 M 1 7 0 0 1),z8.1,z9.1,z10.1,z11.1,z11.2);
 let z13:=Int × Int × Int × Int × Int × Int;
 let z14:=L.inR i (L.llen (Ty.sl It) z7);
 let z15:=L.get (Ty.sl It) z7 (L.toN i);
 let z16:=L.llen It z15;
 let z17:=Prod.snd (BeF.i3 M 8 1 0 0 0);
 let z18:=z17.2;
 let z19:=z18.2;
 let z20:=z19.2;
 let z21:=(Prod.fst (BeF.i3 M 8 1 0 0 0),z17.1,z18.1,z19.1,z20.1,z20.2);
 let z22:=Prod.snd (BeF.i3 M 6 5 3 1 0);
 let z23:=z22.2;
 let z24:=z23.2;
 let z25:=z24.2;
 let z26:=(Prod.fst (BeF.i3 M 6 5 3 1 0),z22.1,z23.1,z24.1,z25.1,z25.2);
 let z27:=Prod.snd (BeF.iswR M 1 3 0);
 let z28:=z27.2;
 let z29:=z28.2;
 let z30:=z29.2;
 let z31:=(Prod.fst (BeF.iswR M 1 3 0),z27.1,z28.1,z29.1,z30.1,z30.2);
 let z32:=Prod.snd (BeF.i3 M 8 2 0 0 1);
 let z33:=z32.2;
 let z34:=z33.2;
 let z35:=z34.2;
 let z36:=(Prod.fst (BeF.i3 M 8 2 0 0 1),z32.1,z33.1,z34.1,z35.1,z35.2);
 let z37:=Prod.snd (BeF.iswR M 2 0 1);
 let z38:=z37.2;
 let z39:=z38.2;
 let z40:=z39.2;
 let z41:=(Prod.fst (BeF.iswR M 2 0 1),z37.1,z38.1,z39.1,z40.1,z40.2);
 let z42:=Prod.snd (BeF.i3 M 2 4 2 2 0);
 let z43:=z42.2;
 let z44:=z43.2;
 let z45:=z44.2;
 let z46:=(Prod.fst (BeF.i3 M 2 4 2 2 0),z42.1,z43.1,z44.1,z45.1,z45.2);
 let z47:=Prod.snd (BeF.i3 M 8 6 4 0 0);
 let z48:=z47.2;
 let z49:=z48.2;
 let z50:=z49.2;
 let z51:=(Prod.fst (BeF.i3 M 8 6 4 0 0),z47.1,z48.1,z49.1,z50.1,z50.2);
 let z52:=Prod.snd (BeF.i3 M 9 7 4 0 1);
 let z53:=z52.2;
 let z54:=z53.2;
 let z55:=z54.2;
 let z56:=(Prod.fst (BeF.i3 M 9 7 4 0 1),z52.1,z53.1,z54.1,z55.1,z55.2);
 let z57:=Prod.snd (BeF.i3 M 2 2 6 0 0);
 let z58:=z57.2;
 let z59:=z58.2;
 let z60:=z59.2;
 let z61:=(Prod.fst (BeF.i3 M 2 2 6 0 0),z57.1,z58.1,z59.1,z60.1,z60.2); .obl True (.obl (St.mk 65 [(1,V.c (C.int .i64 i)),(2,
  V.c (C.ptr 1 0)),(5,V.c (C.own 3 1)),(6,V.c (C.int .i64 0))] [(0,Ob.amb),(1,Ob.box 28 [C.int .i64 z1,C.int .i64 z2,C.sym z4,C.sl It z6,C.sl (Ty.sl
  It) z7]),(3,Ob.row 140 In [z12])] 4 = St.mk 65 [(1,V.c (C.int .i64 i)),(2,V.c (C.ptr 1 0)),(5,V.c (C.own 3 (L.llen In [z12]))),(6,V.c (C.int .i64 0))]
  [(0,Ob.amb),(1,Ob.box 28 [C.int .i64 z1,C.int .i64 z2,C.sym z4,C.sl It z6,C.sl (Ty.sl It) z7]),(3,Ob.row 140 In [z12])] 4) (.obl (I ([z12],0,()))
  (.all (List z13 × Int × Unit) fun (v1:List (Int × Int × Int × Int × Int × Int) × Int × Unit) =>
 let z62:=v1.2.1;
 let z63:=v1.1;
 let z64:=L.llen In z63;
 let z65:=L.take In z63 z64;
 let z66:=L.get It z15 (L.toN z62);
 let z67:=Prod.snd (BeF.i3 M 1 3 0 0 z66);
 let z68:=z67.2;
 let z69:=z68.2;
 let z70:=z69.2;
 let z71:=L.cast z64;
 let z72:=L.ar .add .i64 z71 17;
 let z73:=Prod.snd (BeF.izero M 5 z72);
 let z74:=z73.2;
 let z75:=z74.2;
 let z76:=z75.2;
 let z77:=L.ar .add .i64 z71 1;
 let z78:=Prod.snd (BeF.izero M 5 z77);
 let z79:=z78.2;
 let z80:=z79.2;
 let z81:=z80.2;
 let z82:=Prod.snd (BeF.izero M 2 z72);
 let z83:=z82.2;
 let z84:=z83.2;
 let z85:=z84.2;
 let z86:=(Prod.fst (BeF.izero M 2 z72),z82.1,z83.1,z84.1,z85.1,z85.2);
 let z87:=L.ar .add .i64 z71 6;
 let z88:=Prod.snd (BeF.izero M 5 z87);
 let z89:=z88.2;
 let z90:=z89.2;
 let z91:=z90.2;
 let z92:=L.ar .add .i64 z71 11;
 let z93:=Prod.snd (BeF.ijmp M z92);
 let z94:=z93.2;
 let z95:=z94.2;
 let z96:=z95.2;
 let z97:=(L.take In [(Prod.fst (BeF.i3 M 1 3 0 0 z66),z67.1,z68.1,z69.1,z70.1,z70.2),z21,z26,(Prod.fst (BeF.izero M 5 z72),Prod.fst
  z73,z74.1,z75.1,z76.1,z76.2),z31,(Prod.fst (BeF.izero M 5 z77),z78.1,z79.1,z80.1,z81.1,z81.2),z36,z86,
  z41,(Prod.fst (BeF.izero M 5 z87),z88.1,z89.1,z90.1,z91.1,z91.2),z86,z46,z51,z56,z61,z86,(Prod.fst (BeF.ijmp M z92),z93.1,
  Prod.fst z94,z95.1,z96.1,z96.2)] 17);
 let z98:=L.add (L.llen In z65) (L.llen In z97);
 let z99:=L.ar .add .i64 z62 1;
 let z100:=L.app In z65 z97;
 let z101:=(L.app In z65 z97,L.ar .add .i64 z62 1,()); .imp (I v1) (.obl z14 (.br (L.cmp .lss z62 (L.cast z16)) (.obl z14 (.obl (L.inR
  z62 z16) (.obl True (.obl True (.obl True (.obl True (.obl True (.obl True (.obl True (.obl True (.obl True (.obl True (.obl True (.obl True (.obl True
  (.obl True (.obl True (.obl True (.obl True (.obl (L.room z98 48) (.ok (St.mk 65 [(1,V.c (C.int .i64 i)),(2,V.c (C.ptr 1 0)),(5,V.c (C.own 3 z98)),(6,
  V.c (C.int .i64 z99))] [(0,Ob.amb),(1,Ob.box 28 [C.int .i64 z1,C.int .i64 z2,C.sym z4,C.sl It z6,C.sl (Ty.sl It) z7]),(3,Ob.row 140 In z100)] 4 =
  St.mk 65 [(1,V.c (C.int .i64 i)),(2,V.c (C.ptr 1 0)),(5,V.c (C.own 3 (L.llen In z100))),(6,V.c (C.int .i64 z99))] [(0,Ob.amb),(1,Ob.box 28 [C.int
  .i64 z1,C.int .i64 z2,C.sym z4,C.sl It z6,C.sl (Ty.sl It) z7]),(3,Ob.row 140 In z100)] 4∧I z101∧mu z101 < mu v1)))))))))))))))))))))) (.ok ((L.take
  In z63 z64,()) = (BeF.wrt M b i,()))))))))
theorem nb39_go (L:Lv) (F:BxF) (M:BeF) (I:Ds [.sl In,It]→Prop) (mu:Ds [.sl In,It]→Nat) (b:BlD) (i:Int) (h:VC.holds (nb39 L F M I mu b i)):Holds (vcE L F M [] [89,90,91,92] 3 (Db39 (ab39 L I mu)) (Sb39 M) (b,i,())):=Holds.of_eq (by kernel_rfl) h
theorem okb89 (F:BxF) (M:BeF) (h:M.i3 = fun o a b c n=>(o,a,b,c,0,n)):SpecOk prog 89 (Sb89 M):=by
 refine Zc hm hE Db89 fnokb89 _ fun (z:Int × Int × Int × Int × Int × Unit) hpre=>?_
 obtain ⟨o,a,b,c,n,⟨⟩⟩:=z
 refine Yp _ 3 a0 (Zs (T:=tabO [] (eT F M)) (l:=[]) Z4) ?_
 refine nb89_go Lv.std F M o a b c n ?_
 simp only [nb89,VC.holds,ZJ,ZO,Zb,Zh,Zm,Yj,Ym,Z5,ZM,Yl,Yk,Yf,ZX,ZY,ZT,ZR,Ye,ZN,Zz,ZD,Zr,Z1,ZS,Z2,ZK,ZW,Yb,ZV,ZP,ZQ,Zt,ZH,Ya,Z3,ZI,Yd,Yc,Z6,Z7,Zg,ZC,ZL,ZU,Z8,Z9,Zd,Ze,ZA,ZB,Zu,Zv,Zx,Zy,Zk,Zl,Zp,Zq,Zi,Zj,Zn,Zo,ZG,ZF,ZZ,Yg,ZE,h]
theorem okb90 (F:BxF) (M:BeF) (h:M.izero = fun a n=>(14,a,0,0,0,n)) (h1:M.i3 = fun o a b c n=>(o,a,b,c,0,n)) (k1:SpecOk prog 89 (Sb89 M)):SpecOk prog 90 (Sb90 M):=by
 refine Zc hm hE Db90 fnokb90 _ fun (z:Int × Int × Unit) hpre=>?_
 obtain ⟨a,b,⟨⟩⟩:=z
 refine Yp _ 3 a0 (Zs (T:=tabO [] (eT F M)) (l:=[89]) (Za (Yh k1 (by kernel_rfl)) Z4)) ?_
 refine nb90_go Lv.std F M a b ?_
 simp only [nb90,VC.holds,ZJ,ZO,Zb,Zh,Zm,Yj,Ym,Z5,ZM,Yl,Yk,Yf,ZX,ZY,ZT,ZR,Ye,ZN,Zz,ZD,Zr,Z1,ZS,Z2,ZK,ZW,Yb,ZV,ZP,ZQ,Zt,ZH,Ya,Z3,ZI,Yd,Yc,Z6,Z7,Zg,ZC,ZL,ZU,Z8,Z9,Zd,Ze,ZA,ZB,Zu,Zv,Zx,Zy,Zk,Zl,Zp,Zq,Zi,Zj,Zn,Zo,ZG,ZF,ZZ,Yg,ZE,h,h1,and_true]
theorem okb91 (F:BxF) (M:BeF) (h:M.iswR = fun a b c=>(10,5,0,a,b,c)):SpecOk prog 91 (Sb91 M):=by
 refine Zc hm hE Db91 fnokb91 _ fun (z:Int × Int × Int × Unit) hpre=>?_
 obtain ⟨a,b,c,⟨⟩⟩:=z
 refine Yp _ 3 a0 (Zs (T:=tabO [] (eT F M)) (l:=[]) Z4) ?_
 refine nb91_go Lv.std F M a b c ?_
 simp only [nb91,VC.holds,ZJ,ZO,Zb,Zh,Zm,Yj,Ym,Z5,ZM,Yl,Yk,Yf,ZX,ZY,ZT,ZR,Ye,ZN,Zz,ZD,Zr,Z1,ZS,Z2,ZK,ZW,Yb,ZV,ZP,ZQ,Zt,ZH,Ya,Z3,ZI,Yd,Yc,Z6,Z7,Zg,ZC,ZL,ZU,Z8,Z9,Zd,Ze,ZA,ZB,Zu,Zv,Zx,Zy,Zk,Zl,Zp,Zq,Zi,Zj,Zn,Zo,ZG,ZF,ZZ,Yg,ZE,h]
theorem okb92 (F:BxF) (M:BeF) (h:M.ijmp = fun n=>(13,0,0,0,0,n)) (h1:M.i3 = fun o a b c n=>(o,a,b,c,0,n)) (k1:SpecOk prog 89 (Sb89 M)):SpecOk prog 92 (Sb92 M):=by
 refine Zc hm hE Db92 fnokb92 _ fun (z:Int × Unit) hpre=>?_
 obtain ⟨a,⟨⟩⟩:=z
 refine Yp _ 3 a0 (Zs (T:=tabO [] (eT F M)) (l:=[89]) (Za (Yh k1 (by kernel_rfl)) Z4)) ?_
 refine nb92_go Lv.std F M a ?_
 simp only [nb92,VC.holds,ZJ,ZO,Zb,Zh,Zm,Yj,Ym,Z5,ZM,Yl,Yk,Yf,ZX,ZY,ZT,ZR,Ye,ZN,Zz,ZD,Zr,Z1,ZS,Z2,ZK,ZW,Yb,ZV,ZP,ZQ,Zt,ZH,Ya,Z3,ZI,Yd,Yc,Z6,Z7,Zg,ZC,ZL,ZU,Z8,Z9,Zd,Ze,ZA,ZB,Zu,Zv,Zx,Zy,Zk,Zl,Zp,Zq,Zi,Zj,Zn,Zo,ZG,ZF,ZZ,Yg,ZE,h,h1,and_true]
theorem okb38 (F:BxF) (M:BeF) (h:M.wtr = wtrF) (hp:M.pWt = pWtF) (e1:M.i3 = fun o a b c n=>(o,a,b,c,0,n)) (e2:M.izero = fun a n=>(14,a,0,0,0,n)) (e3:M.iswR = fun a b c=>(10,5,0,a,b,c)) (e4:M.ijmp = fun n=>(13,0,0,0,0,n))
  (k1:SpecOk prog 89 (Sb89 M)) (k2:SpecOk prog 90 (Sb90 M)) (k3:SpecOk prog 91 (Sb91 M)) (k4:SpecOk prog 92 (Sb92 M)):SpecOk prog 38 (Sb38 M):=by
 refine Zc hm hE Db38 fnokb38 _ fun (z:BlD × Int × Unit) hpre=>?_
 obtain ⟨b,i,⟨⟩⟩:=z
 have hpre':M.pWt b i:=hpre
 rw [hp] at hpre'
 obtain ⟨⟨g1,g2,g3⟩,g4,g5⟩:=hpre'
 refine Yp _ 3 a0 (Zs (T:=tabO [] (eT F M)) (l:=[89,90,91,92]) (Za (Yh k1 (by kernel_rfl)) (Za (Yh k2 (by kernel_rfl)) (Za (Yh k3 (by kernel_rfl)) (Za (Yh k4 (by kernel_rfl)) Z4))))) ?_
 refine nb38_go Lv.std F M b i ?_
 have wi:IntKind.i64.wrap (i + 1) = i + 1:=Yn (by omega) (by omega)
 have w2:IntKind.i64.wrap (2 * i) = 2 * i:=Yn (by omega) (by omega)
 have w3:IntKind.i64.wrap (2 * i + 2) = 2 + 2 * i:=by rw [Yn (by omega) (by omega)]; omega
 have w4:IntKind.i64.wrap (2 * i + 3) = 2 + 2 * i + 1:=by rw [Yn (by omega) (by omega)]; omega
 have w5:IntKind.i64.wrap (15 - 3) = 12:=rfl
 have w6:IntKind.i64.wrap (15 - 0) = 15:=rfl
 simp only [nb38,VC.holds,ZJ,ZO,Zb,Zh,Zm,Yj,Ym,Z5,ZM,Yl,Yk,Yf,ZX,ZY,ZT,ZR,Ye,ZN,Zz,ZD,Zr,Z1,ZS,Z2,ZK,ZW,Yb,ZV,ZP,ZQ,Zt,ZH,Ya,Z3,ZI,Yd,Yc,Z6,Z7,Zg,ZC,ZL,ZU,Z8,Z9,Zd,Ze,ZA,ZB,Zu,Zv,Zx,Zy,Zk,Zl,Zp,Zq,Zi,Zj,Zn,Zo,ZG,ZF,ZZ,Yg,ZE,h,e1,e2,e3,e4,wi,w2,w3,w4,w5,w6,List.take_succ_cons,List.take_zero,List.take_nil,List.nil_append,List.cons_append,List.append_nil,List.length_cons,List.length_nil,Nat.zero_add,Nat.reduceAdd,Nat.reduceMul,Nat.reduceLeDiff,Prod.mk.injEq,and_true,true_and,wtrF]
 exact ⟨fun c=>⟨⟨g4,g5⟩,(fun _=>by rw [c]; rfl),fun d=>by rw [c] at d; cases d⟩,fun c=>⟨⟨g4,g5⟩,(fun d=>by rw [c] at d; cases d),fun _=>by rw [c]; rfl⟩⟩
theorem okb39 (F:BxF) (M:BeF) (h:M.wrt = wrtF) (hp:M.pWr = pWrF) (e1:M.i3 = fun o a b c n=>(o,a,b,c,0,n)) (e2:M.izero = fun a n=>(14,a,0,0,0,n)) (e3:M.iswR = fun a b c=>(10,5,0,a,b,c)) (e4:M.ijmp = fun n=>(13,0,0,0,0,n))
  (k1:SpecOk prog 89 (Sb89 M)) (k2:SpecOk prog 90 (Sb90 M)) (k3:SpecOk prog 91 (Sb91 M)) (k4:SpecOk prog 92 (Sb92 M)):SpecOk prog 39 (Sb39 M):=by
 refine Zc hm hE Db39 fnokb39 _ fun (z:BlD × Int × Unit) hpre=>?_
 obtain ⟨b,i,⟨⟩⟩:=z
 have hpre':M.pWr b i:=hpre
 rw [hp] at hpre'
 obtain ⟨⟨g1,g2,g3⟩,g4,g5⟩:=hpre'
 obtain ⟨k,rfl⟩:=Yq g4
 have hk:k < b.2.2.2.2.length:=by omega
 obtain ⟨row,hrow⟩:∃ r,r = (b.2.2.2.2[k]?).getD []:=⟨_,rfl⟩
 have g6:row.length≤1000:=by rw [hrow,List.getElem?_eq_getElem hk]; exact g3 _ (List.getElem_mem hk)
 let I:List InD × Int × Unit→Prop:=fun x=>(0≤x.2.1∧x.2.1≤row.length)∧x.1 = ringsF (row.take x.2.1.toNat)
 let mu:List InD × Int × Unit→Nat:=fun x=>(row.length - x.2.1).toNat
 refine Yp _ 3 (ab39 Lv.std I mu) (Zs (T:=tabO [] (eT F M)) (l:=[89,90,91,92]) (Za (Yh k1 (by kernel_rfl)) (Za (Yh k2 (by kernel_rfl)) (Za (Yh k3 (by kernel_rfl)) (Za (Yh k4 (by kernel_rfl)) Z4))))) ?_
 refine nb39_go Lv.std F M I mu b k ?_
 simp only [nb39,VC.holds,ZJ,ZO,Zb,Zh,Zm,Yj,Ym,Z5,ZM,Yl,Yk,Yf,ZX,ZY,ZT,ZR,Ye,ZN,Zz,ZD,Zr,Z1,ZS,Z2,ZK,ZW,Yb,ZV,ZP,ZQ,Zt,ZH,Ya,Z3,ZI,Yd,Yc,Z6,Z7,Zg,ZC,ZL,ZU,Z8,Z9,Zd,Ze,ZA,ZB,Zu,Zv,Zx,Zy,Zk,Zl,Zp,Zq,Zi,Zj,Zn,Zo,ZG,ZF,ZZ,Yg,ZE,h,tkI,e1,e2,e3,e4,Int.toNat_natCast,← hrow,List.take_succ_cons,List.take_zero,List.take_nil,List.take_length,List.nil_append,List.cons_append,List.append_nil,List.length_cons,List.length_nil,Nat.zero_add,Nat.reduceAdd,Nat.reduceMul,Nat.reduceLeDiff,Prod.mk.injEq,and_true,true_and]
 refine ⟨⟨⟨Int.le_refl 0,by show (0:Int)≤row.length; omega⟩,rfl⟩,?_⟩
 rintro ⟨l,x,⟨⟩⟩ ⟨⟨i1,i2⟩,i3⟩
 simp only at i1 i2 i3 ⊢
 obtain ⟨j,rfl⟩:=Yq i1
 rw [Int.toNat_natCast] at i3 ⊢
 have hl:l.length = 1 + 17 * j:=by rw [i3,rings_len,List.length_take]; omega
 have wl:∀ n:Int,0≤n→n≤100→IntKind.i64.wrap ((l.length:Int) + n) = (l.length:Int) + n:=fun n h0 h1=>Yn (by omega) (by omega)
 rw [wl 17 (by omega) (by omega),wl 1 (by omega) (by omega),wl 6 (by omega) (by omega),wl 11 (by omega) (by omega)]
 refine ⟨⟨g4,by omega⟩,fun hlt=>?_,fun hge=>?_⟩
 ·have hj:j < row.length:=by omega
  rw [wr hlt (by omega)]
  refine ⟨⟨g4,by omega⟩,⟨by omega,hlt⟩,⟨by omega,by omega⟩,?_,⟨⟨by show (0:Int)≤((j + 1:Nat):Int); omega,by show ((j + 1:Nat):Int)≤row.length; omega⟩,?_⟩,by show ((row.length:Int) - ((j + 1:Nat):Int)).toNat < ((row.length:Int) - j).toNat; omega⟩
  ·simp only [List.length_append,List.length_cons,List.length_nil]
  ·show _ = ringsF (row.take ((j + 1:Nat):Int).toNat)
   rw [Int.toNat_natCast,rings_take row j hj,← i3]
   rfl
 ·rw [i3,List.take_of_length_le (by omega),hrow]
  unfold wrtF
  rw [Int.toNat_natCast]
end Go.Proofs.Tryz
namespace Go.Proofs.Tryz
open Go Go.VM
def nb40 (L:Lv) (F:BxF) (M:BeF) (a b:List InD)  : VC :=
 .obl (BxF.bw F ([],L.take (Ty.sl In) [a] 1,0)∧BxF.bw F ([],L.take (Ty.sl In) [b] 1,0)) (.br (BxF.sameW F ([],L.take (Ty.sl In) [a] 1,0) ([],L.take (Ty.sl
  In) [b] 1,0)) (.ok ((true,()) = (BeF.sameL M a b,()))) (.ok ((false,()) = (BeF.sameL M a b,()))))
theorem nb40_go (L:Lv) (F:BxF) (M:BeF) (a b:List InD) (h:VC.holds (nb40 L F M a b)):Holds (vcE L F M [] [36] 3 (Db40 a0) (Sb40 M) (a,b,())):=Holds.of_eq (by kernel_rfl) h
theorem okb40 (F:BxF) (M:BeF) (h:M.sameL = fun a b=>decide (a = b)) (h1:F.sameW = fun a b=>decide (a = b)) (q:M.bI = bIF) (q1:F.bw = bW) (k1:SpecOk prog 36 (S31 F)):SpecOk prog 40 (Sb40 M):=by
 refine Zc hm hE Db40 fnokb40 _ fun (z:List InD × List InD × Unit) hpre=>?_
 obtain ⟨a,b,⟨⟩⟩:=z
 have hpre':M.bI a∧M.bI b:=hpre
 rw [q] at hpre'
 obtain ⟨g1,g2⟩:=hpre'
 refine Yp _ 3 a0 (Zs (T:=tabO [] (eT F M)) (l:=[36]) (Za (Yh k1 (by kernel_rfl)) Z4)) ?_
 refine nb40_go Lv.std F M a b ?_
 simp only [nb40,VC.holds,ZJ,ZO,Zb,Zh,Zm,Yj,Ym,Z5,ZM,Yl,Yk,Yf,ZX,ZY,ZT,ZR,Ye,ZN,Zz,ZD,Zr,Z1,ZS,Z2,ZK,ZW,Yb,ZV,ZP,ZQ,Zt,ZH,Ya,Z3,ZI,Yd,Yc,Z6,Z7,Zg,ZC,ZL,ZU,Z8,Z9,Zd,Ze,ZA,ZB,Zu,Zv,Zx,Zy,Zk,Zl,Zp,Zq,Zi,Zj,Zn,Zo,ZG,ZF,ZZ,Yg,ZE,h,h1,q,q1,pe5]
 have hw:∀ l:List InD,bIF l→bW (([],List.take 1 [l],0):WkD):=fun l hl=>⟨by show (0:Nat)≤_; omega,by show (1:Nat)≤_; omega,fun x hx=>by
  have:x = l:=by simpa using hx
  rw [this]; exact hl⟩
 have he:decide ((([],List.take 1 [a],0):WkD) = ([],List.take 1 [b],0)) = decide (a = b):=by
  by_cases e:a = b
  ·subst e; simp
  ·have:¬ ((([],List.take 1 [a],0):WkD) = ([],List.take 1 [b],0)):=fun h=>e (by simpa using h)
   rw [decide_eq_false e,decide_eq_false this]
 rw [he]
 refine ⟨⟨hw a g1,hw b g2⟩,fun c=>?_,fun c=>?_⟩
 ·rw [c]
 ·rw [c]
end Go.Proofs.Tryz
namespace Go.Proofs.Tryz
open Go Go.VM
theorem chk_ok {b:BlD} (h:chkB b = 0):((b.2.2.2.1.length + b.2.2.2.2.length≤4∧0 < b.2.2.2.1.length + b.2.2.2.2.length)∧(∀ l ∈ b.2.2.2.2,l.length≤4∧∀ n ∈ l,isNumF n = true)∧(1≤b.2.1∧b.2.1≤8)∧isNumF b.1 = true∧∀ n ∈ b.2.2.2.1,isNumF n = true):=by
 unfold chkB at h
 split at h; · cases h
 rename_i h1
 split at h; · cases h
 rename_i h2
 split at h; · cases h
 rename_i h3
 split at h; · cases h
 rename_i h4
 split at h; · cases h
 rename_i h5
 simp only [not_or,Bool.not_eq_false,Int.not_lt] at h2 h3 h4
 refine ⟨⟨by omega,by omega⟩,fun l hl=>⟨?_,fun n hn=>?_⟩,⟨h3.1,h3.2.1⟩,h3.2.2.1,fun n hn=>List.all_eq_true.1 h3.2.2.2 n hn⟩
 ·have:=of_decide_eq_true (List.all_eq_true.1 h2 l hl); omega
 ·exact List.all_eq_true.1 (List.all_eq_true.1 h4 l hl) n hn
theorem ins_1 {a n:Int} {m:Int} (ha:0≤a∧a≤9) (hn:isNumF n = true):insOkF (1,a,0,0,0,n) m = true:=by
 unfold insOkF regOk
 simp [withinF_t.2 ha,hn,withinF_t.2 (show (0:Int)≤0∧(0:Int)≤9 by omega)]
theorem ins_j {a n:Int} {m:Int} (ha:0≤a∧a≤9) (hn:0≤n∧n≤m):insOkF (14,a,0,0,0,n) m = true:=by
 unfold insOkF regOk
 simp [withinF_t.2 ha,withinF_t.2 hn]
theorem ins_jump {n:Int} {m:Int} (hn:0≤n∧n≤m):insOkF (13,0,0,0,0,n) m = true:=by
 unfold insOkF regOk
 simp [withinF_t.2 hn]
theorem ins_8 {a b n:Int} {m:Int} (ha:0≤a∧a≤9) (hb:0≤b∧b≤9) (hn:0≤n∧n≤63):insOkF (8,a,b,0,0,n) m = true:=by
 unfold insOkF regOk
 simp [withinF_t.2 ha,withinF_t.2 hb,withinF_t.2 hn]
theorem ins_9 {a b n:Int} {m:Int} (ha:0≤a∧a≤9) (hb:0≤b∧b≤9) (hn:0≤n∧n≤63):insOkF (9,a,b,0,0,n) m = true:=by
 unfold insOkF regOk
 simp [withinF_t.2 ha,withinF_t.2 hb,withinF_t.2 hn]
theorem ins_12 {b n:Int} {m:Int} (hb:0≤b∧b≤9) (hn:0≤n∧n≤63):insOkF (12,0,b,0,0,n) m = true:=by
 unfold insOkF regOk
 simp [withinF_t.2 hb,withinF_t.2 hn]
theorem num_small {n:Int} (h:-1000≤n∧n≤1000):isNumF n = true:=isNum_t.2 (by omega)
theorem wtr_ok {b:BlD} (h:chkB b = 0) {i:Nat} (hi:i < b.2.2.2.1.length):(wtrF b (i:Int)).length≤200∧∀ x ∈ wtrF b (i:Int),insOkF x ((wtrF b (i:Int)).length:Int) = true:=by
 obtain ⟨⟨h1,h1'⟩,h2,h3,h4,h5⟩:=chk_ok h
 refine ⟨by have:=wtr_len b i; omega,?_⟩
 have hn:isNumF ((b.2.2.2.1[((i:Nat):Int).toNat]?).getD 0) = true:=by
  rw [Int.toNat_natCast,List.getElem?_eq_getElem hi]; exact h5 _ (List.getElem_mem hi)
 intro x hx
 cases hr:b.2.2.1 with
 | true =>
   have hl:(wtrF b (i:Int)).length = 13:=by unfold wtrF; rw [hr]; rfl
   rw [hl]
   unfold wtrF at hx
   rw [hr] at hx
   simp only [if_true,List.cons_append,List.nil_append,List.mem_cons,List.not_mem_nil,or_false] at hx
   rcases hx with rfl | rfl | rfl | rfl | rfl | rfl | rfl | rfl | rfl | rfl | rfl | rfl | rfl
   ·exact ins_1 (by omega) (num_small (by omega))
   ·exact ins_1 (by omega) hn
   ·exact ins_8 (by omega) (by omega) (by omega)
   ·decide
   ·exact ins_j (by omega) (by omega)
   ·exact ins_8 (by omega) (by omega) (by omega)
   ·exact ins_9 (by omega) (by omega) (by omega)
   ·decide
   ·exact ins_j (by omega) (by omega)
   ·exact ins_12 (by omega) (by omega)
   ·exact ins_9 (by omega) (by omega) (by omega)
   ·exact ins_jump (by omega)
   ·decide
 | false =>
   have hl:(wtrF b (i:Int)).length = 16:=by unfold wtrF; rw [hr]; rfl
   rw [hl]
   unfold wtrF at hx
   rw [hr] at hx
   simp only [if_false,Bool.false_eq_true,List.cons_append,List.nil_append,List.mem_cons,List.not_mem_nil,or_false] at hx
   rcases hx with rfl | rfl | rfl | rfl | rfl | rfl | rfl | rfl | rfl | rfl | rfl | rfl | rfl | rfl | rfl | rfl
   ·exact ins_1 (by omega) (num_small (by omega))
   ·exact ins_1 (by omega) hn
   ·exact ins_8 (by omega) (by omega) (by omega)
   ·decide
   ·exact ins_j (by omega) (by omega)
   ·exact ins_8 (by omega) (by omega) (by omega)
   ·exact ins_9 (by omega) (by omega) (by omega)
   ·decide
   ·exact ins_j (by omega) (by omega)
   ·exact ins_8 (by omega) (by omega) (by omega)
   ·decide
   ·exact ins_j (by omega) (by omega)
   ·exact ins_12 (by omega) (by omega)
   ·exact ins_9 (by omega) (by omega) (by omega)
   ·exact ins_jump (by omega)
   ·decide
theorem ring_ok {a n m:Int} (ha:0≤a∧a + 17≤m) (hn:isNumF n = true):∀ x ∈ ringF a n,insOkF x m = true:=by
 intro x hx
 unfold ringF at hx
 simp only [List.mem_cons,List.not_mem_nil,or_false] at hx
 rcases hx with rfl | rfl | rfl | rfl | rfl | rfl | rfl | rfl | rfl | rfl | rfl | rfl | rfl | rfl | rfl | rfl | rfl
 ·exact ins_1 (by omega) hn
 ·exact ins_8 (by omega) (by omega) (by omega)
 ·rfl
 ·exact ins_j (by omega) (by omega)
 ·rfl
 ·exact ins_j (by omega) (by omega)
 ·exact ins_8 (by omega) (by omega) (by omega)
 ·exact ins_j (by omega) (by omega)
 ·rfl
 ·exact ins_j (by omega) (by omega)
 ·exact ins_j (by omega) (by omega)
 ·rfl
 ·exact ins_8 (by omega) (by omega) (by omega)
 ·exact ins_9 (by omega) (by omega) (by omega)
 ·rfl
 ·exact ins_j (by omega) (by omega)
 ·exact ins_jump (by omega)
theorem rings_ok (m:Int):∀ (k:Nat) (l:List Int),k≤l.length→(∀ n ∈ l,isNumF n = true)→1 + 17 * (l.length:Int)≤m→∀ x ∈ ringsF (l.take k),insOkF x m = true
 | 0,l,_,_,_=>fun x hx=>by
   have:x = (1,7,0,0,0,1):=by simpa [ringsF] using hx
   rw [this]; exact ins_1 (by omega) isNum1
 | k + 1,l,hk,hn,hm=>fun x hx=>by
   have hk':k < l.length:=hk
   rw [rings_take l k hk'] at hx
   rcases List.mem_append.1 hx with hx | hx
   ·exact rings_ok m k l (by omega) hn hm x hx
   ·refine ring_ok ?_ ?_ x hx
    ·rw [rings_len,List.length_take]; omega
    ·rw [List.getElem?_eq_getElem hk']; exact hn _ (List.getElem_mem hk')
theorem wrt_ok {b:BlD} (h:chkB b = 0) {k:Nat} (hk:k < b.2.2.2.2.length):(wrtF b (k:Int)).length≤200∧∀ x ∈ wrtF b (k:Int),insOkF x ((wrtF b (k:Int)).length:Int) = true:=by
 obtain ⟨⟨h1,h1'⟩,h2,h3,h4,h5⟩:=chk_ok h
 obtain ⟨g1,g2⟩:=h2 _ (List.getElem_mem hk)
 unfold wrtF
 rw [Int.toNat_natCast,List.getElem?_eq_getElem hk]
 show (ringsF b.2.2.2.2[k]).length≤200∧_
 refine ⟨by rw [rings_len]; omega,fun x hx=>?_⟩
 refine rings_ok _ b.2.2.2.2[k].length b.2.2.2.2[k] (Nat.le_refl _) g2 ?_ x (by rw [List.take_length]; exact hx)
 show _≤((ringsF b.2.2.2.2[k]).length:Int)
 rw [rings_len]; omega
theorem thin_bB {b:BlD} (h:thinB b = true):bBF b:=by
 unfold thinB at h
 simp only [Bool.and_eq_true,decide_eq_true_eq] at h
 obtain ⟨⟨h1,h2⟩,h3⟩:=h
 refine ⟨by omega,by omega,fun l hl=>?_⟩
 have:=of_decide_eq_true (List.all_eq_true.1 h3 l hl)
 omega
end Go.Proofs.Tryz
namespace Go.Proofs.Tryz
open Go Go.VM
def LBii:VM.Spec:=⟨[Bl,It,It],[.bool],fun x=>bTF x.1,fun _=>(true,())⟩
end Go.Proofs.Tryz
namespace Go.Proofs.Tryz
open Go Go.VM
noncomputable def oIn8 (F:BxF):List (Nat × FT):=[(37,.spec (S86 F)),(23,.spec SbT)]
def plb8j:Nat→Plan
 | 9=>[(12,[]),(13,[])]
 | _=>[]
noncomputable def Db8j (ann:Nat→LAnn):FnD:=⟨f8.body.getD .skip,f8.ntmps,f8.results.toList,plb8j,ann⟩
theorem fnokb8j (ann:Nat→LAnn):FnOk prog 8 (Db8j ann):=⟨f8,atb8,by kernel_rfl,by kernel_rfl,rfl,rfl,by kernel_rfl⟩
def ab8 (L:Lv) (I I2:Ds [.sl In]→Prop):Nat→LAnn
 | 1000010=>anH L [1,2,3,7,8,9,10,12,13] [] [.s 12 (.sl In)] I fun _=>0
 | 1000012=>anH L [3,7,8,9,10,12,13] [] [.s 13 (.sl In)] I2 fun _=>0
 | _=>.no
def nb8 (L:Lv) (F:BxF) (M:BeF) (I I2:Ds [.sl In]→Prop) (b:BlD) (i k:Int)  : VC :=
 let z1:=b.2;
 let z2:=z1.2;
 let z3:=z2.2;
 let z4:=(Prod.fst b,z1.1,z2.1,z3.1,z3.2);
 let z5:=Prod.snd (BeF.wtrE M z4 i);
 let z6:=Prod.snd (BeF.wrtE M z4 k);
 let z7:=Prod.fst (BeF.wtrE M z4 i);
 let z8:=Prod.fst (BeF.wrtE M z4 k);
 let z9:=z3.1;
 let z10:=L.take In [] 0;
 let z11:=b.1;
 let z12:=z1.1;
 let z13:=z2.1;
 let z14:=z3.2;
 let z15:=Int × Int × Int × Int × Int × Int;
 let z16:=List z15 × Unit;
 let z17:=BxF.within F k 0 (L.ar .sub .i64 (L.cast (L.llen (Ty.sl It) z14)) 1);
 let z18:=L.cmp .eql z5 0;
 let z19:=L.beq true true;
 let z20:=L.cmp .eql z6 0;
 let z21:=L.cmp .eql z6 7;
 let z22:=L.beq true false;
 let z23:=L.beq false true;
 let z24:=L.beq false false;
 let z25:=L.cmp .eql z5 7;
 let z26:=(L.take In [] 0,()); .obl (BeF.bT M z4) (.br (BeF.thin M z4) (.obl (BeF.bB M z4) (.obl (BeF.bB M z4) (.obl (BeF.bB M z4) (.obl (BeF.bB M z4) (.obl
  (BeF.bB M z4) (.br (L.cmp .neq (BeF.chk M z4) 0) (.br (L.cmp .eql z5 (BeF.chk M z4)) (.br (L.cmp .eql z6 (BeF.chk M z4)) (.br (L.cmp .eql
  (L.ar .add .i64 (L.cast (L.llen In z7)) (L.cast (L.llen In z8))) 0) (.obl True (.br true (.ok ((true,()) = (true,()))) (.ok ((false,()) =
  (true,()))))) (.ok ((false,()) = (true,())))) (.ok ((false,()) = (true,())))) (.ok ((false,()) = (true,())))) (.obl True (.br (BxF.within F i 0 (L.ar
  .sub .i64 (L.cast (L.llen It z9)) 1)) (.all Bool fun (v1:Bool)=>.br v1 (.obl (BeF.pWt M z4 i) (.ok (St.mk 118 [(1,V.c (C.int .i64 i)),(2,
  V.c (C.int .i64 k)),(3,V.c (C.ptr 1 0)),(7,V.c (C.sl In z7)),(8,V.c (C.int .i64 z5)),(9,V.c (C.sl In z8)),(10,V.c (C.int .i64 z6)),(12,V.c (C.sl
  In (BeF.wtr M z4 i))),(13,V.c (C.sl In z10))] [(0,Ob.amb),(1,Ob.box 28 [C.int .i64 z11,C.int .i64 z12,C.sym z13,C.sl It z9,C.sl (Ty.sl It) z14])] 4 = St.mk
  118 [(1,V.c (C.int .i64 i)),(2,V.c (C.int .i64 k)),(3,V.c (C.ptr 1 0)),(7,V.c (C.sl In z7)),(8,V.c (C.int .i64 z5)),(9,V.c (C.sl In z8)),(10,V.c
  (C.int .i64 z6)),(12,V.c (C.sl In (BeF.wtr M z4 i))),(13,V.c (C.sl In z10))] [(0,Ob.amb),(1,Ob.box 28 [C.int .i64 z11,C.int .i64 z12,C.sym z13,C.sl
  It z9,C.sl (Ty.sl It) z14])] 4∧I (BeF.wtr M z4 i,())))) (.all z16 fun (v2:List (Int × Int × Int × Int × Int × Int) × Unit) =>
 let z27:=v2.1;
 let z28:=L.cmp .gtr (L.cast (L.llen In z27)) 0; .imp (I v2) (.obl True (.br z17 (.all Bool fun (v3:Bool)=>.br v3 (.obl (BeF.pWr M z4 k) (.ok
  (St.mk 118 [(3,V.c (C.ptr 1 0)),(7,V.c (C.sl In z7)),(8,V.c (C.int .i64 z5)),(9,V.c (C.sl In z8)),(10,V.c (C.int .i64 z6)),(12,V.c (C.sl In z27)),(13,
  V.c (C.sl In (BeF.wrt M z4 k)))] [(0,Ob.amb),(1,Ob.box 28 [C.int .i64 z11,C.int .i64 z12,C.sym z13,C.sl It z9,C.sl (Ty.sl It) z14])] 4 = St.mk 118 [(3,V.c
  (C.ptr 1 0)),(7,V.c (C.sl In z7)),(8,V.c (C.int .i64 z5)),(9,V.c (C.sl In z8)),(10,V.c (C.int .i64 z6)),(12,V.c (C.sl In z27)),(13,V.c (C.sl In (BeF.wrt
  M z4 k)))] [(0,Ob.amb),(1,Ob.box 28 [C.int .i64 z11,C.int .i64 z12,C.sym z13,C.sl It z9,C.sl (Ty.sl It) z14])] 4∧I2 (BeF.wrt M z4 k,())))) (.all z16 fun
  (v4:List (Int × Int × Int × Int × Int × Int) × Unit) =>
 let z29:=v4.1;
 let z30:=L.cmp .gtr (L.cast (L.llen In z29)) 0; .imp (I2 v4) (.br z18 (.br z28 (.br z19 (.br z18 (.obl (BeF.bI M z7∧BeF.bI M z27) (.br (BeF.sameL M
  z7 z27) (.br z20 (.br z30 (.br z19 (.br z20 (.obl (BeF.bI M z8∧BeF.bI M z29) (.br (BeF.sameL M z8 z29) (.obl True (.br true (.ok ((true,()) = (true,())))
  (.ok ((false,()) = (true,()))))) (.ok ((false,()) = (true,()))))) (.br z21 (.obl (BeF.bI M z8∧BeF.bI M z29) (.br (BeF.sameL M z8 z29) (.obl True (.br true
  (.ok ((true,()) = (true,()))) (.ok ((false,()) = (true,()))))) (.ok ((false,()) = (true,()))))) (.ok ((false,()) = (true,()))))) (.ok ((false,()) = (true,
  ())))) (.br z22 (.br z20 (.obl (BeF.bI M z8∧BeF.bI M z29) (.br (BeF.sameL M z8 z29) (.obl True (.br true (.ok ((true,()) = (true,()))) (.ok ((false,()) =
  (true,()))))) (.ok ((false,()) = (true,()))))) (.br z21 (.obl (BeF.bI M z8∧BeF.bI M z29) (.br (BeF.sameL M z8 z29) (.obl True (.br true (.ok ((true,()) =
  (true,()))) (.ok ((false,()) = (true,()))))) (.ok ((false,()) = (true,()))))) (.ok ((false,()) = (true,()))))) (.ok ((false,()) = (true,()))))) (.br z30 (.br
  z23 (.br z20 (.obl (BeF.bI M z8∧BeF.bI M z29) (.br (BeF.sameL M z8 z29) (.obl True (.br true (.ok ((true,()) = (true,()))) (.ok ((false,()) = (true,())))))
  (.ok ((false,()) = (true,()))))) (.br z21 (.obl (BeF.bI M z8∧BeF.bI M z29) (.br (BeF.sameL M z8 z29) (.obl True (.br true (.ok ((true,()) = (true,()))) (.ok
  ((false,()) = (true,()))))) (.ok ((false,()) = (true,()))))) (.ok ((false,()) = (true,()))))) (.ok ((false,()) = (true,())))) (.br z24 (.br z20 (.obl (BeF.bI
  M z8∧BeF.bI M z29) (.br (BeF.sameL M z8 z29) (.obl True (.br true (.ok ((true,()) = (true,()))) (.ok ((false,()) = (true,()))))) (.ok ((false,()) = (true,
  ()))))) (.br z21 (.obl (BeF.bI M z8∧BeF.bI M z29) (.br (BeF.sameL M z8 z29) (.obl True (.br true (.ok ((true,()) = (true,()))) (.ok ((false,()) = (true,
  ()))))) (.ok ((false,()) = (true,()))))) (.ok ((false,()) = (true,()))))) (.ok ((false,()) = (true,())))))) (.ok ((false,()) = (true,()))))) (.br z25 (.obl
  (BeF.bI M z7∧BeF.bI M z27) (.br (BeF.sameL M z7 z27) (.br z20 (.br z30 (.br z19 (.br z20 (.obl (BeF.bI M z8∧BeF.bI M z29) (.br (BeF.sameL M z8 z29) (.obl True
  (.br true (.ok ((true,()) = (true,()))) (.ok ((false,()) = (true,()))))) (.ok ((false,()) = (true,()))))) (.br z21 (.obl (BeF.bI M z8∧BeF.bI M z29) (.br
  (BeF.sameL M z8 z29) (.obl True (.br true (.ok ((true,()) = (true,()))) (.ok ((false,()) = (true,()))))) (.ok ((false,()) = (true,()))))) (.ok ((false,()) =
  (true,()))))) (.ok ((false,()) = (true,())))) (.br z22 (.br z20 (.obl (BeF.bI M z8∧BeF.bI M z29) (.br (BeF.sameL M z8 z29) (.obl True (.br true (.ok ((true,
  ()) = (true,()))) (.ok ((false,()) = (true,()))))) (.ok ((false,()) = (true,()))))) (.br z21 (.obl (BeF.bI M z8∧BeF.bI M z29) (.br (BeF.sameL M z8 z29) (.obl
  True (.br true (.ok ((true,()) = (true,()))) (.ok ((false,()) = (true,()))))) (.ok ((false,()) = (true,()))))) (.ok ((false,()) = (true,()))))) (.ok ((false,
  ()) = (true,()))))) (.br z30 (.br z23 (.br z20 (.obl (BeF.bI M z8∧BeF.bI M z29) (.br (BeF.sameL M z8 z29) (.obl True (.br true (.ok ((true,()) = (true,())))
  (.ok ((false,()) = (true,()))))) (.ok ((false,()) = (true,()))))) (.br z21 (.obl (BeF.bI M z8∧BeF.bI M z29) (.br (BeF.sameL M z8 z29) (.obl True (.br true
  (.ok ((true,()) = (true,()))) (.ok ((false,()) = (true,()))))) (.ok ((false,()) = (true,()))))) (.ok ((false,()) = (true,()))))) (.ok ((false,()) = (true,
  ())))) (.br z24 (.br z20 (.obl (BeF.bI M z8∧BeF.bI M z29) (.br (BeF.sameL M z8 z29) (.obl True (.br true (.ok ((true,()) = (true,()))) (.ok ((false,()) =
  (true,()))))) (.ok ((false,()) = (true,()))))) (.br z21 (.obl (BeF.bI M z8∧BeF.bI M z29) (.br (BeF.sameL M z8 z29) (.obl True (.br true (.ok ((true,()) =
  (true,()))) (.ok ((false,()) = (true,()))))) (.ok ((false,()) = (true,()))))) (.ok ((false,()) = (true,()))))) (.ok ((false,()) = (true,())))))) (.ok ((false,
  ()) = (true,()))))) (.ok ((false,()) = (true,()))))) (.ok ((false,()) = (true,())))) (.br z22 (.br z18 (.obl (BeF.bI M z7∧BeF.bI M z27) (.br (BeF.sameL M z7
  z27) (.br z20 (.br z30 (.br z19 (.br z20 (.obl (BeF.bI M z8∧BeF.bI M z29) (.br (BeF.sameL M z8 z29) (.obl True (.br true (.ok ((true,()) = (true,())))
  (.ok ((false,()) = (true,()))))) (.ok ((false,()) = (true,()))))) (.br z21 (.obl (BeF.bI M z8∧BeF.bI M z29) (.br (BeF.sameL M z8 z29) (.obl True (.br true
  (.ok ((true,()) = (true,()))) (.ok ((false,()) = (true,()))))) (.ok ((false,()) = (true,()))))) (.ok ((false,()) = (true,()))))) (.ok ((false,()) = (true,
  ())))) (.br z22 (.br z20 (.obl (BeF.bI M z8∧BeF.bI M z29) (.br (BeF.sameL M z8 z29) (.obl True (.br true (.ok ((true,()) = (true,()))) (.ok ((false,()) =
  (true,()))))) (.ok ((false,()) = (true,()))))) (.br z21 (.obl (BeF.bI M z8∧BeF.bI M z29) (.br (BeF.sameL M z8 z29) (.obl True (.br true (.ok ((true,()) =
  (true,()))) (.ok ((false,()) = (true,()))))) (.ok ((false,()) = (true,()))))) (.ok ((false,()) = (true,()))))) (.ok ((false,()) = (true,()))))) (.br z30 (.br
  z23 (.br z20 (.obl (BeF.bI M z8∧BeF.bI M z29) (.br (BeF.sameL M z8 z29) (.obl True (.br true (.ok ((true,()) = (true,()))) (.ok ((false,()) = (true,())))))
  (.ok ((false,()) = (true,()))))) (.br z21 (.obl (BeF.bI M z8∧BeF.bI M z29) (.br (BeF.sameL M z8 z29) (.obl True (.br true (.ok ((true,()) = (true,()))) (.ok
  ((false,()) = (true,()))))) (.ok ((false,()) = (true,()))))) (.ok ((false,()) = (true,()))))) (.ok ((false,()) = (true,())))) (.br z24 (.br z20 (.obl (BeF.bI
  M z8∧BeF.bI M z29) (.br (BeF.sameL M z8 z29) (.obl True (.br true (.ok ((true,()) = (true,()))) (.ok ((false,()) = (true,()))))) (.ok ((false,()) = (true,
  ()))))) (.br z21 (.obl (BeF.bI M z8∧BeF.bI M z29) (.br (BeF.sameL M z8 z29) (.obl True (.br true (.ok ((true,()) = (true,()))) (.ok ((false,()) = (true,
  ()))))) (.ok ((false,()) = (true,()))))) (.ok ((false,()) = (true,()))))) (.ok ((false,()) = (true,())))))) (.ok ((false,()) = (true,()))))) (.br z25 (.obl
  (BeF.bI M z7∧BeF.bI M z27) (.br (BeF.sameL M z7 z27) (.br z20 (.br z30 (.br z19 (.br z20 (.obl (BeF.bI M z8∧BeF.bI M z29) (.br (BeF.sameL M z8 z29) (.obl True
  (.br true (.ok ((true,()) = (true,()))) (.ok ((false,()) = (true,()))))) (.ok ((false,()) = (true,()))))) (.br z21 (.obl (BeF.bI M z8∧BeF.bI M z29) (.br
  (BeF.sameL M z8 z29) (.obl True (.br true (.ok ((true,()) = (true,()))) (.ok ((false,()) = (true,()))))) (.ok ((false,()) = (true,()))))) (.ok ((false,()) =
  (true,()))))) (.ok ((false,()) = (true,())))) (.br z22 (.br z20 (.obl (BeF.bI M z8∧BeF.bI M z29) (.br (BeF.sameL M z8 z29) (.obl True (.br true (.ok ((true,
  ()) = (true,()))) (.ok ((false,()) = (true,()))))) (.ok ((false,()) = (true,()))))) (.br z21 (.obl (BeF.bI M z8∧BeF.bI M z29) (.br (BeF.sameL M z8 z29) (.obl
  True (.br true (.ok ((true,()) = (true,()))) (.ok ((false,()) = (true,()))))) (.ok ((false,()) = (true,()))))) (.ok ((false,()) = (true,()))))) (.ok ((false,
  ()) = (true,()))))) (.br z30 (.br z23 (.br z20 (.obl (BeF.bI M z8∧BeF.bI M z29) (.br (BeF.sameL M z8 z29) (.obl True (.br true (.ok ((true,()) = (true,())))
  (.ok ((false,()) = (true,()))))) (.ok ((false,()) = (true,()))))) (.br z21 (.obl (BeF.bI M z8∧BeF.bI M z29) (.br (BeF.sameL M z8 z29) (.obl True (.br true
  (.ok ((true,()) = (true,()))) (.ok ((false,()) = (true,()))))) (.ok ((false,()) = (true,()))))) (.ok ((false,()) = (true,()))))) (.ok ((false,()) = (true,
  ())))) (.br z24 (.br z20 (.obl (BeF.bI M z8∧BeF.bI M z29) (.br (BeF.sameL M z8 z29) (.obl True (.br true (.ok ((true,()) = (true,()))) (.ok ((false,()) =
  (true,()))))) (.ok ((false,()) = (true,()))))) (.br z21 (.obl (BeF.bI M z8∧BeF.bI M z29) (.br (BeF.sameL M z8 z29) (.obl True (.br true (.ok ((true,()) =
  (true,()))) (.ok ((false,()) = (true,()))))) (.ok ((false,()) = (true,()))))) (.ok ((false,()) = (true,()))))) (.ok ((false,()) = (true,())))))) (.ok ((false,
  ()) = (true,()))))) (.ok ((false,()) = (true,()))))) (.ok ((false,()) = (true,()))))) (.br z28 (.br z23 (.br z18 (.obl (BeF.bI M z7∧BeF.bI M z27) (.br
  (BeF.sameL M z7 z27) (.br z20 (.br z30 (.br z19 (.br z20 (.obl (BeF.bI M z8∧BeF.bI M z29) (.br (BeF.sameL M z8 z29) (.obl True (.br true (.ok ((true,()) =
  (true,()))) (.ok ((false,()) = (true,()))))) (.ok ((false,()) = (true,()))))) (.br z21 (.obl (BeF.bI M z8∧BeF.bI M z29) (.br (BeF.sameL M z8 z29) (.obl True
  (.br true (.ok ((true,()) = (true,()))) (.ok ((false,()) = (true,()))))) (.ok ((false,()) = (true,()))))) (.ok ((false,()) = (true,()))))) (.ok ((false,()) =
  (true,())))) (.br z22 (.br z20 (.obl (BeF.bI M z8∧BeF.bI M z29) (.br (BeF.sameL M z8 z29) (.obl True (.br true (.ok ((true,()) = (true,()))) (.ok ((false,
  ()) = (true,()))))) (.ok ((false,()) = (true,()))))) (.br z21 (.obl (BeF.bI M z8∧BeF.bI M z29) (.br (BeF.sameL M z8 z29) (.obl True (.br true (.ok ((true,())
  = (true,()))) (.ok ((false,()) = (true,()))))) (.ok ((false,()) = (true,()))))) (.ok ((false,()) = (true,()))))) (.ok ((false,()) = (true,()))))) (.br z30
  (.br z23 (.br z20 (.obl (BeF.bI M z8∧BeF.bI M z29) (.br (BeF.sameL M z8 z29) (.obl True (.br true (.ok ((true,()) = (true,()))) (.ok ((false,()) = (true,
  ()))))) (.ok ((false,()) = (true,()))))) (.br z21 (.obl (BeF.bI M z8∧BeF.bI M z29) (.br (BeF.sameL M z8 z29) (.obl True (.br true (.ok ((true,()) = (true,
  ()))) (.ok ((false,()) = (true,()))))) (.ok ((false,()) = (true,()))))) (.ok ((false,()) = (true,()))))) (.ok ((false,()) = (true,())))) (.br z24 (.br z20
  (.obl (BeF.bI M z8∧BeF.bI M z29) (.br (BeF.sameL M z8 z29) (.obl True (.br true (.ok ((true,()) = (true,()))) (.ok ((false,()) = (true,()))))) (.ok ((false,
  ()) = (true,()))))) (.br z21 (.obl (BeF.bI M z8∧BeF.bI M z29) (.br (BeF.sameL M z8 z29) (.obl True (.br true (.ok ((true,()) = (true,()))) (.ok ((false,()) =
  (true,()))))) (.ok ((false,()) = (true,()))))) (.ok ((false,()) = (true,()))))) (.ok ((false,()) = (true,())))))) (.ok ((false,()) = (true,()))))) (.br z25
  (.obl (BeF.bI M z7∧BeF.bI M z27) (.br (BeF.sameL M z7 z27) (.br z20 (.br z30 (.br z19 (.br z20 (.obl (BeF.bI M z8∧BeF.bI M z29) (.br (BeF.sameL M z8 z29)
  (.obl True (.br true (.ok ((true,()) = (true,()))) (.ok ((false,()) = (true,()))))) (.ok ((false,()) = (true,()))))) (.br z21 (.obl (BeF.bI M z8∧BeF.bI M
  z29) (.br (BeF.sameL M z8 z29) (.obl True (.br true (.ok ((true,()) = (true,()))) (.ok ((false,()) = (true,()))))) (.ok ((false,()) = (true,()))))) (.ok
  ((false,()) = (true,()))))) (.ok ((false,()) = (true,())))) (.br z22 (.br z20 (.obl (BeF.bI M z8∧BeF.bI M z29) (.br (BeF.sameL M z8 z29) (.obl True (.br true
  (.ok ((true,()) = (true,()))) (.ok ((false,()) = (true,()))))) (.ok ((false,()) = (true,()))))) (.br z21 (.obl (BeF.bI M z8∧BeF.bI M z29) (.br (BeF.sameL M z8
  z29) (.obl True (.br true (.ok ((true,()) = (true,()))) (.ok ((false,()) = (true,()))))) (.ok ((false,()) = (true,()))))) (.ok ((false,()) = (true,())))))
  (.ok ((false,()) = (true,()))))) (.br z30 (.br z23 (.br z20 (.obl (BeF.bI M z8∧BeF.bI M z29) (.br (BeF.sameL M z8 z29) (.obl True (.br true (.ok ((true,())
  = (true,()))) (.ok ((false,()) = (true,()))))) (.ok ((false,()) = (true,()))))) (.br z21 (.obl (BeF.bI M z8∧BeF.bI M z29) (.br (BeF.sameL M z8 z29) (.obl True
  (.br true (.ok ((true,()) = (true,()))) (.ok ((false,()) = (true,()))))) (.ok ((false,()) = (true,()))))) (.ok ((false,()) = (true,()))))) (.ok ((false,()) =
  (true,())))) (.br z24 (.br z20 (.obl (BeF.bI M z8∧BeF.bI M z29) (.br (BeF.sameL M z8 z29) (.obl True (.br true (.ok ((true,()) = (true,()))) (.ok ((false,
  ()) = (true,()))))) (.ok ((false,()) = (true,()))))) (.br z21 (.obl (BeF.bI M z8∧BeF.bI M z29) (.br (BeF.sameL M z8 z29) (.obl True (.br true (.ok ((true,())
  = (true,()))) (.ok ((false,()) = (true,()))))) (.ok ((false,()) = (true,()))))) (.ok ((false,()) = (true,()))))) (.ok ((false,()) = (true,())))))) (.ok
  ((false,()) = (true,()))))) (.ok ((false,()) = (true,()))))) (.ok ((false,()) = (true,())))) (.br z24 (.br z18 (.obl (BeF.bI M z7∧BeF.bI M z27) (.br
  (BeF.sameL M z7 z27) (.br z20 (.br z30 (.br z19 (.br z20 (.obl (BeF.bI M z8∧BeF.bI M z29) (.br (BeF.sameL M z8 z29) (.obl True (.br true (.ok ((true,()) =
  (true,()))) (.ok ((false,()) = (true,()))))) (.ok ((false,()) = (true,()))))) (.br z21 (.obl (BeF.bI M z8∧BeF.bI M z29) (.br (BeF.sameL M z8 z29) (.obl True
  (.br true (.ok ((true,()) = (true,()))) (.ok ((false,()) = (true,()))))) (.ok ((false,()) = (true,()))))) (.ok ((false,()) = (true,()))))) (.ok ((false,()) =
  (true,())))) (.br z22 (.br z20 (.obl (BeF.bI M z8∧BeF.bI M z29) (.br (BeF.sameL M z8 z29) (.obl True (.br true (.ok ((true,()) = (true,()))) (.ok ((false,
  ()) = (true,()))))) (.ok ((false,()) = (true,()))))) (.br z21 (.obl (BeF.bI M z8∧BeF.bI M z29) (.br (BeF.sameL M z8 z29) (.obl True (.br true (.ok ((true,())
  = (true,()))) (.ok ((false,()) = (true,()))))) (.ok ((false,()) = (true,()))))) (.ok ((false,()) = (true,()))))) (.ok ((false,()) = (true,()))))) (.br z30
  (.br z23 (.br z20 (.obl (BeF.bI M z8∧BeF.bI M z29) (.br (BeF.sameL M z8 z29) (.obl True (.br true (.ok ((true,()) = (true,()))) (.ok ((false,()) = (true,
  ()))))) (.ok ((false,()) = (true,()))))) (.br z21 (.obl (BeF.bI M z8∧BeF.bI M z29) (.br (BeF.sameL M z8 z29) (.obl True (.br true (.ok ((true,()) = (true,
  ()))) (.ok ((false,()) = (true,()))))) (.ok ((false,()) = (true,()))))) (.ok ((false,()) = (true,()))))) (.ok ((false,()) = (true,())))) (.br z24 (.br z20
  (.obl (BeF.bI M z8∧BeF.bI M z29) (.br (BeF.sameL M z8 z29) (.obl True (.br true (.ok ((true,()) = (true,()))) (.ok ((false,()) = (true,()))))) (.ok ((false,
  ()) = (true,()))))) (.br z21 (.obl (BeF.bI M z8∧BeF.bI M z29) (.br (BeF.sameL M z8 z29) (.obl True (.br true (.ok ((true,()) = (true,()))) (.ok ((false,()) =
  (true,()))))) (.ok ((false,()) = (true,()))))) (.ok ((false,()) = (true,()))))) (.ok ((false,()) = (true,())))))) (.ok ((false,()) = (true,()))))) (.br z25
  (.obl (BeF.bI M z7∧BeF.bI M z27) (.br (BeF.sameL M z7 z27) (.br z20 (.br z30 (.br z19 (.br z20 (.obl (BeF.bI M z8∧BeF.bI M z29) (.br (BeF.sameL M z8 z29)
  (.obl True (.br true (.ok ((true,()) = (true,()))) (.ok ((false,()) = (true,()))))) (.ok ((false,()) = (true,()))))) (.br z21 (.obl (BeF.bI M z8∧BeF.bI M
  z29) (.br (BeF.sameL M z8 z29) (.obl True (.br true (.ok ((true,()) = (true,()))) (.ok ((false,()) = (true,()))))) (.ok ((false,()) = (true,()))))) (.ok
  ((false,()) = (true,()))))) (.ok ((false,()) = (true,())))) (.br z22 (.br z20 (.obl (BeF.bI M z8∧BeF.bI M z29) (.br (BeF.sameL M z8 z29) (.obl True (.br true
  (.ok ((true,()) = (true,()))) (.ok ((false,()) = (true,()))))) (.ok ((false,()) = (true,()))))) (.br z21 (.obl (BeF.bI M z8∧BeF.bI M z29) (.br (BeF.sameL M z8
  z29) (.obl True (.br true (.ok ((true,()) = (true,()))) (.ok ((false,()) = (true,()))))) (.ok ((false,()) = (true,()))))) (.ok ((false,()) = (true,())))))
  (.ok ((false,()) = (true,()))))) (.br z30 (.br z23 (.br z20 (.obl (BeF.bI M z8∧BeF.bI M z29) (.br (BeF.sameL M z8 z29) (.obl True (.br true (.ok ((true,())
  = (true,()))) (.ok ((false,()) = (true,()))))) (.ok ((false,()) = (true,()))))) (.br z21 (.obl (BeF.bI M z8∧BeF.bI M z29) (.br (BeF.sameL M z8 z29) (.obl True
  (.br true (.ok ((true,()) = (true,()))) (.ok ((false,()) = (true,()))))) (.ok ((false,()) = (true,()))))) (.ok ((false,()) = (true,()))))) (.ok ((false,()) =
  (true,())))) (.br z24 (.br z20 (.obl (BeF.bI M z8∧BeF.bI M z29) (.br (BeF.sameL M z8 z29) (.obl True (.br true (.ok ((true,()) = (true,()))) (.ok ((false,
  ()) = (true,()))))) (.ok ((false,()) = (true,()))))) (.br z21 (.obl (BeF.bI M z8∧BeF.bI M z29) (.br (BeF.sameL M z8 z29) (.obl True (.br true (.ok ((true,())
  = (true,()))) (.ok ((false,()) = (true,()))))) (.ok ((false,()) = (true,()))))) (.ok ((false,()) = (true,()))))) (.ok ((false,()) = (true,())))))) (.ok
  ((false,()) = (true,()))))) (.ok ((false,()) = (true,()))))) (.ok ((false,()) = (true,())))))))) (.all Bool fun (v5:Bool)=>.br v5 (.ok (St.mk 118 [(3,V.c
  (C.ptr 1 0)),(7,V.c (C.sl In z7)),(8,V.c (C.int .i64 z5)),(9,V.c (C.sl In z8)),(10,V.c (C.int .i64 z6)),(12,V.c (C.sl In z27)),(13,V.c (C.sl In z10))]
  [(0,Ob.amb),(1,Ob.box 28 [C.int .i64 z11,C.int .i64 z12,C.sym z13,C.sl It z9,C.sl (Ty.sl It) z14])] 4 = St.mk 118 [(3,V.c (C.ptr 1 0)),(7,V.c (C.sl In
  z7)),(8,V.c (C.int .i64 z5)),(9,V.c (C.sl In z8)),(10,V.c (C.int .i64 z6)),(12,V.c (C.sl In z27)),(13,V.c (C.sl In z10))] [(0,Ob.amb),(1,Ob.box 28
  [C.int .i64 z11,C.int .i64 z12,C.sym z13,C.sl It z9,C.sl (Ty.sl It) z14])] 4∧I2 z26)) (.all z16 fun (v6:List (Int × Int × Int × Int × Int × Int) × Unit)
  =>
 let z31:=v6.1;
 let z32:=L.cmp .gtr (L.cast (L.llen In z31)) 0; .imp (I2 v6) (.br z18 (.br z28 (.br z19 (.br z18 (.obl (BeF.bI M z7∧BeF.bI M z27) (.br (BeF.sameL M
  z7 z27) (.br z20 (.br z32 (.br z19 (.br z20 (.obl (BeF.bI M z8∧BeF.bI M z31) (.br (BeF.sameL M z8 z31) (.obl True (.br true (.ok ((true,()) = (true,())))
  (.ok ((false,()) = (true,()))))) (.ok ((false,()) = (true,()))))) (.br z21 (.obl (BeF.bI M z8∧BeF.bI M z31) (.br (BeF.sameL M z8 z31) (.obl True (.br true
  (.ok ((true,()) = (true,()))) (.ok ((false,()) = (true,()))))) (.ok ((false,()) = (true,()))))) (.ok ((false,()) = (true,()))))) (.ok ((false,()) = (true,
  ())))) (.br z22 (.br z20 (.obl (BeF.bI M z8∧BeF.bI M z31) (.br (BeF.sameL M z8 z31) (.obl True (.br true (.ok ((true,()) = (true,()))) (.ok ((false,()) =
  (true,()))))) (.ok ((false,()) = (true,()))))) (.br z21 (.obl (BeF.bI M z8∧BeF.bI M z31) (.br (BeF.sameL M z8 z31) (.obl True (.br true (.ok ((true,()) =
  (true,()))) (.ok ((false,()) = (true,()))))) (.ok ((false,()) = (true,()))))) (.ok ((false,()) = (true,()))))) (.ok ((false,()) = (true,()))))) (.br z32 (.br
  z23 (.br z20 (.obl (BeF.bI M z8∧BeF.bI M z31) (.br (BeF.sameL M z8 z31) (.obl True (.br true (.ok ((true,()) = (true,()))) (.ok ((false,()) = (true,())))))
  (.ok ((false,()) = (true,()))))) (.br z21 (.obl (BeF.bI M z8∧BeF.bI M z31) (.br (BeF.sameL M z8 z31) (.obl True (.br true (.ok ((true,()) = (true,()))) (.ok
  ((false,()) = (true,()))))) (.ok ((false,()) = (true,()))))) (.ok ((false,()) = (true,()))))) (.ok ((false,()) = (true,())))) (.br z24 (.br z20 (.obl (BeF.bI
  M z8∧BeF.bI M z31) (.br (BeF.sameL M z8 z31) (.obl True (.br true (.ok ((true,()) = (true,()))) (.ok ((false,()) = (true,()))))) (.ok ((false,()) = (true,
  ()))))) (.br z21 (.obl (BeF.bI M z8∧BeF.bI M z31) (.br (BeF.sameL M z8 z31) (.obl True (.br true (.ok ((true,()) = (true,()))) (.ok ((false,()) = (true,
  ()))))) (.ok ((false,()) = (true,()))))) (.ok ((false,()) = (true,()))))) (.ok ((false,()) = (true,())))))) (.ok ((false,()) = (true,()))))) (.br z25 (.obl
  (BeF.bI M z7∧BeF.bI M z27) (.br (BeF.sameL M z7 z27) (.br z20 (.br z32 (.br z19 (.br z20 (.obl (BeF.bI M z8∧BeF.bI M z31) (.br (BeF.sameL M z8 z31) (.obl True
  (.br true (.ok ((true,()) = (true,()))) (.ok ((false,()) = (true,()))))) (.ok ((false,()) = (true,()))))) (.br z21 (.obl (BeF.bI M z8∧BeF.bI M z31) (.br
  (BeF.sameL M z8 z31) (.obl True (.br true (.ok ((true,()) = (true,()))) (.ok ((false,()) = (true,()))))) (.ok ((false,()) = (true,()))))) (.ok ((false,()) =
  (true,()))))) (.ok ((false,()) = (true,())))) (.br z22 (.br z20 (.obl (BeF.bI M z8∧BeF.bI M z31) (.br (BeF.sameL M z8 z31) (.obl True (.br true (.ok ((true,
  ()) = (true,()))) (.ok ((false,()) = (true,()))))) (.ok ((false,()) = (true,()))))) (.br z21 (.obl (BeF.bI M z8∧BeF.bI M z31) (.br (BeF.sameL M z8 z31) (.obl
  True (.br true (.ok ((true,()) = (true,()))) (.ok ((false,()) = (true,()))))) (.ok ((false,()) = (true,()))))) (.ok ((false,()) = (true,()))))) (.ok ((false,
  ()) = (true,()))))) (.br z32 (.br z23 (.br z20 (.obl (BeF.bI M z8∧BeF.bI M z31) (.br (BeF.sameL M z8 z31) (.obl True (.br true (.ok ((true,()) = (true,())))
  (.ok ((false,()) = (true,()))))) (.ok ((false,()) = (true,()))))) (.br z21 (.obl (BeF.bI M z8∧BeF.bI M z31) (.br (BeF.sameL M z8 z31) (.obl True (.br true
  (.ok ((true,()) = (true,()))) (.ok ((false,()) = (true,()))))) (.ok ((false,()) = (true,()))))) (.ok ((false,()) = (true,()))))) (.ok ((false,()) = (true,
  ())))) (.br z24 (.br z20 (.obl (BeF.bI M z8∧BeF.bI M z31) (.br (BeF.sameL M z8 z31) (.obl True (.br true (.ok ((true,()) = (true,()))) (.ok ((false,()) =
  (true,()))))) (.ok ((false,()) = (true,()))))) (.br z21 (.obl (BeF.bI M z8∧BeF.bI M z31) (.br (BeF.sameL M z8 z31) (.obl True (.br true (.ok ((true,()) =
  (true,()))) (.ok ((false,()) = (true,()))))) (.ok ((false,()) = (true,()))))) (.ok ((false,()) = (true,()))))) (.ok ((false,()) = (true,())))))) (.ok ((false,
  ()) = (true,()))))) (.ok ((false,()) = (true,()))))) (.ok ((false,()) = (true,())))) (.br z22 (.br z18 (.obl (BeF.bI M z7∧BeF.bI M z27) (.br (BeF.sameL M z7
  z27) (.br z20 (.br z32 (.br z19 (.br z20 (.obl (BeF.bI M z8∧BeF.bI M z31) (.br (BeF.sameL M z8 z31) (.obl True (.br true (.ok ((true,()) = (true,())))
  (.ok ((false,()) = (true,()))))) (.ok ((false,()) = (true,()))))) (.br z21 (.obl (BeF.bI M z8∧BeF.bI M z31) (.br (BeF.sameL M z8 z31) (.obl True (.br true
  (.ok ((true,()) = (true,()))) (.ok ((false,()) = (true,()))))) (.ok ((false,()) = (true,()))))) (.ok ((false,()) = (true,()))))) (.ok ((false,()) = (true,
  ())))) (.br z22 (.br z20 (.obl (BeF.bI M z8∧BeF.bI M z31) (.br (BeF.sameL M z8 z31) (.obl True (.br true (.ok ((true,()) = (true,()))) (.ok ((false,()) =
  (true,()))))) (.ok ((false,()) = (true,()))))) (.br z21 (.obl (BeF.bI M z8∧BeF.bI M z31) (.br (BeF.sameL M z8 z31) (.obl True (.br true (.ok ((true,()) =
  (true,()))) (.ok ((false,()) = (true,()))))) (.ok ((false,()) = (true,()))))) (.ok ((false,()) = (true,()))))) (.ok ((false,()) = (true,()))))) (.br z32 (.br
  z23 (.br z20 (.obl (BeF.bI M z8∧BeF.bI M z31) (.br (BeF.sameL M z8 z31) (.obl True (.br true (.ok ((true,()) = (true,()))) (.ok ((false,()) = (true,())))))
  (.ok ((false,()) = (true,()))))) (.br z21 (.obl (BeF.bI M z8∧BeF.bI M z31) (.br (BeF.sameL M z8 z31) (.obl True (.br true (.ok ((true,()) = (true,()))) (.ok
  ((false,()) = (true,()))))) (.ok ((false,()) = (true,()))))) (.ok ((false,()) = (true,()))))) (.ok ((false,()) = (true,())))) (.br z24 (.br z20 (.obl (BeF.bI
  M z8∧BeF.bI M z31) (.br (BeF.sameL M z8 z31) (.obl True (.br true (.ok ((true,()) = (true,()))) (.ok ((false,()) = (true,()))))) (.ok ((false,()) = (true,
  ()))))) (.br z21 (.obl (BeF.bI M z8∧BeF.bI M z31) (.br (BeF.sameL M z8 z31) (.obl True (.br true (.ok ((true,()) = (true,()))) (.ok ((false,()) = (true,
  ()))))) (.ok ((false,()) = (true,()))))) (.ok ((false,()) = (true,()))))) (.ok ((false,()) = (true,())))))) (.ok ((false,()) = (true,()))))) (.br z25 (.obl
  (BeF.bI M z7∧BeF.bI M z27) (.br (BeF.sameL M z7 z27) (.br z20 (.br z32 (.br z19 (.br z20 (.obl (BeF.bI M z8∧BeF.bI M z31) (.br (BeF.sameL M z8 z31) (.obl True
  (.br true (.ok ((true,()) = (true,()))) (.ok ((false,()) = (true,()))))) (.ok ((false,()) = (true,()))))) (.br z21 (.obl (BeF.bI M z8∧BeF.bI M z31) (.br
  (BeF.sameL M z8 z31) (.obl True (.br true (.ok ((true,()) = (true,()))) (.ok ((false,()) = (true,()))))) (.ok ((false,()) = (true,()))))) (.ok ((false,()) =
  (true,()))))) (.ok ((false,()) = (true,())))) (.br z22 (.br z20 (.obl (BeF.bI M z8∧BeF.bI M z31) (.br (BeF.sameL M z8 z31) (.obl True (.br true (.ok ((true,
  ()) = (true,()))) (.ok ((false,()) = (true,()))))) (.ok ((false,()) = (true,()))))) (.br z21 (.obl (BeF.bI M z8∧BeF.bI M z31) (.br (BeF.sameL M z8 z31) (.obl
  True (.br true (.ok ((true,()) = (true,()))) (.ok ((false,()) = (true,()))))) (.ok ((false,()) = (true,()))))) (.ok ((false,()) = (true,()))))) (.ok ((false,
  ()) = (true,()))))) (.br z32 (.br z23 (.br z20 (.obl (BeF.bI M z8∧BeF.bI M z31) (.br (BeF.sameL M z8 z31) (.obl True (.br true (.ok ((true,()) = (true,())))
  (.ok ((false,()) = (true,()))))) (.ok ((false,()) = (true,()))))) (.br z21 (.obl (BeF.bI M z8∧BeF.bI M z31) (.br (BeF.sameL M z8 z31) (.obl True (.br true
  (.ok ((true,()) = (true,()))) (.ok ((false,()) = (true,()))))) (.ok ((false,()) = (true,()))))) (.ok ((false,()) = (true,()))))) (.ok ((false,()) = (true,
  ())))) (.br z24 (.br z20 (.obl (BeF.bI M z8∧BeF.bI M z31) (.br (BeF.sameL M z8 z31) (.obl True (.br true (.ok ((true,()) = (true,()))) (.ok ((false,()) =
  (true,()))))) (.ok ((false,()) = (true,()))))) (.br z21 (.obl (BeF.bI M z8∧BeF.bI M z31) (.br (BeF.sameL M z8 z31) (.obl True (.br true (.ok ((true,()) =
  (true,()))) (.ok ((false,()) = (true,()))))) (.ok ((false,()) = (true,()))))) (.ok ((false,()) = (true,()))))) (.ok ((false,()) = (true,())))))) (.ok ((false,
  ()) = (true,()))))) (.ok ((false,()) = (true,()))))) (.ok ((false,()) = (true,()))))) (.br z28 (.br z23 (.br z18 (.obl (BeF.bI M z7∧BeF.bI M z27) (.br
  (BeF.sameL M z7 z27) (.br z20 (.br z32 (.br z19 (.br z20 (.obl (BeF.bI M z8∧BeF.bI M z31) (.br (BeF.sameL M z8 z31) (.obl True (.br true (.ok ((true,()) =
  (true,()))) (.ok ((false,()) = (true,()))))) (.ok ((false,()) = (true,()))))) (.br z21 (.obl (BeF.bI M z8∧BeF.bI M z31) (.br (BeF.sameL M z8 z31) (.obl True
  (.br true (.ok ((true,()) = (true,()))) (.ok ((false,()) = (true,()))))) (.ok ((false,()) = (true,()))))) (.ok ((false,()) = (true,()))))) (.ok ((false,()) =
  (true,())))) (.br z22 (.br z20 (.obl (BeF.bI M z8∧BeF.bI M z31) (.br (BeF.sameL M z8 z31) (.obl True (.br true (.ok ((true,()) = (true,()))) (.ok ((false,
  ()) = (true,()))))) (.ok ((false,()) = (true,()))))) (.br z21 (.obl (BeF.bI M z8∧BeF.bI M z31) (.br (BeF.sameL M z8 z31) (.obl True (.br true (.ok ((true,())
  = (true,()))) (.ok ((false,()) = (true,()))))) (.ok ((false,()) = (true,()))))) (.ok ((false,()) = (true,()))))) (.ok ((false,()) = (true,()))))) (.br z32
  (.br z23 (.br z20 (.obl (BeF.bI M z8∧BeF.bI M z31) (.br (BeF.sameL M z8 z31) (.obl True (.br true (.ok ((true,()) = (true,()))) (.ok ((false,()) = (true,
  ()))))) (.ok ((false,()) = (true,()))))) (.br z21 (.obl (BeF.bI M z8∧BeF.bI M z31) (.br (BeF.sameL M z8 z31) (.obl True (.br true (.ok ((true,()) = (true,
  ()))) (.ok ((false,()) = (true,()))))) (.ok ((false,()) = (true,()))))) (.ok ((false,()) = (true,()))))) (.ok ((false,()) = (true,())))) (.br z24 (.br z20
  (.obl (BeF.bI M z8∧BeF.bI M z31) (.br (BeF.sameL M z8 z31) (.obl True (.br true (.ok ((true,()) = (true,()))) (.ok ((false,()) = (true,()))))) (.ok ((false,
  ()) = (true,()))))) (.br z21 (.obl (BeF.bI M z8∧BeF.bI M z31) (.br (BeF.sameL M z8 z31) (.obl True (.br true (.ok ((true,()) = (true,()))) (.ok ((false,()) =
  (true,()))))) (.ok ((false,()) = (true,()))))) (.ok ((false,()) = (true,()))))) (.ok ((false,()) = (true,())))))) (.ok ((false,()) = (true,()))))) (.br z25
  (.obl (BeF.bI M z7∧BeF.bI M z27) (.br (BeF.sameL M z7 z27) (.br z20 (.br z32 (.br z19 (.br z20 (.obl (BeF.bI M z8∧BeF.bI M z31) (.br (BeF.sameL M z8 z31)
  (.obl True (.br true (.ok ((true,()) = (true,()))) (.ok ((false,()) = (true,()))))) (.ok ((false,()) = (true,()))))) (.br z21 (.obl (BeF.bI M z8∧BeF.bI M
  z31) (.br (BeF.sameL M z8 z31) (.obl True (.br true (.ok ((true,()) = (true,()))) (.ok ((false,()) = (true,()))))) (.ok ((false,()) = (true,()))))) (.ok
  ((false,()) = (true,()))))) (.ok ((false,()) = (true,())))) (.br z22 (.br z20 (.obl (BeF.bI M z8∧BeF.bI M z31) (.br (BeF.sameL M z8 z31) (.obl True (.br true
  (.ok ((true,()) = (true,()))) (.ok ((false,()) = (true,()))))) (.ok ((false,()) = (true,()))))) (.br z21 (.obl (BeF.bI M z8∧BeF.bI M z31) (.br (BeF.sameL M z8
  z31) (.obl True (.br true (.ok ((true,()) = (true,()))) (.ok ((false,()) = (true,()))))) (.ok ((false,()) = (true,()))))) (.ok ((false,()) = (true,())))))
  (.ok ((false,()) = (true,()))))) (.br z32 (.br z23 (.br z20 (.obl (BeF.bI M z8∧BeF.bI M z31) (.br (BeF.sameL M z8 z31) (.obl True (.br true (.ok ((true,())
  = (true,()))) (.ok ((false,()) = (true,()))))) (.ok ((false,()) = (true,()))))) (.br z21 (.obl (BeF.bI M z8∧BeF.bI M z31) (.br (BeF.sameL M z8 z31) (.obl True
  (.br true (.ok ((true,()) = (true,()))) (.ok ((false,()) = (true,()))))) (.ok ((false,()) = (true,()))))) (.ok ((false,()) = (true,()))))) (.ok ((false,()) =
  (true,())))) (.br z24 (.br z20 (.obl (BeF.bI M z8∧BeF.bI M z31) (.br (BeF.sameL M z8 z31) (.obl True (.br true (.ok ((true,()) = (true,()))) (.ok ((false,
  ()) = (true,()))))) (.ok ((false,()) = (true,()))))) (.br z21 (.obl (BeF.bI M z8∧BeF.bI M z31) (.br (BeF.sameL M z8 z31) (.obl True (.br true (.ok ((true,())
  = (true,()))) (.ok ((false,()) = (true,()))))) (.ok ((false,()) = (true,()))))) (.ok ((false,()) = (true,()))))) (.ok ((false,()) = (true,())))))) (.ok
  ((false,()) = (true,()))))) (.ok ((false,()) = (true,()))))) (.ok ((false,()) = (true,())))) (.br z24 (.br z18 (.obl (BeF.bI M z7∧BeF.bI M z27) (.br
  (BeF.sameL M z7 z27) (.br z20 (.br z32 (.br z19 (.br z20 (.obl (BeF.bI M z8∧BeF.bI M z31) (.br (BeF.sameL M z8 z31) (.obl True (.br true (.ok ((true,()) =
  (true,()))) (.ok ((false,()) = (true,()))))) (.ok ((false,()) = (true,()))))) (.br z21 (.obl (BeF.bI M z8∧BeF.bI M z31) (.br (BeF.sameL M z8 z31) (.obl True
  (.br true (.ok ((true,()) = (true,()))) (.ok ((false,()) = (true,()))))) (.ok ((false,()) = (true,()))))) (.ok ((false,()) = (true,()))))) (.ok ((false,()) =
  (true,())))) (.br z22 (.br z20 (.obl (BeF.bI M z8∧BeF.bI M z31) (.br (BeF.sameL M z8 z31) (.obl True (.br true (.ok ((true,()) = (true,()))) (.ok ((false,
  ()) = (true,()))))) (.ok ((false,()) = (true,()))))) (.br z21 (.obl (BeF.bI M z8∧BeF.bI M z31) (.br (BeF.sameL M z8 z31) (.obl True (.br true (.ok ((true,())
  = (true,()))) (.ok ((false,()) = (true,()))))) (.ok ((false,()) = (true,()))))) (.ok ((false,()) = (true,()))))) (.ok ((false,()) = (true,()))))) (.br z32
  (.br z23 (.br z20 (.obl (BeF.bI M z8∧BeF.bI M z31) (.br (BeF.sameL M z8 z31) (.obl True (.br true (.ok ((true,()) = (true,()))) (.ok ((false,()) = (true,
  ()))))) (.ok ((false,()) = (true,()))))) (.br z21 (.obl (BeF.bI M z8∧BeF.bI M z31) (.br (BeF.sameL M z8 z31) (.obl True (.br true (.ok ((true,()) = (true,
  ()))) (.ok ((false,()) = (true,()))))) (.ok ((false,()) = (true,()))))) (.ok ((false,()) = (true,()))))) (.ok ((false,()) = (true,())))) (.br z24 (.br z20
  (.obl (BeF.bI M z8∧BeF.bI M z31) (.br (BeF.sameL M z8 z31) (.obl True (.br true (.ok ((true,()) = (true,()))) (.ok ((false,()) = (true,()))))) (.ok ((false,
  ()) = (true,()))))) (.br z21 (.obl (BeF.bI M z8∧BeF.bI M z31) (.br (BeF.sameL M z8 z31) (.obl True (.br true (.ok ((true,()) = (true,()))) (.ok ((false,()) =
  (true,()))))) (.ok ((false,()) = (true,()))))) (.ok ((false,()) = (true,()))))) (.ok ((false,()) = (true,())))))) (.ok ((false,()) = (true,()))))) (.br z25
  (.obl (BeF.bI M z7∧BeF.bI M z27) (.br (BeF.sameL M z7 z27) (.br z20 (.br z32 (.br z19 (.br z20 (.obl (BeF.bI M z8∧BeF.bI M z31) (.br (BeF.sameL M z8 z31)
  (.obl True (.br true (.ok ((true,()) = (true,()))) (.ok ((false,()) = (true,()))))) (.ok ((false,()) = (true,()))))) (.br z21 (.obl (BeF.bI M z8∧BeF.bI M
  z31) (.br (BeF.sameL M z8 z31) (.obl True (.br true (.ok ((true,()) = (true,()))) (.ok ((false,()) = (true,()))))) (.ok ((false,()) = (true,()))))) (.ok
  ((false,()) = (true,()))))) (.ok ((false,()) = (true,())))) (.br z22 (.br z20 (.obl (BeF.bI M z8∧BeF.bI M z31) (.br (BeF.sameL M z8 z31) (.obl True (.br true
  (.ok ((true,()) = (true,()))) (.ok ((false,()) = (true,()))))) (.ok ((false,()) = (true,()))))) (.br z21 (.obl (BeF.bI M z8∧BeF.bI M z31) (.br (BeF.sameL M z8
  z31) (.obl True (.br true (.ok ((true,()) = (true,()))) (.ok ((false,()) = (true,()))))) (.ok ((false,()) = (true,()))))) (.ok ((false,()) = (true,())))))
  (.ok ((false,()) = (true,()))))) (.br z32 (.br z23 (.br z20 (.obl (BeF.bI M z8∧BeF.bI M z31) (.br (BeF.sameL M z8 z31) (.obl True (.br true (.ok ((true,())
  = (true,()))) (.ok ((false,()) = (true,()))))) (.ok ((false,()) = (true,()))))) (.br z21 (.obl (BeF.bI M z8∧BeF.bI M z31) (.br (BeF.sameL M z8 z31) (.obl True
  (.br true (.ok ((true,()) = (true,()))) (.ok ((false,()) = (true,()))))) (.ok ((false,()) = (true,()))))) (.ok ((false,()) = (true,()))))) (.ok ((false,()) =
  (true,())))) (.br z24 (.br z20 (.obl (BeF.bI M z8∧BeF.bI M z31) (.br (BeF.sameL M z8 z31) (.obl True (.br true (.ok ((true,()) = (true,()))) (.ok ((false,
  ()) = (true,()))))) (.ok ((false,()) = (true,()))))) (.br z21 (.obl (BeF.bI M z8∧BeF.bI M z31) (.br (BeF.sameL M z8 z31) (.obl True (.br true (.ok ((true,())
  = (true,()))) (.ok ((false,()) = (true,()))))) (.ok ((false,()) = (true,()))))) (.ok ((false,()) = (true,()))))) (.ok ((false,()) = (true,())))))) (.ok
  ((false,()) = (true,()))))) (.ok ((false,()) = (true,()))))) (.ok ((false,()) = (true,())))))))))))) (.all Bool fun (v7:Bool)=>.br v7 (.ok (St.mk 118 [(1,V.c
  (C.int .i64 i)),(2,V.c (C.int .i64 k)),(3,V.c (C.ptr 1 0)),(7,V.c (C.sl In z7)),(8,V.c (C.int .i64 z5)),(9,V.c (C.sl In z8)),(10,V.c (C.int
  .i64 z6)),(12,V.c (C.sl In z10)),(13,V.c (C.sl In z10))] [(0,Ob.amb),(1,Ob.box 28 [C.int .i64 z11,C.int .i64 z12,C.sym z13,C.sl It z9,C.sl (Ty.sl
  It) z14])] 4 = St.mk 118 [(1,V.c (C.int .i64 i)),(2,V.c (C.int .i64 k)),(3,V.c (C.ptr 1 0)),(7,V.c (C.sl In z7)),(8,V.c (C.int .i64 z5)),(9,V.c
  (C.sl In z8)),(10,V.c (C.int .i64 z6)),(12,V.c (C.sl In z10)),(13,V.c (C.sl In z10))] [(0,Ob.amb),(1,Ob.box 28 [C.int .i64 z11,C.int .i64 z12,
  C.sym z13,C.sl It z9,C.sl (Ty.sl It) z14])] 4∧I z26)) (.all z16 fun (v8:List (Int × Int × Int × Int × Int × Int) × Unit) =>
 let z33:=v8.1;
 let z34:=L.cmp .gtr (L.cast (L.llen In z33)) 0; .imp (I v8) (.obl True (.br z17 (.all Bool fun (v9:Bool)=>.br v9 (.obl (BeF.pWr M z4 k) (.ok
  (St.mk 118 [(3,V.c (C.ptr 1 0)),(7,V.c (C.sl In z7)),(8,V.c (C.int .i64 z5)),(9,V.c (C.sl In z8)),(10,V.c (C.int .i64 z6)),(12,V.c (C.sl In z33)),(13,
  V.c (C.sl In (BeF.wrt M z4 k)))] [(0,Ob.amb),(1,Ob.box 28 [C.int .i64 z11,C.int .i64 z12,C.sym z13,C.sl It z9,C.sl (Ty.sl It) z14])] 4 = St.mk 118 [(3,V.c
  (C.ptr 1 0)),(7,V.c (C.sl In z7)),(8,V.c (C.int .i64 z5)),(9,V.c (C.sl In z8)),(10,V.c (C.int .i64 z6)),(12,V.c (C.sl In z33)),(13,V.c (C.sl In (BeF.wrt
  M z4 k)))] [(0,Ob.amb),(1,Ob.box 28 [C.int .i64 z11,C.int .i64 z12,C.sym z13,C.sl It z9,C.sl (Ty.sl It) z14])] 4∧I2 (BeF.wrt M z4 k,())))) (.all z16 fun
  (v10:List (Int × Int × Int × Int × Int × Int) × Unit) =>
 let z35:=v10.1;
 let z36:=L.cmp .gtr (L.cast (L.llen In z35)) 0; .imp (I2 v10) (.br z18 (.br z34 (.br z19 (.br z18 (.obl (BeF.bI M z7∧BeF.bI M z33) (.br (BeF.sameL M
  z7 z33) (.br z20 (.br z36 (.br z19 (.br z20 (.obl (BeF.bI M z8∧BeF.bI M z35) (.br (BeF.sameL M z8 z35) (.obl True (.br true (.ok ((true,()) = (true,())))
  (.ok ((false,()) = (true,()))))) (.ok ((false,()) = (true,()))))) (.br z21 (.obl (BeF.bI M z8∧BeF.bI M z35) (.br (BeF.sameL M z8 z35) (.obl True (.br true
  (.ok ((true,()) = (true,()))) (.ok ((false,()) = (true,()))))) (.ok ((false,()) = (true,()))))) (.ok ((false,()) = (true,()))))) (.ok ((false,()) = (true,
  ())))) (.br z22 (.br z20 (.obl (BeF.bI M z8∧BeF.bI M z35) (.br (BeF.sameL M z8 z35) (.obl True (.br true (.ok ((true,()) = (true,()))) (.ok ((false,()) =
  (true,()))))) (.ok ((false,()) = (true,()))))) (.br z21 (.obl (BeF.bI M z8∧BeF.bI M z35) (.br (BeF.sameL M z8 z35) (.obl True (.br true (.ok ((true,()) =
  (true,()))) (.ok ((false,()) = (true,()))))) (.ok ((false,()) = (true,()))))) (.ok ((false,()) = (true,()))))) (.ok ((false,()) = (true,()))))) (.br z36 (.br
  z23 (.br z20 (.obl (BeF.bI M z8∧BeF.bI M z35) (.br (BeF.sameL M z8 z35) (.obl True (.br true (.ok ((true,()) = (true,()))) (.ok ((false,()) = (true,())))))
  (.ok ((false,()) = (true,()))))) (.br z21 (.obl (BeF.bI M z8∧BeF.bI M z35) (.br (BeF.sameL M z8 z35) (.obl True (.br true (.ok ((true,()) = (true,()))) (.ok
  ((false,()) = (true,()))))) (.ok ((false,()) = (true,()))))) (.ok ((false,()) = (true,()))))) (.ok ((false,()) = (true,())))) (.br z24 (.br z20 (.obl (BeF.bI
  M z8∧BeF.bI M z35) (.br (BeF.sameL M z8 z35) (.obl True (.br true (.ok ((true,()) = (true,()))) (.ok ((false,()) = (true,()))))) (.ok ((false,()) = (true,
  ()))))) (.br z21 (.obl (BeF.bI M z8∧BeF.bI M z35) (.br (BeF.sameL M z8 z35) (.obl True (.br true (.ok ((true,()) = (true,()))) (.ok ((false,()) = (true,
  ()))))) (.ok ((false,()) = (true,()))))) (.ok ((false,()) = (true,()))))) (.ok ((false,()) = (true,())))))) (.ok ((false,()) = (true,()))))) (.br z25 (.obl
  (BeF.bI M z7∧BeF.bI M z33) (.br (BeF.sameL M z7 z33) (.br z20 (.br z36 (.br z19 (.br z20 (.obl (BeF.bI M z8∧BeF.bI M z35) (.br (BeF.sameL M z8 z35) (.obl True
  (.br true (.ok ((true,()) = (true,()))) (.ok ((false,()) = (true,()))))) (.ok ((false,()) = (true,()))))) (.br z21 (.obl (BeF.bI M z8∧BeF.bI M z35) (.br
  (BeF.sameL M z8 z35) (.obl True (.br true (.ok ((true,()) = (true,()))) (.ok ((false,()) = (true,()))))) (.ok ((false,()) = (true,()))))) (.ok ((false,()) =
  (true,()))))) (.ok ((false,()) = (true,())))) (.br z22 (.br z20 (.obl (BeF.bI M z8∧BeF.bI M z35) (.br (BeF.sameL M z8 z35) (.obl True (.br true (.ok ((true,
  ()) = (true,()))) (.ok ((false,()) = (true,()))))) (.ok ((false,()) = (true,()))))) (.br z21 (.obl (BeF.bI M z8∧BeF.bI M z35) (.br (BeF.sameL M z8 z35) (.obl
  True (.br true (.ok ((true,()) = (true,()))) (.ok ((false,()) = (true,()))))) (.ok ((false,()) = (true,()))))) (.ok ((false,()) = (true,()))))) (.ok ((false,
  ()) = (true,()))))) (.br z36 (.br z23 (.br z20 (.obl (BeF.bI M z8∧BeF.bI M z35) (.br (BeF.sameL M z8 z35) (.obl True (.br true (.ok ((true,()) = (true,())))
  (.ok ((false,()) = (true,()))))) (.ok ((false,()) = (true,()))))) (.br z21 (.obl (BeF.bI M z8∧BeF.bI M z35) (.br (BeF.sameL M z8 z35) (.obl True (.br true
  (.ok ((true,()) = (true,()))) (.ok ((false,()) = (true,()))))) (.ok ((false,()) = (true,()))))) (.ok ((false,()) = (true,()))))) (.ok ((false,()) = (true,
  ())))) (.br z24 (.br z20 (.obl (BeF.bI M z8∧BeF.bI M z35) (.br (BeF.sameL M z8 z35) (.obl True (.br true (.ok ((true,()) = (true,()))) (.ok ((false,()) =
  (true,()))))) (.ok ((false,()) = (true,()))))) (.br z21 (.obl (BeF.bI M z8∧BeF.bI M z35) (.br (BeF.sameL M z8 z35) (.obl True (.br true (.ok ((true,()) =
  (true,()))) (.ok ((false,()) = (true,()))))) (.ok ((false,()) = (true,()))))) (.ok ((false,()) = (true,()))))) (.ok ((false,()) = (true,())))))) (.ok ((false,
  ()) = (true,()))))) (.ok ((false,()) = (true,()))))) (.ok ((false,()) = (true,())))) (.br z22 (.br z18 (.obl (BeF.bI M z7∧BeF.bI M z33) (.br (BeF.sameL M z7
  z33) (.br z20 (.br z36 (.br z19 (.br z20 (.obl (BeF.bI M z8∧BeF.bI M z35) (.br (BeF.sameL M z8 z35) (.obl True (.br true (.ok ((true,()) = (true,())))
  (.ok ((false,()) = (true,()))))) (.ok ((false,()) = (true,()))))) (.br z21 (.obl (BeF.bI M z8∧BeF.bI M z35) (.br (BeF.sameL M z8 z35) (.obl True (.br true
  (.ok ((true,()) = (true,()))) (.ok ((false,()) = (true,()))))) (.ok ((false,()) = (true,()))))) (.ok ((false,()) = (true,()))))) (.ok ((false,()) = (true,
  ())))) (.br z22 (.br z20 (.obl (BeF.bI M z8∧BeF.bI M z35) (.br (BeF.sameL M z8 z35) (.obl True (.br true (.ok ((true,()) = (true,()))) (.ok ((false,()) =
  (true,()))))) (.ok ((false,()) = (true,()))))) (.br z21 (.obl (BeF.bI M z8∧BeF.bI M z35) (.br (BeF.sameL M z8 z35) (.obl True (.br true (.ok ((true,()) =
  (true,()))) (.ok ((false,()) = (true,()))))) (.ok ((false,()) = (true,()))))) (.ok ((false,()) = (true,()))))) (.ok ((false,()) = (true,()))))) (.br z36 (.br
  z23 (.br z20 (.obl (BeF.bI M z8∧BeF.bI M z35) (.br (BeF.sameL M z8 z35) (.obl True (.br true (.ok ((true,()) = (true,()))) (.ok ((false,()) = (true,())))))
  (.ok ((false,()) = (true,()))))) (.br z21 (.obl (BeF.bI M z8∧BeF.bI M z35) (.br (BeF.sameL M z8 z35) (.obl True (.br true (.ok ((true,()) = (true,()))) (.ok
  ((false,()) = (true,()))))) (.ok ((false,()) = (true,()))))) (.ok ((false,()) = (true,()))))) (.ok ((false,()) = (true,())))) (.br z24 (.br z20 (.obl (BeF.bI
  M z8∧BeF.bI M z35) (.br (BeF.sameL M z8 z35) (.obl True (.br true (.ok ((true,()) = (true,()))) (.ok ((false,()) = (true,()))))) (.ok ((false,()) = (true,
  ()))))) (.br z21 (.obl (BeF.bI M z8∧BeF.bI M z35) (.br (BeF.sameL M z8 z35) (.obl True (.br true (.ok ((true,()) = (true,()))) (.ok ((false,()) = (true,
  ()))))) (.ok ((false,()) = (true,()))))) (.ok ((false,()) = (true,()))))) (.ok ((false,()) = (true,())))))) (.ok ((false,()) = (true,()))))) (.br z25 (.obl
  (BeF.bI M z7∧BeF.bI M z33) (.br (BeF.sameL M z7 z33) (.br z20 (.br z36 (.br z19 (.br z20 (.obl (BeF.bI M z8∧BeF.bI M z35) (.br (BeF.sameL M z8 z35) (.obl True
  (.br true (.ok ((true,()) = (true,()))) (.ok ((false,()) = (true,()))))) (.ok ((false,()) = (true,()))))) (.br z21 (.obl (BeF.bI M z8∧BeF.bI M z35) (.br
  (BeF.sameL M z8 z35) (.obl True (.br true (.ok ((true,()) = (true,()))) (.ok ((false,()) = (true,()))))) (.ok ((false,()) = (true,()))))) (.ok ((false,()) =
  (true,()))))) (.ok ((false,()) = (true,())))) (.br z22 (.br z20 (.obl (BeF.bI M z8∧BeF.bI M z35) (.br (BeF.sameL M z8 z35) (.obl True (.br true (.ok ((true,
  ()) = (true,()))) (.ok ((false,()) = (true,()))))) (.ok ((false,()) = (true,()))))) (.br z21 (.obl (BeF.bI M z8∧BeF.bI M z35) (.br (BeF.sameL M z8 z35) (.obl
  True (.br true (.ok ((true,()) = (true,()))) (.ok ((false,()) = (true,()))))) (.ok ((false,()) = (true,()))))) (.ok ((false,()) = (true,()))))) (.ok ((false,
  ()) = (true,()))))) (.br z36 (.br z23 (.br z20 (.obl (BeF.bI M z8∧BeF.bI M z35) (.br (BeF.sameL M z8 z35) (.obl True (.br true (.ok ((true,()) = (true,())))
  (.ok ((false,()) = (true,()))))) (.ok ((false,()) = (true,()))))) (.br z21 (.obl (BeF.bI M z8∧BeF.bI M z35) (.br (BeF.sameL M z8 z35) (.obl True (.br true
  (.ok ((true,()) = (true,()))) (.ok ((false,()) = (true,()))))) (.ok ((false,()) = (true,()))))) (.ok ((false,()) = (true,()))))) (.ok ((false,()) = (true,
  ())))) (.br z24 (.br z20 (.obl (BeF.bI M z8∧BeF.bI M z35) (.br (BeF.sameL M z8 z35) (.obl True (.br true (.ok ((true,()) = (true,()))) (.ok ((false,()) =
  (true,()))))) (.ok ((false,()) = (true,()))))) (.br z21 (.obl (BeF.bI M z8∧BeF.bI M z35) (.br (BeF.sameL M z8 z35) (.obl True (.br true (.ok ((true,()) =
  (true,()))) (.ok ((false,()) = (true,()))))) (.ok ((false,()) = (true,()))))) (.ok ((false,()) = (true,()))))) (.ok ((false,()) = (true,())))))) (.ok ((false,
  ()) = (true,()))))) (.ok ((false,()) = (true,()))))) (.ok ((false,()) = (true,()))))) (.br z34 (.br z23 (.br z18 (.obl (BeF.bI M z7∧BeF.bI M z33) (.br
  (BeF.sameL M z7 z33) (.br z20 (.br z36 (.br z19 (.br z20 (.obl (BeF.bI M z8∧BeF.bI M z35) (.br (BeF.sameL M z8 z35) (.obl True (.br true (.ok ((true,()) =
  (true,()))) (.ok ((false,()) = (true,()))))) (.ok ((false,()) = (true,()))))) (.br z21 (.obl (BeF.bI M z8∧BeF.bI M z35) (.br (BeF.sameL M z8 z35) (.obl True
  (.br true (.ok ((true,()) = (true,()))) (.ok ((false,()) = (true,()))))) (.ok ((false,()) = (true,()))))) (.ok ((false,()) = (true,()))))) (.ok ((false,()) =
  (true,())))) (.br z22 (.br z20 (.obl (BeF.bI M z8∧BeF.bI M z35) (.br (BeF.sameL M z8 z35) (.obl True (.br true (.ok ((true,()) = (true,()))) (.ok ((false,
  ()) = (true,()))))) (.ok ((false,()) = (true,()))))) (.br z21 (.obl (BeF.bI M z8∧BeF.bI M z35) (.br (BeF.sameL M z8 z35) (.obl True (.br true (.ok ((true,())
  = (true,()))) (.ok ((false,()) = (true,()))))) (.ok ((false,()) = (true,()))))) (.ok ((false,()) = (true,()))))) (.ok ((false,()) = (true,()))))) (.br z36
  (.br z23 (.br z20 (.obl (BeF.bI M z8∧BeF.bI M z35) (.br (BeF.sameL M z8 z35) (.obl True (.br true (.ok ((true,()) = (true,()))) (.ok ((false,()) = (true,
  ()))))) (.ok ((false,()) = (true,()))))) (.br z21 (.obl (BeF.bI M z8∧BeF.bI M z35) (.br (BeF.sameL M z8 z35) (.obl True (.br true (.ok ((true,()) = (true,
  ()))) (.ok ((false,()) = (true,()))))) (.ok ((false,()) = (true,()))))) (.ok ((false,()) = (true,()))))) (.ok ((false,()) = (true,())))) (.br z24 (.br z20
  (.obl (BeF.bI M z8∧BeF.bI M z35) (.br (BeF.sameL M z8 z35) (.obl True (.br true (.ok ((true,()) = (true,()))) (.ok ((false,()) = (true,()))))) (.ok ((false,
  ()) = (true,()))))) (.br z21 (.obl (BeF.bI M z8∧BeF.bI M z35) (.br (BeF.sameL M z8 z35) (.obl True (.br true (.ok ((true,()) = (true,()))) (.ok ((false,()) =
  (true,()))))) (.ok ((false,()) = (true,()))))) (.ok ((false,()) = (true,()))))) (.ok ((false,()) = (true,())))))) (.ok ((false,()) = (true,()))))) (.br z25
  (.obl (BeF.bI M z7∧BeF.bI M z33) (.br (BeF.sameL M z7 z33) (.br z20 (.br z36 (.br z19 (.br z20 (.obl (BeF.bI M z8∧BeF.bI M z35) (.br (BeF.sameL M z8 z35)
  (.obl True (.br true (.ok ((true,()) = (true,()))) (.ok ((false,()) = (true,()))))) (.ok ((false,()) = (true,()))))) (.br z21 (.obl (BeF.bI M z8∧BeF.bI M
  z35) (.br (BeF.sameL M z8 z35) (.obl True (.br true (.ok ((true,()) = (true,()))) (.ok ((false,()) = (true,()))))) (.ok ((false,()) = (true,()))))) (.ok
  ((false,()) = (true,()))))) (.ok ((false,()) = (true,())))) (.br z22 (.br z20 (.obl (BeF.bI M z8∧BeF.bI M z35) (.br (BeF.sameL M z8 z35) (.obl True (.br true
  (.ok ((true,()) = (true,()))) (.ok ((false,()) = (true,()))))) (.ok ((false,()) = (true,()))))) (.br z21 (.obl (BeF.bI M z8∧BeF.bI M z35) (.br (BeF.sameL M z8
  z35) (.obl True (.br true (.ok ((true,()) = (true,()))) (.ok ((false,()) = (true,()))))) (.ok ((false,()) = (true,()))))) (.ok ((false,()) = (true,())))))
  (.ok ((false,()) = (true,()))))) (.br z36 (.br z23 (.br z20 (.obl (BeF.bI M z8∧BeF.bI M z35) (.br (BeF.sameL M z8 z35) (.obl True (.br true (.ok ((true,())
  = (true,()))) (.ok ((false,()) = (true,()))))) (.ok ((false,()) = (true,()))))) (.br z21 (.obl (BeF.bI M z8∧BeF.bI M z35) (.br (BeF.sameL M z8 z35) (.obl True
  (.br true (.ok ((true,()) = (true,()))) (.ok ((false,()) = (true,()))))) (.ok ((false,()) = (true,()))))) (.ok ((false,()) = (true,()))))) (.ok ((false,()) =
  (true,())))) (.br z24 (.br z20 (.obl (BeF.bI M z8∧BeF.bI M z35) (.br (BeF.sameL M z8 z35) (.obl True (.br true (.ok ((true,()) = (true,()))) (.ok ((false,
  ()) = (true,()))))) (.ok ((false,()) = (true,()))))) (.br z21 (.obl (BeF.bI M z8∧BeF.bI M z35) (.br (BeF.sameL M z8 z35) (.obl True (.br true (.ok ((true,())
  = (true,()))) (.ok ((false,()) = (true,()))))) (.ok ((false,()) = (true,()))))) (.ok ((false,()) = (true,()))))) (.ok ((false,()) = (true,())))))) (.ok
  ((false,()) = (true,()))))) (.ok ((false,()) = (true,()))))) (.ok ((false,()) = (true,())))) (.br z24 (.br z18 (.obl (BeF.bI M z7∧BeF.bI M z33) (.br
  (BeF.sameL M z7 z33) (.br z20 (.br z36 (.br z19 (.br z20 (.obl (BeF.bI M z8∧BeF.bI M z35) (.br (BeF.sameL M z8 z35) (.obl True (.br true (.ok ((true,()) =
  (true,()))) (.ok ((false,()) = (true,()))))) (.ok ((false,()) = (true,()))))) (.br z21 (.obl (BeF.bI M z8∧BeF.bI M z35) (.br (BeF.sameL M z8 z35) (.obl True
  (.br true (.ok ((true,()) = (true,()))) (.ok ((false,()) = (true,()))))) (.ok ((false,()) = (true,()))))) (.ok ((false,()) = (true,()))))) (.ok ((false,()) =
  (true,())))) (.br z22 (.br z20 (.obl (BeF.bI M z8∧BeF.bI M z35) (.br (BeF.sameL M z8 z35) (.obl True (.br true (.ok ((true,()) = (true,()))) (.ok ((false,
  ()) = (true,()))))) (.ok ((false,()) = (true,()))))) (.br z21 (.obl (BeF.bI M z8∧BeF.bI M z35) (.br (BeF.sameL M z8 z35) (.obl True (.br true (.ok ((true,())
  = (true,()))) (.ok ((false,()) = (true,()))))) (.ok ((false,()) = (true,()))))) (.ok ((false,()) = (true,()))))) (.ok ((false,()) = (true,()))))) (.br z36
  (.br z23 (.br z20 (.obl (BeF.bI M z8∧BeF.bI M z35) (.br (BeF.sameL M z8 z35) (.obl True (.br true (.ok ((true,()) = (true,()))) (.ok ((false,()) = (true,
  ()))))) (.ok ((false,()) = (true,()))))) (.br z21 (.obl (BeF.bI M z8∧BeF.bI M z35) (.br (BeF.sameL M z8 z35) (.obl True (.br true (.ok ((true,()) = (true,
  ()))) (.ok ((false,()) = (true,()))))) (.ok ((false,()) = (true,()))))) (.ok ((false,()) = (true,()))))) (.ok ((false,()) = (true,())))) (.br z24 (.br z20
  (.obl (BeF.bI M z8∧BeF.bI M z35) (.br (BeF.sameL M z8 z35) (.obl True (.br true (.ok ((true,()) = (true,()))) (.ok ((false,()) = (true,()))))) (.ok ((false,
  ()) = (true,()))))) (.br z21 (.obl (BeF.bI M z8∧BeF.bI M z35) (.br (BeF.sameL M z8 z35) (.obl True (.br true (.ok ((true,()) = (true,()))) (.ok ((false,()) =
  (true,()))))) (.ok ((false,()) = (true,()))))) (.ok ((false,()) = (true,()))))) (.ok ((false,()) = (true,())))))) (.ok ((false,()) = (true,()))))) (.br z25
  (.obl (BeF.bI M z7∧BeF.bI M z33) (.br (BeF.sameL M z7 z33) (.br z20 (.br z36 (.br z19 (.br z20 (.obl (BeF.bI M z8∧BeF.bI M z35) (.br (BeF.sameL M z8 z35)
  (.obl True (.br true (.ok ((true,()) = (true,()))) (.ok ((false,()) = (true,()))))) (.ok ((false,()) = (true,()))))) (.br z21 (.obl (BeF.bI M z8∧BeF.bI M
  z35) (.br (BeF.sameL M z8 z35) (.obl True (.br true (.ok ((true,()) = (true,()))) (.ok ((false,()) = (true,()))))) (.ok ((false,()) = (true,()))))) (.ok
  ((false,()) = (true,()))))) (.ok ((false,()) = (true,())))) (.br z22 (.br z20 (.obl (BeF.bI M z8∧BeF.bI M z35) (.br (BeF.sameL M z8 z35) (.obl True (.br true
  (.ok ((true,()) = (true,()))) (.ok ((false,()) = (true,()))))) (.ok ((false,()) = (true,()))))) (.br z21 (.obl (BeF.bI M z8∧BeF.bI M z35) (.br (BeF.sameL M z8
  z35) (.obl True (.br true (.ok ((true,()) = (true,()))) (.ok ((false,()) = (true,()))))) (.ok ((false,()) = (true,()))))) (.ok ((false,()) = (true,())))))
  (.ok ((false,()) = (true,()))))) (.br z36 (.br z23 (.br z20 (.obl (BeF.bI M z8∧BeF.bI M z35) (.br (BeF.sameL M z8 z35) (.obl True (.br true (.ok ((true,())
  = (true,()))) (.ok ((false,()) = (true,()))))) (.ok ((false,()) = (true,()))))) (.br z21 (.obl (BeF.bI M z8∧BeF.bI M z35) (.br (BeF.sameL M z8 z35) (.obl True
  (.br true (.ok ((true,()) = (true,()))) (.ok ((false,()) = (true,()))))) (.ok ((false,()) = (true,()))))) (.ok ((false,()) = (true,()))))) (.ok ((false,()) =
  (true,())))) (.br z24 (.br z20 (.obl (BeF.bI M z8∧BeF.bI M z35) (.br (BeF.sameL M z8 z35) (.obl True (.br true (.ok ((true,()) = (true,()))) (.ok ((false,
  ()) = (true,()))))) (.ok ((false,()) = (true,()))))) (.br z21 (.obl (BeF.bI M z8∧BeF.bI M z35) (.br (BeF.sameL M z8 z35) (.obl True (.br true (.ok ((true,())
  = (true,()))) (.ok ((false,()) = (true,()))))) (.ok ((false,()) = (true,()))))) (.ok ((false,()) = (true,()))))) (.ok ((false,()) = (true,())))))) (.ok
  ((false,()) = (true,()))))) (.ok ((false,()) = (true,()))))) (.ok ((false,()) = (true,())))))))) (.all Bool fun (v11:Bool)=>.br v11 (.ok (St.mk 118 [(3,V.c
  (C.ptr 1 0)),(7,V.c (C.sl In z7)),(8,V.c (C.int .i64 z5)),(9,V.c (C.sl In z8)),(10,V.c (C.int .i64 z6)),(12,V.c (C.sl In z33)),(13,V.c (C.sl In z10))]
  [(0,Ob.amb),(1,Ob.box 28 [C.int .i64 z11,C.int .i64 z12,C.sym z13,C.sl It z9,C.sl (Ty.sl It) z14])] 4 = St.mk 118 [(3,V.c (C.ptr 1 0)),(7,V.c (C.sl In
  z7)),(8,V.c (C.int .i64 z5)),(9,V.c (C.sl In z8)),(10,V.c (C.int .i64 z6)),(12,V.c (C.sl In z33)),(13,V.c (C.sl In z10))] [(0,Ob.amb),(1,Ob.box 28
  [C.int .i64 z11,C.int .i64 z12,C.sym z13,C.sl It z9,C.sl (Ty.sl It) z14])] 4∧I2 z26)) (.all z16 fun (v12:List (Int × Int × Int × Int × Int × Int) × Unit)
  =>
 let z37:=v12.1;
 let z38:=L.cmp .gtr (L.cast (L.llen In z37)) 0; .imp (I2 v12) (.br z18 (.br z34 (.br z19 (.br z18 (.obl (BeF.bI M z7∧BeF.bI M z33) (.br (BeF.sameL M
  z7 z33) (.br z20 (.br z38 (.br z19 (.br z20 (.obl (BeF.bI M z8∧BeF.bI M z37) (.br (BeF.sameL M z8 z37) (.obl True (.br true (.ok ((true,()) = (true,())))
  (.ok ((false,()) = (true,()))))) (.ok ((false,()) = (true,()))))) (.br z21 (.obl (BeF.bI M z8∧BeF.bI M z37) (.br (BeF.sameL M z8 z37) (.obl True (.br true
  (.ok ((true,()) = (true,()))) (.ok ((false,()) = (true,()))))) (.ok ((false,()) = (true,()))))) (.ok ((false,()) = (true,()))))) (.ok ((false,()) = (true,
  ())))) (.br z22 (.br z20 (.obl (BeF.bI M z8∧BeF.bI M z37) (.br (BeF.sameL M z8 z37) (.obl True (.br true (.ok ((true,()) = (true,()))) (.ok ((false,()) =
  (true,()))))) (.ok ((false,()) = (true,()))))) (.br z21 (.obl (BeF.bI M z8∧BeF.bI M z37) (.br (BeF.sameL M z8 z37) (.obl True (.br true (.ok ((true,()) =
  (true,()))) (.ok ((false,()) = (true,()))))) (.ok ((false,()) = (true,()))))) (.ok ((false,()) = (true,()))))) (.ok ((false,()) = (true,()))))) (.br z38 (.br
  z23 (.br z20 (.obl (BeF.bI M z8∧BeF.bI M z37) (.br (BeF.sameL M z8 z37) (.obl True (.br true (.ok ((true,()) = (true,()))) (.ok ((false,()) = (true,())))))
  (.ok ((false,()) = (true,()))))) (.br z21 (.obl (BeF.bI M z8∧BeF.bI M z37) (.br (BeF.sameL M z8 z37) (.obl True (.br true (.ok ((true,()) = (true,()))) (.ok
  ((false,()) = (true,()))))) (.ok ((false,()) = (true,()))))) (.ok ((false,()) = (true,()))))) (.ok ((false,()) = (true,())))) (.br z24 (.br z20 (.obl (BeF.bI
  M z8∧BeF.bI M z37) (.br (BeF.sameL M z8 z37) (.obl True (.br true (.ok ((true,()) = (true,()))) (.ok ((false,()) = (true,()))))) (.ok ((false,()) = (true,
  ()))))) (.br z21 (.obl (BeF.bI M z8∧BeF.bI M z37) (.br (BeF.sameL M z8 z37) (.obl True (.br true (.ok ((true,()) = (true,()))) (.ok ((false,()) = (true,
  ()))))) (.ok ((false,()) = (true,()))))) (.ok ((false,()) = (true,()))))) (.ok ((false,()) = (true,())))))) (.ok ((false,()) = (true,()))))) (.br z25 (.obl
  (BeF.bI M z7∧BeF.bI M z33) (.br (BeF.sameL M z7 z33) (.br z20 (.br z38 (.br z19 (.br z20 (.obl (BeF.bI M z8∧BeF.bI M z37) (.br (BeF.sameL M z8 z37) (.obl True
  (.br true (.ok ((true,()) = (true,()))) (.ok ((false,()) = (true,()))))) (.ok ((false,()) = (true,()))))) (.br z21 (.obl (BeF.bI M z8∧BeF.bI M z37) (.br
  (BeF.sameL M z8 z37) (.obl True (.br true (.ok ((true,()) = (true,()))) (.ok ((false,()) = (true,()))))) (.ok ((false,()) = (true,()))))) (.ok ((false,()) =
  (true,()))))) (.ok ((false,()) = (true,())))) (.br z22 (.br z20 (.obl (BeF.bI M z8∧BeF.bI M z37) (.br (BeF.sameL M z8 z37) (.obl True (.br true (.ok ((true,
  ()) = (true,()))) (.ok ((false,()) = (true,()))))) (.ok ((false,()) = (true,()))))) (.br z21 (.obl (BeF.bI M z8∧BeF.bI M z37) (.br (BeF.sameL M z8 z37) (.obl
  True (.br true (.ok ((true,()) = (true,()))) (.ok ((false,()) = (true,()))))) (.ok ((false,()) = (true,()))))) (.ok ((false,()) = (true,()))))) (.ok ((false,
  ()) = (true,()))))) (.br z38 (.br z23 (.br z20 (.obl (BeF.bI M z8∧BeF.bI M z37) (.br (BeF.sameL M z8 z37) (.obl True (.br true (.ok ((true,()) = (true,())))
  (.ok ((false,()) = (true,()))))) (.ok ((false,()) = (true,()))))) (.br z21 (.obl (BeF.bI M z8∧BeF.bI M z37) (.br (BeF.sameL M z8 z37) (.obl True (.br true
  (.ok ((true,()) = (true,()))) (.ok ((false,()) = (true,()))))) (.ok ((false,()) = (true,()))))) (.ok ((false,()) = (true,()))))) (.ok ((false,()) = (true,
  ())))) (.br z24 (.br z20 (.obl (BeF.bI M z8∧BeF.bI M z37) (.br (BeF.sameL M z8 z37) (.obl True (.br true (.ok ((true,()) = (true,()))) (.ok ((false,()) =
  (true,()))))) (.ok ((false,()) = (true,()))))) (.br z21 (.obl (BeF.bI M z8∧BeF.bI M z37) (.br (BeF.sameL M z8 z37) (.obl True (.br true (.ok ((true,()) =
  (true,()))) (.ok ((false,()) = (true,()))))) (.ok ((false,()) = (true,()))))) (.ok ((false,()) = (true,()))))) (.ok ((false,()) = (true,())))))) (.ok ((false,
  ()) = (true,()))))) (.ok ((false,()) = (true,()))))) (.ok ((false,()) = (true,())))) (.br z22 (.br z18 (.obl (BeF.bI M z7∧BeF.bI M z33) (.br (BeF.sameL M z7
  z33) (.br z20 (.br z38 (.br z19 (.br z20 (.obl (BeF.bI M z8∧BeF.bI M z37) (.br (BeF.sameL M z8 z37) (.obl True (.br true (.ok ((true,()) = (true,())))
  (.ok ((false,()) = (true,()))))) (.ok ((false,()) = (true,()))))) (.br z21 (.obl (BeF.bI M z8∧BeF.bI M z37) (.br (BeF.sameL M z8 z37) (.obl True (.br true
  (.ok ((true,()) = (true,()))) (.ok ((false,()) = (true,()))))) (.ok ((false,()) = (true,()))))) (.ok ((false,()) = (true,()))))) (.ok ((false,()) = (true,
  ())))) (.br z22 (.br z20 (.obl (BeF.bI M z8∧BeF.bI M z37) (.br (BeF.sameL M z8 z37) (.obl True (.br true (.ok ((true,()) = (true,()))) (.ok ((false,()) =
  (true,()))))) (.ok ((false,()) = (true,()))))) (.br z21 (.obl (BeF.bI M z8∧BeF.bI M z37) (.br (BeF.sameL M z8 z37) (.obl True (.br true (.ok ((true,()) =
  (true,()))) (.ok ((false,()) = (true,()))))) (.ok ((false,()) = (true,()))))) (.ok ((false,()) = (true,()))))) (.ok ((false,()) = (true,()))))) (.br z38 (.br
  z23 (.br z20 (.obl (BeF.bI M z8∧BeF.bI M z37) (.br (BeF.sameL M z8 z37) (.obl True (.br true (.ok ((true,()) = (true,()))) (.ok ((false,()) = (true,())))))
  (.ok ((false,()) = (true,()))))) (.br z21 (.obl (BeF.bI M z8∧BeF.bI M z37) (.br (BeF.sameL M z8 z37) (.obl True (.br true (.ok ((true,()) = (true,()))) (.ok
  ((false,()) = (true,()))))) (.ok ((false,()) = (true,()))))) (.ok ((false,()) = (true,()))))) (.ok ((false,()) = (true,())))) (.br z24 (.br z20 (.obl (BeF.bI
  M z8∧BeF.bI M z37) (.br (BeF.sameL M z8 z37) (.obl True (.br true (.ok ((true,()) = (true,()))) (.ok ((false,()) = (true,()))))) (.ok ((false,()) = (true,
  ()))))) (.br z21 (.obl (BeF.bI M z8∧BeF.bI M z37) (.br (BeF.sameL M z8 z37) (.obl True (.br true (.ok ((true,()) = (true,()))) (.ok ((false,()) = (true,
  ()))))) (.ok ((false,()) = (true,()))))) (.ok ((false,()) = (true,()))))) (.ok ((false,()) = (true,())))))) (.ok ((false,()) = (true,()))))) (.br z25 (.obl
  (BeF.bI M z7∧BeF.bI M z33) (.br (BeF.sameL M z7 z33) (.br z20 (.br z38 (.br z19 (.br z20 (.obl (BeF.bI M z8∧BeF.bI M z37) (.br (BeF.sameL M z8 z37) (.obl True
  (.br true (.ok ((true,()) = (true,()))) (.ok ((false,()) = (true,()))))) (.ok ((false,()) = (true,()))))) (.br z21 (.obl (BeF.bI M z8∧BeF.bI M z37) (.br
  (BeF.sameL M z8 z37) (.obl True (.br true (.ok ((true,()) = (true,()))) (.ok ((false,()) = (true,()))))) (.ok ((false,()) = (true,()))))) (.ok ((false,()) =
  (true,()))))) (.ok ((false,()) = (true,())))) (.br z22 (.br z20 (.obl (BeF.bI M z8∧BeF.bI M z37) (.br (BeF.sameL M z8 z37) (.obl True (.br true (.ok ((true,
  ()) = (true,()))) (.ok ((false,()) = (true,()))))) (.ok ((false,()) = (true,()))))) (.br z21 (.obl (BeF.bI M z8∧BeF.bI M z37) (.br (BeF.sameL M z8 z37) (.obl
  True (.br true (.ok ((true,()) = (true,()))) (.ok ((false,()) = (true,()))))) (.ok ((false,()) = (true,()))))) (.ok ((false,()) = (true,()))))) (.ok ((false,
  ()) = (true,()))))) (.br z38 (.br z23 (.br z20 (.obl (BeF.bI M z8∧BeF.bI M z37) (.br (BeF.sameL M z8 z37) (.obl True (.br true (.ok ((true,()) = (true,())))
  (.ok ((false,()) = (true,()))))) (.ok ((false,()) = (true,()))))) (.br z21 (.obl (BeF.bI M z8∧BeF.bI M z37) (.br (BeF.sameL M z8 z37) (.obl True (.br true
  (.ok ((true,()) = (true,()))) (.ok ((false,()) = (true,()))))) (.ok ((false,()) = (true,()))))) (.ok ((false,()) = (true,()))))) (.ok ((false,()) = (true,
  ())))) (.br z24 (.br z20 (.obl (BeF.bI M z8∧BeF.bI M z37) (.br (BeF.sameL M z8 z37) (.obl True (.br true (.ok ((true,()) = (true,()))) (.ok ((false,()) =
  (true,()))))) (.ok ((false,()) = (true,()))))) (.br z21 (.obl (BeF.bI M z8∧BeF.bI M z37) (.br (BeF.sameL M z8 z37) (.obl True (.br true (.ok ((true,()) =
  (true,()))) (.ok ((false,()) = (true,()))))) (.ok ((false,()) = (true,()))))) (.ok ((false,()) = (true,()))))) (.ok ((false,()) = (true,())))))) (.ok ((false,
  ()) = (true,()))))) (.ok ((false,()) = (true,()))))) (.ok ((false,()) = (true,()))))) (.br z34 (.br z23 (.br z18 (.obl (BeF.bI M z7∧BeF.bI M z33) (.br
  (BeF.sameL M z7 z33) (.br z20 (.br z38 (.br z19 (.br z20 (.obl (BeF.bI M z8∧BeF.bI M z37) (.br (BeF.sameL M z8 z37) (.obl True (.br true (.ok ((true,()) =
  (true,()))) (.ok ((false,()) = (true,()))))) (.ok ((false,()) = (true,()))))) (.br z21 (.obl (BeF.bI M z8∧BeF.bI M z37) (.br (BeF.sameL M z8 z37) (.obl True
  (.br true (.ok ((true,()) = (true,()))) (.ok ((false,()) = (true,()))))) (.ok ((false,()) = (true,()))))) (.ok ((false,()) = (true,()))))) (.ok ((false,()) =
  (true,())))) (.br z22 (.br z20 (.obl (BeF.bI M z8∧BeF.bI M z37) (.br (BeF.sameL M z8 z37) (.obl True (.br true (.ok ((true,()) = (true,()))) (.ok ((false,
  ()) = (true,()))))) (.ok ((false,()) = (true,()))))) (.br z21 (.obl (BeF.bI M z8∧BeF.bI M z37) (.br (BeF.sameL M z8 z37) (.obl True (.br true (.ok ((true,())
  = (true,()))) (.ok ((false,()) = (true,()))))) (.ok ((false,()) = (true,()))))) (.ok ((false,()) = (true,()))))) (.ok ((false,()) = (true,()))))) (.br z38
  (.br z23 (.br z20 (.obl (BeF.bI M z8∧BeF.bI M z37) (.br (BeF.sameL M z8 z37) (.obl True (.br true (.ok ((true,()) = (true,()))) (.ok ((false,()) = (true,
  ()))))) (.ok ((false,()) = (true,()))))) (.br z21 (.obl (BeF.bI M z8∧BeF.bI M z37) (.br (BeF.sameL M z8 z37) (.obl True (.br true (.ok ((true,()) = (true,
  ()))) (.ok ((false,()) = (true,()))))) (.ok ((false,()) = (true,()))))) (.ok ((false,()) = (true,()))))) (.ok ((false,()) = (true,())))) (.br z24 (.br z20
  (.obl (BeF.bI M z8∧BeF.bI M z37) (.br (BeF.sameL M z8 z37) (.obl True (.br true (.ok ((true,()) = (true,()))) (.ok ((false,()) = (true,()))))) (.ok ((false,
  ()) = (true,()))))) (.br z21 (.obl (BeF.bI M z8∧BeF.bI M z37) (.br (BeF.sameL M z8 z37) (.obl True (.br true (.ok ((true,()) = (true,()))) (.ok ((false,()) =
  (true,()))))) (.ok ((false,()) = (true,()))))) (.ok ((false,()) = (true,()))))) (.ok ((false,()) = (true,())))))) (.ok ((false,()) = (true,()))))) (.br z25
  (.obl (BeF.bI M z7∧BeF.bI M z33) (.br (BeF.sameL M z7 z33) (.br z20 (.br z38 (.br z19 (.br z20 (.obl (BeF.bI M z8∧BeF.bI M z37) (.br (BeF.sameL M z8 z37)
  (.obl True (.br true (.ok ((true,()) = (true,()))) (.ok ((false,()) = (true,()))))) (.ok ((false,()) = (true,()))))) (.br z21 (.obl (BeF.bI M z8∧BeF.bI M
  z37) (.br (BeF.sameL M z8 z37) (.obl True (.br true (.ok ((true,()) = (true,()))) (.ok ((false,()) = (true,()))))) (.ok ((false,()) = (true,()))))) (.ok
  ((false,()) = (true,()))))) (.ok ((false,()) = (true,())))) (.br z22 (.br z20 (.obl (BeF.bI M z8∧BeF.bI M z37) (.br (BeF.sameL M z8 z37) (.obl True (.br true
  (.ok ((true,()) = (true,()))) (.ok ((false,()) = (true,()))))) (.ok ((false,()) = (true,()))))) (.br z21 (.obl (BeF.bI M z8∧BeF.bI M z37) (.br (BeF.sameL M z8
  z37) (.obl True (.br true (.ok ((true,()) = (true,()))) (.ok ((false,()) = (true,()))))) (.ok ((false,()) = (true,()))))) (.ok ((false,()) = (true,())))))
  (.ok ((false,()) = (true,()))))) (.br z38 (.br z23 (.br z20 (.obl (BeF.bI M z8∧BeF.bI M z37) (.br (BeF.sameL M z8 z37) (.obl True (.br true (.ok ((true,())
  = (true,()))) (.ok ((false,()) = (true,()))))) (.ok ((false,()) = (true,()))))) (.br z21 (.obl (BeF.bI M z8∧BeF.bI M z37) (.br (BeF.sameL M z8 z37) (.obl True
  (.br true (.ok ((true,()) = (true,()))) (.ok ((false,()) = (true,()))))) (.ok ((false,()) = (true,()))))) (.ok ((false,()) = (true,()))))) (.ok ((false,()) =
  (true,())))) (.br z24 (.br z20 (.obl (BeF.bI M z8∧BeF.bI M z37) (.br (BeF.sameL M z8 z37) (.obl True (.br true (.ok ((true,()) = (true,()))) (.ok ((false,
  ()) = (true,()))))) (.ok ((false,()) = (true,()))))) (.br z21 (.obl (BeF.bI M z8∧BeF.bI M z37) (.br (BeF.sameL M z8 z37) (.obl True (.br true (.ok ((true,())
  = (true,()))) (.ok ((false,()) = (true,()))))) (.ok ((false,()) = (true,()))))) (.ok ((false,()) = (true,()))))) (.ok ((false,()) = (true,())))))) (.ok
  ((false,()) = (true,()))))) (.ok ((false,()) = (true,()))))) (.ok ((false,()) = (true,())))) (.br z24 (.br z18 (.obl (BeF.bI M z7∧BeF.bI M z33) (.br
  (BeF.sameL M z7 z33) (.br z20 (.br z38 (.br z19 (.br z20 (.obl (BeF.bI M z8∧BeF.bI M z37) (.br (BeF.sameL M z8 z37) (.obl True (.br true (.ok ((true,()) =
  (true,()))) (.ok ((false,()) = (true,()))))) (.ok ((false,()) = (true,()))))) (.br z21 (.obl (BeF.bI M z8∧BeF.bI M z37) (.br (BeF.sameL M z8 z37) (.obl True
  (.br true (.ok ((true,()) = (true,()))) (.ok ((false,()) = (true,()))))) (.ok ((false,()) = (true,()))))) (.ok ((false,()) = (true,()))))) (.ok ((false,()) =
  (true,())))) (.br z22 (.br z20 (.obl (BeF.bI M z8∧BeF.bI M z37) (.br (BeF.sameL M z8 z37) (.obl True (.br true (.ok ((true,()) = (true,()))) (.ok ((false,
  ()) = (true,()))))) (.ok ((false,()) = (true,()))))) (.br z21 (.obl (BeF.bI M z8∧BeF.bI M z37) (.br (BeF.sameL M z8 z37) (.obl True (.br true (.ok ((true,())
  = (true,()))) (.ok ((false,()) = (true,()))))) (.ok ((false,()) = (true,()))))) (.ok ((false,()) = (true,()))))) (.ok ((false,()) = (true,()))))) (.br z38
  (.br z23 (.br z20 (.obl (BeF.bI M z8∧BeF.bI M z37) (.br (BeF.sameL M z8 z37) (.obl True (.br true (.ok ((true,()) = (true,()))) (.ok ((false,()) = (true,
  ()))))) (.ok ((false,()) = (true,()))))) (.br z21 (.obl (BeF.bI M z8∧BeF.bI M z37) (.br (BeF.sameL M z8 z37) (.obl True (.br true (.ok ((true,()) = (true,
  ()))) (.ok ((false,()) = (true,()))))) (.ok ((false,()) = (true,()))))) (.ok ((false,()) = (true,()))))) (.ok ((false,()) = (true,())))) (.br z24 (.br z20
  (.obl (BeF.bI M z8∧BeF.bI M z37) (.br (BeF.sameL M z8 z37) (.obl True (.br true (.ok ((true,()) = (true,()))) (.ok ((false,()) = (true,()))))) (.ok ((false,
  ()) = (true,()))))) (.br z21 (.obl (BeF.bI M z8∧BeF.bI M z37) (.br (BeF.sameL M z8 z37) (.obl True (.br true (.ok ((true,()) = (true,()))) (.ok ((false,()) =
  (true,()))))) (.ok ((false,()) = (true,()))))) (.ok ((false,()) = (true,()))))) (.ok ((false,()) = (true,())))))) (.ok ((false,()) = (true,()))))) (.br z25
  (.obl (BeF.bI M z7∧BeF.bI M z33) (.br (BeF.sameL M z7 z33) (.br z20 (.br z38 (.br z19 (.br z20 (.obl (BeF.bI M z8∧BeF.bI M z37) (.br (BeF.sameL M z8 z37)
  (.obl True (.br true (.ok ((true,()) = (true,()))) (.ok ((false,()) = (true,()))))) (.ok ((false,()) = (true,()))))) (.br z21 (.obl (BeF.bI M z8∧BeF.bI M
  z37) (.br (BeF.sameL M z8 z37) (.obl True (.br true (.ok ((true,()) = (true,()))) (.ok ((false,()) = (true,()))))) (.ok ((false,()) = (true,()))))) (.ok
  ((false,()) = (true,()))))) (.ok ((false,()) = (true,())))) (.br z22 (.br z20 (.obl (BeF.bI M z8∧BeF.bI M z37) (.br (BeF.sameL M z8 z37) (.obl True (.br true
  (.ok ((true,()) = (true,()))) (.ok ((false,()) = (true,()))))) (.ok ((false,()) = (true,()))))) (.br z21 (.obl (BeF.bI M z8∧BeF.bI M z37) (.br (BeF.sameL M z8
  z37) (.obl True (.br true (.ok ((true,()) = (true,()))) (.ok ((false,()) = (true,()))))) (.ok ((false,()) = (true,()))))) (.ok ((false,()) = (true,())))))
  (.ok ((false,()) = (true,()))))) (.br z38 (.br z23 (.br z20 (.obl (BeF.bI M z8∧BeF.bI M z37) (.br (BeF.sameL M z8 z37) (.obl True (.br true (.ok ((true,())
  = (true,()))) (.ok ((false,()) = (true,()))))) (.ok ((false,()) = (true,()))))) (.br z21 (.obl (BeF.bI M z8∧BeF.bI M z37) (.br (BeF.sameL M z8 z37) (.obl True
  (.br true (.ok ((true,()) = (true,()))) (.ok ((false,()) = (true,()))))) (.ok ((false,()) = (true,()))))) (.ok ((false,()) = (true,()))))) (.ok ((false,()) =
  (true,())))) (.br z24 (.br z20 (.obl (BeF.bI M z8∧BeF.bI M z37) (.br (BeF.sameL M z8 z37) (.obl True (.br true (.ok ((true,()) = (true,()))) (.ok ((false,
  ()) = (true,()))))) (.ok ((false,()) = (true,()))))) (.br z21 (.obl (BeF.bI M z8∧BeF.bI M z37) (.br (BeF.sameL M z8 z37) (.obl True (.br true (.ok ((true,())
  = (true,()))) (.ok ((false,()) = (true,()))))) (.ok ((false,()) = (true,()))))) (.ok ((false,()) = (true,()))))) (.ok ((false,()) = (true,())))))) (.ok
  ((false,()) = (true,()))))) (.ok ((false,()) = (true,()))))) (.ok ((false,()) = (true,())))))))))))))))))))) (.obl True (.br true (.ok ((true,()) = (true,())))
  (.ok ((false,()) = (true,()))))))
theorem nb8_go (L:Lv) (F:BxF) (M:BeF) (I I2:Ds [.sl In]→Prop) (b:BlD) (i k:Int) (h:VC.holds (nb8 L F M I I2 b i k)):Holds (vcE L F M (oIn8 F) [24,23,25,20,21,26,37,38,39,40] 3 (Db8j (ab8 L I I2)) LBii (b,i,k,())):=Holds.of_eq (by kernel_rfl) h
theorem okb8 (F:BxF) (M:BeF) (g:M.aw = true) (h:M.thin = thinB) (h1:M.chk = chkB) (h2:M.wtrE = wtrEF) (h3:M.wrtE = wrtEF) (h4:M.wtr = wtrF) (h5:M.wrt = wrtF) (h6:M.sameL = fun a b=>decide (a = b)) (h7:F.within = withinF) (q:M.bB = bBF) (q1:M.bT = bTF) (q2:M.pWt = pWtF) (q3:M.pWr = pWrF) (q4:M.bI = bIF)
  (k1:SpecOk prog 24 (Sb24 M)) (k2:SpecOk prog 23 (Sb23 M)) (k3:SpecOk prog 25 (Sb25 M)) (k4:SpecOk prog 20 (Sb20 M)) (k5:SpecOk prog 21 (Sb21 M)) (k6:SpecOk prog 26 (Sb22 M)) (k7:SpecOk prog 37 (S86 F)) (k8:SpecOk prog 38 (Sb38 M)) (k9:SpecOk prog 39 (Sb39 M)) (k10:SpecOk prog 40 (Sb40 M)):SpecOk prog 8 LBii:=by
 refine Zc hm hE Db8j fnokb8j _ fun (z:BlD × Int × Int × Unit) hpre=>?_
 obtain ⟨b,i,k,⟨⟩⟩:=z
 have hpre:bTF b:=hpre
 let I:List InD × Unit→Prop:=fun x=>x.1 = if 0≤i∧i < b.2.2.2.1.length then wtrF b i else []
 let I2:List InD × Unit→Prop:=fun x=>x.1 = if 0≤k∧k < b.2.2.2.2.length then wrtF b k else []
 refine Yp _ 3 (ab8 Lv.std I I2) (Zs (T:=tabO (oIn8 F) (eT F M)) (l:=[24,23,25,20,21,26,37,38,39,40]) (Za (Yh k1 (by kernel_rfl)) (Za (Yh (okSbT M g k2) (by kernel_rfl)) (Za (Yh k3 (by kernel_rfl)) (Za (Yh k4 (by kernel_rfl)) (Za (Yh k5 (by kernel_rfl)) (Za (Yh k6 (by kernel_rfl)) (Za (Yh k7 (by kernel_rfl)) (Za (Yh k8 (by kernel_rfl)) (Za (Yh k9 (by kernel_rfl)) (Za (Yh k10 (by kernel_rfl)) Z4))))))))))) ?_
 refine nb8_go Lv.std F M I I2 b i k ?_
 simp only [nb8,VC.holds,ZJ,ZO,Zb,Zh,Zm,Yj,Ym,Z5,ZM,Yl,Yk,Yf,ZX,ZY,ZT,ZR,Ye,ZN,Zz,ZD,Zr,Z1,ZS,Z2,ZK,ZW,Yb,ZV,ZP,ZQ,Zt,ZH,Ya,Z3,ZI,Yd,Yc,Z6,Z7,Zg,ZC,ZL,ZU,Z8,Z9,Zd,Ze,ZA,ZB,Zu,Zv,Zx,Zy,Zk,Zl,Zp,Zq,Zi,Zj,Zn,Zo,ZG,ZF,ZZ,Yg,ZE,g,h,h1,h2,h3,h4,h5,h6,h7,q,q1,q2,q3,q4,pe5,Prod.mk.injEq,and_true,true_and]
 refine ⟨hpre,fun ht=>?_,fun _=>by simp⟩
 have hb:=thin_bB ht
 have hI:∀ x,I x↔x.1 = if 0≤i∧i < b.2.2.2.1.length then wtrF b i else []:=fun x=>Iff.rfl
 have hI2:∀ x,I2 x↔x.1 = if 0≤k∧k < b.2.2.2.2.length then wrtF b k else []:=fun x=>Iff.rfl
 have m1:IntKind.i64.wrap ((b.2.2.2.1.length:Int) - 1) = (b.2.2.2.1.length:Int) - 1:=Yn (by omega) (by have:=hb.1; omega)
 have m2:IntKind.i64.wrap ((b.2.2.2.2.length:Int) - 1) = (b.2.2.2.2.length:Int) - 1:=Yn (by omega) (by have:=hb.2.1; omega)
 have e0:bIF []:=Nat.zero_le _
 clear_value I I2
 by_cases c:chkB b = 0
 ·have lw:∀ i:Nat,i < b.2.2.2.1.length→(wtrF b (i:Int)).length≤1000000:=fun i hi=>by have:=(wtr_ok c hi).1; omega
  have lr:∀ i:Nat,i < b.2.2.2.2.length→(wrtF b (i:Int)).length≤1000000:=fun i hi=>by have:=(wrt_ok c hi).1; omega
  have pw:¬ wtrF b i = []:=by unfold wtrF; cases b.2.2.1 <;> simp
  have pr:¬ wrtF b k = []:=fun e=>by
   have:=rings_len ((b.2.2.2.2[k.toNat]?).getD [])
   unfold wrtF at e
   rw [e] at this
   have:(0:Nat) = 1 + _:=this
   omega
  rcases Classical.em (0≤i∧i < (b.2.2.2.1.length:Int)) with P | P
  ·have w1:withinF i 0 ((b.2.2.2.1.length:Int) - 1) = true:=withinF_t.2 (by omega)
   have t1:wtrEF b i = (wtrF b i,0):=by rw [wtrEF,if_neg (by simpa using c),if_neg (by omega)]
   have b1:bIF (wtrF b i):=by obtain ⟨j,rfl⟩:=Yq P.1; exact lw j (by omega)
   have q1:pWtF b i:=⟨hb,P⟩
   rcases Classical.em (0≤k∧k < (b.2.2.2.2.length:Int)) with Q | Q
   ·have w2:withinF k 0 ((b.2.2.2.2.length:Int) - 1) = true:=withinF_t.2 (by omega)
    have t2:wrtEF b k = (wrtF b k,0):=by rw [wrtEF,if_neg (by simpa using c),if_neg (by omega)]
    have b2:bIF (wrtF b k):=by obtain ⟨j,rfl⟩:=Yq Q.1; exact lr j (by omega)
    have q2:pWrF b k:=⟨hb,Q⟩
    simp [c,hb,hI,hI2,m1,m2,e0,P,Q,w1,w2,t1,t2,b1,b2,q1,q2,pw,pr]
   ·have w2:withinF k 0 ((b.2.2.2.2.length:Int) - 1) = false:=by cases h:withinF k 0 ((b.2.2.2.2.length:Int) - 1) with
     | false=>rfl
     | true=>have:=withinF_t.1 h; omega
    have t2:wrtEF b k = ([],7):=by rw [wrtEF,if_neg (by simpa using c),if_pos (by omega)]
    simp [c,hb,hI,hI2,m1,m2,e0,P,if_neg Q,w1,w2,t1,t2,b1,q1,pw]
  ·have w1:withinF i 0 ((b.2.2.2.1.length:Int) - 1) = false:=by cases h:withinF i 0 ((b.2.2.2.1.length:Int) - 1) with
    | false=>rfl
    | true=>have:=withinF_t.1 h; omega
   have t1:wtrEF b i = ([],7):=by rw [wtrEF,if_neg (by simpa using c),if_pos (by omega)]
   rcases Classical.em (0≤k∧k < (b.2.2.2.2.length:Int)) with Q | Q
   ·have w2:withinF k 0 ((b.2.2.2.2.length:Int) - 1) = true:=withinF_t.2 (by omega)
    have t2:wrtEF b k = (wrtF b k,0):=by rw [wrtEF,if_neg (by simpa using c),if_neg (by omega)]
    have b2:bIF (wrtF b k):=by obtain ⟨j,rfl⟩:=Yq Q.1; exact lr j (by omega)
    have q2:pWrF b k:=⟨hb,Q⟩
    simp [c,hb,hI,hI2,m1,m2,e0,if_neg P,Q,w1,w2,t1,t2,b2,q2,pr]
   ·have w2:withinF k 0 ((b.2.2.2.2.length:Int) - 1) = false:=by cases h:withinF k 0 ((b.2.2.2.2.length:Int) - 1) with
     | false=>rfl
     | true=>have:=withinF_t.1 h; omega
    have t2:wrtEF b k = ([],7):=by rw [wrtEF,if_neg (by simpa using c),if_pos (by omega)]
    simp [c,hb,hI,hI2,m1,m2,e0,if_neg P,if_neg Q,w1,w2,t1,t2]
 ·have t1:wtrEF b i = ([],chkB b):=by rw [wtrEF,if_pos c]
  have t2:wrtEF b k = ([],chkB b):=by rw [wrtEF,if_pos c]
  have z:IntKind.i64.wrap 0 = 0:=by decide
  simp [c,hb,t1,t2,z]
end Go.Proofs.Tryz
namespace Go.Proofs.Tryz
open Go Go.VM
noncomputable def MM:BeF where
 bB:=bBF
 bT:=bTF
 bE:=bEF
 bEs:=bEsF
 bI:=bIF
 bLL:=bLLF
 ex:=exF
 en:=enF
 chk:=chkB
 same:=fun a b=>decide (a = b)
 wk:=wkF
 sames:=fun a b=>decide (a = b)
 pWt:=pWtF
 wtr:=wtrF
 pWr:=pWrF
 wrt:=wrtF
 prg:=prgF
 pP:=bBF
 prgE:=fun _=>(([],[],0),0)
 sum:=sumF
 sumE:=sumEF
 pV:=pVF
 view:=viewF
 pIt:=pItF
 lst:=lstF
 told:=toldF
 pRun:=fun b l=>bBF b∧l.length≤1000000
 run:=runBF
 ends:=endsBG endsM srtB compBL
 cmpB:=cmpBF
 sortB:=fun l=>List.mergeSort (α:=BeD) l fun x y=>!(Go.Proofs.ltOf cmpBF) y x
 compB:=compBL
 thin:=thinB
 pMax:=pMaxF
 max:=maxF
 cat:=List.flatten
 nums:=numsBF
 pSeen:=fun _ _ _=>True
 seen:=fun _ _ _=>false
 pSnd:=fun _ _=>True
 sound:=fun _ _=>false
 soundE:=fun _ _=>(false,0)
 has:=fun _ _=>false
 pIsL:=fun _ _=>True
 isList:=fun _ _=>false
 pVE:=fun _ _=>True
 viewE:=fun _ _=>((0,[],[]),0)
 pVR:=fun _ _=>True
 viewR:=fun _ _=>(0,[],[])
 wtrE:=wtrEF
 wrtE:=wrtEF
 sameL:=fun a b=>decide (a = b)
 missed:=missG endsM
 before:=fun _ _=>false
 aw:=true
 cmpN:=cmpI
 iset:=fun a n=>(1,a,0,0,0,n)
 ilod:=fun a n=>(8,a,0,0,0,n)
 icalc:=fun o a b c=>(o,a,b,c,0,0)
 isto:=fun a n=>(9,a,0,0,0,n)
 iswap:=fun a b c=>(10,5,0,b,c,a)
 bef:=fun i=>2 + 2 * i
 bel:=fun i=>2 + 2 * i + 1
 pBf:=pBfF
 i3:=fun o a b c n=>(o,a,b,c,0,n)
 izero:=fun a n=>(14,a,0,0,0,n)
 iswR:=fun a b c=>(10,5,0,a,b,c)
 ijmp:=fun n=>(13,0,0,0,0,n)
theorem hb24:SpecOk prog 24 (Sb24 MM):=okb24 FF MM rfl rfl
theorem hb16:SpecOk prog 16 (Sb16 MM):=okb16 FF MM rfl
theorem hb80:SpecOk prog 80 (S92 FF):=okb80 FF MM rfl
theorem hb22:SpecOk prog 22 (Sb22 MM):=okb22 FF MM rfl rfl rfl hb80
theorem hb62:SpecOk prog 62 (Sb62 MM):=okb62 FF MM hb22
theorem hb147:SpecOk prog 147 (Sb147 MM):=okb147 FF MM rfl rfl
theorem hb148:XOk prog 148 (Rb148 MM).x:=okb148 FF MM rfl rfl okGrow
theorem hb88:SpecOk prog 88 (Sb88 MM):=okb88 FF MM rfl rfl rfl rfl rfl rfl hb147 hb148
theorem hb34:SpecOk prog 34 (Sb34 MM):=okb34 FF MM rfl rfl rfl hb62 hb88
theorem hb128:SpecOk prog 128 (Sb128 MM):=okb128 FF MM rfl
theorem hb129:SpecOk prog 129 (Sb129 MM):=okb129 FF MM rfl
theorem hb130:SpecOk prog 130 (Sb130 MM):=okb130 FF MM rfl
theorem hb132:SpecOk prog 132 (Sb132 MM):=okb132 FF MM rfl
theorem hb133:SpecOk prog 133 (Sb133 MM):=okb133 FF MM rfl rfl
theorem hb134:SpecOk prog 134 (Sb134 MM):=okb134 FF MM rfl
theorem hb135:SpecOk prog 135 (Sb135 MM):=okb135 FF MM rfl rfl rfl hb133
theorem hb75:SpecOk prog 75 (Sb75 MM):=okb75 FF MM rfl rfl rfl rfl rfl rfl rfl rfl rfl rfl hb128 hb129 hb130 okZero hb132 hb133 hb134 hb135
theorem hb77:SpecOk prog 77 (Sb77 MM):=okb77 FF MM rfl rfl rfl rfl rfl rfl hb128 hb129 hb130 okZero hb134
theorem hb63:SpecOk prog 63 (Sb63 MM):=okb63 FF MM rfl rfl rfl rfl rfl rfl hb75 hb77
theorem hb176:ItOk prog 176 (Ib176 MM):=okb176 FF MM rfl rfl rfl rfl hb133
theorem hb66:SpecOk prog 66 (Sb66 MM):=okb66 FF MM rfl rfl rfl rfl rfl h76 hb176
theorem hb70:SpecOk prog 70 (Sb70 FF MM):=okb70 FF MM rfl rfl
theorem hb17:SpecOk prog 17 (Sb17 MM):=okb17 FF MM rfl rfl rfl rfl rfl rfl rfl rfl rfl rfl rfl rfl hb62 hb63 hb66 h51 hb70
theorem hb123:SpecOk prog 123 (Sb123 MM):=okb123 FF MM rfl
theorem hb105:SpecOk prog 105 (Sb105 MM):=okb105 FF MM rfl rfl rfl rfl rfl rfl rfl rfl h111 hb123 h112 h113
theorem hb104:XOk prog 104 (Rb104 MM).u:=okb104 MM rfl rfl rfl rfl hb105
theorem hb107:SpecOk prog 107 (Sb107 MM):=okb107 FF MM rfl rfl hb105
theorem hb106:XOk prog 106 (Rb106 MM).x:=okb106 FF MM rfl rfl rfl rfl hb107
theorem hb55:SpecOk prog 55 (Sb55 MM):=okb55 FF MM rfl rfl rfl rfl rfl (fun l=>List.mergeSort_perm l _) (fun l=>List.mergeSort_perm l _) rfl rfl rfl rfl rfl hb62 hb63 h19 hb66 hb104 hb105 hb106 hb107
theorem hb72:SpecOk prog 72 (Sb72 MM):=okb72 FF MM rfl rfl
theorem hb18:SpecOk prog 18 (Sb18 MM):=okb18 FF MM rfl rfl rfl rfl rfl hb72 h46
theorem hb19:SpecOk prog 19 (Sb19 MM):=okb19 FF MM rfl
theorem hb59:SpecOk prog 59 (Sb59 MM):=okb59 FF MM rfl rfl rfl rfl hb18
theorem hb23:SpecOk prog 23 (Sb23 MM):=okb23 FF MM rfl rfl rfl rfl rfl rfl rfl run5 sum5 (Eq.trans (congrFun (show MM.ends = endsBG endsM srtB compBL from rfl) _) ends5) (Eq.trans (congrFun (show MM.ends = endsBG endsM srtB compBL from rfl) _) ends8) rfl rfl rfl rfl hb16 hb34 hb17 hb55 hb18 hb19 hb59
theorem hb25:SpecOk prog 25 (Sb25 MM):=okb25 FF MM rfl
theorem hb20:SpecOk prog 20 (Sb20 MM):=okb20 FF MM rfl rfl rfl rfl rfl hb75 hb62
theorem hb21:SpecOk prog 21 (Sb21 MM):=okb21 FF MM rfl rfl rfl rfl rfl hb77 hb62
theorem hb83:XOk prog 83 (Rb83 MM).x:=okb83 FF MM rfl rfl
theorem hb26:SpecOk prog 26 (Sb22 MM):=okb26 FF MM rfl rfl rfl rfl rfl hb83 h63 h54
theorem hb89:SpecOk prog 89 (Sb89 MM):=okb89 FF MM rfl
theorem hb90:SpecOk prog 90 (Sb90 MM):=okb90 FF MM rfl rfl hb89
theorem hb91:SpecOk prog 91 (Sb91 MM):=okb91 FF MM rfl
theorem hb92:SpecOk prog 92 (Sb92 MM):=okb92 FF MM rfl rfl hb89
theorem hb38:SpecOk prog 38 (Sb38 MM):=okb38 FF MM rfl rfl rfl rfl rfl rfl hb89 hb90 hb91 hb92
theorem hb39:SpecOk prog 39 (Sb39 MM):=okb39 FF MM rfl rfl rfl rfl rfl rfl hb89 hb90 hb91 hb92
theorem hb40:SpecOk prog 40 (Sb40 MM):=okb40 FF MM rfl rfl rfl rfl h31
theorem hb8:SpecOk prog 8 LBii:=okb8 FF MM rfl rfl rfl rfl rfl rfl rfl rfl rfl rfl rfl rfl rfl rfl hb24 hb23 hb25 hb20 hb21 hb26 h54 hb38 hb39 hb40
end Go.Proofs.Tryz
