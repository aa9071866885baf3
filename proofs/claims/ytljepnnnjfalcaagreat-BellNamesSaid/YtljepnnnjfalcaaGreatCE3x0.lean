/- What functions of the weak memory compute, proved through the condition generator, and plain facts of it. Conditions: none of ours. -/
import Derived.Calls
import Derived.Orders
import Derived.Below
import Derived.Lib.ItoaNum
import Derived.Laws.Sem
import Derived.Laws.Cells
import Derived.Laws.Entries
import Derived.Laws.StructEq
import Derived.Lib.IfaceEq
import Derived.Lib.IfaceNeq
import Derived.Laws.MakeOwn
import Derived.Laws.AppendOwn
import Derived.Lib.AppendStr
import Derived.Laws.CopyRow
import Derived.Laws.BytesString
import Derived.MapKept
import Derived.OrdersIn
import Derived.RangeFuncCalls
import Derived.RangeFuncLeaves
import Derived.Test.YtljepnnnjfalcaaGreatProg
import Derived.Shelf.SlSortCmp.Insertion
import GoSem.Step
import Derived.Shelf.SlSortCmp.InsertionK
import Derived.Shelf.SlSortCmp.NoneTotal
import Derived.Ground.SlsfProg
import Derived.Shelf.Spec.SlicesGrow
import Derived.Shelf.SlGeneric
import Derived.Ground.Names8Prog
import Derived.WalkKit
import Derived.StillTactics
import Derived.Laws.Pointers
import Derived.Laws.NewBlocks
import Derived.Laws.Rows
import Derived.Handy
import Derived.Lib.SliceRun
import Derived.Sort.LotA
import Derived.Test.YtljepnnnjfalcaaGreatC0
import Derived.Test.YtljepnnnjfalcaaGreatC1
import Derived.Test.YtljepnnnjfalcaaGreatC2
import Derived.Test.YtljepnnnjfalcaaGreatC3
import Derived.Test.YtljepnnnjfalcaaGreatC4
import Derived.Test.YtljepnnnjfalcaaGreatC5
import Derived.Test.YtljepnnnjfalcaaGreatC6
import Derived.Test.YtljepnnnjfalcaaGreatC7
import Derived.Test.YtljepnnnjfalcaaGreatC8
import Derived.Test.YtljepnnnjfalcaaGreatC9
import Derived.Test.YtljepnnnjfalcaaGreatC10
import Derived.Test.YtljepnnnjfalcaaGreatC11
import Derived.Test.YtljepnnnjfalcaaGreatC12
import Derived.Test.YtljepnnnjfalcaaGreatC13
import Derived.Test.YtljepnnnjfalcaaGreatC14
import Derived.Test.YtljepnnnjfalcaaGreatC15
import Derived.Test.YtljepnnnjfalcaaGreatC16
import Derived.Test.YtljepnnnjfalcaaGreatC17
import Derived.Test.YtljepnnnjfalcaaGreatC18
import Derived.Test.YtljepnnnjfalcaaGreatC19
import Derived.Test.YtljepnnnjfalcaaGreatC20
import Derived.Test.YtljepnnnjfalcaaGreatC21
import Derived.Test.YtljepnnnjfalcaaGreatC22
import Derived.Test.YtljepnnnjfalcaaGreatC23
import Derived.Test.YtljepnnnjfalcaaGreatC24
import Derived.Test.YtljepnnnjfalcaaGreatC25
import Derived.Test.YtljepnnnjfalcaaGreatC26
import Derived.Test.YtljepnnnjfalcaaGreatC27
import Derived.Test.YtljepnnnjfalcaaGreatC28
import Derived.Test.YtljepnnnjfalcaaGreatC29
import Derived.Test.YtljepnnnjfalcaaGreatC30
import Derived.Test.YtljepnnnjfalcaaGreatC31
import Derived.Test.YtljepnnnjfalcaaGreatC32
import Derived.Test.YtljepnnnjfalcaaGreatC33
set_option autoImplicit false
set_option maxRecDepth 100000
set_option linter.all false
namespace Go.Proofs.Tryz
open Go Go.VM
theorem at24:prog.funcs[67]? = some f67:=by kernel_rfl
def pl24:Nat→Plan
 | _=>[]
noncomputable def D24 (ann:Nat→LAnn):FnD:=⟨f67.body.getD .skip,f67.ntmps,f67.results.toList,pl24,ann⟩
theorem fnok24 (ann:Nat→LAnn):FnOk prog 67 (D24 ann):=⟨f67,at24,by kernel_rfl,by kernel_rfl,rfl,rfl,by kernel_rfl⟩
theorem at67:prog.funcs[116]? = some f116:=by kernel_rfl
def pl67:Nat→Plan
 | _=>[]
noncomputable def D67 (ann:Nat→LAnn):FnD:=⟨f116.body.getD .skip,f116.ntmps,f116.results.toList,pl67,ann⟩
theorem fnok67 (ann:Nat→LAnn):FnOk prog 116 (D67 ann):=⟨f116,at67,by kernel_rfl,by kernel_rfl,rfl,rfl,by kernel_rfl⟩
theorem at68:prog.funcs[117]? = some f117:=by kernel_rfl
def pl68:Nat→Plan
 | 1=>[(0,[]),(1,[0]),(2,[0]),(3,[]),(4,[]),(5,[]),(6,[5]),(7,[5]),(8,[]),(9,[5,6,7,8]),(10,[]),(11,[]),(12,[]),(13,[])]
 | _=>[]
noncomputable def D68 (ann:Nat→LAnn):FnD:=⟨f117.body.getD .skip,f117.ntmps,f117.results.toList,pl68,ann⟩
theorem fnok68 (ann:Nat→LAnn):FnOk prog 117 (D68 ann):=⟨f117,at68,by kernel_rfl,by kernel_rfl,rfl,rfl,by kernel_rfl⟩
theorem at72:prog.funcs[121]? = some f121:=by kernel_rfl
def pl72:Nat→Plan
 | 3=>[(0,[]),(1,[0]),(2,[0,1]),(3,[0,1,2]),(4,[0,1,2,3]),(5,[0,1,2,3,4]),(6,[0,1,2,3]),(7,[0,1,2,3]),(8,[0,1,2,3,4,5,6,7]),(9,[0,1,2,3,4,5,6,7,8]),(10,[0,1,2,3,4,5,6,7]),(11,[0,1,2,3,4,5,6,7]),(12,[2,3]),(13,[2,3]),(14,[]),(15,[])]
 | _=>[]
noncomputable def D72 (ann:Nat→LAnn):FnD:=⟨f121.body.getD .skip,f121.ntmps,f121.results.toList,pl72,ann⟩
theorem fnok72 (ann:Nat→LAnn):FnOk prog 121 (D72 ann):=⟨f121,at72,by kernel_rfl,by kernel_rfl,rfl,rfl,by kernel_rfl⟩
end Go.Proofs.Tryz
namespace Go.Proofs.Tryz
open Go Go.VM
variable (F:BxF)
noncomputable def vcU (L:Lv) (F:BxF) (o:List (Nat × FT)) (l:List Nat) (d:FnD) (r:TurnSp) (a:List r.e.D) (x:Ds r.ins):VC:=updVC L E01 (callG L E01 (only (tabO o (cT F)) l) 4) (spcOf (only (tabO o (cT F)) l)) d r a x
end Go.Proofs.Tryz
namespace Go.Proofs.Tryz
open Go Go.VM
def a67 (L:Lv) (I:List MtD × Unit→Ds [It]→Prop) (mu:List MtD × Unit→Ds [It]→Nat):Nat→LAnn
 | 0=>anE L [0,1,7,8] [] [.h (.s 0 (.sl Mt))] [.s 8 It] I mu
 | _=>.no
def a24 (L:Lv) (I:List MtD × Int × Unit→Ds [.sl It,It]→Prop) (mu:List MtD × Int × Unit→Ds [.sl It,It]→Nat):Nat→LAnn
 | 0=>anE L [8,10,11] [(11,none,3,It)] [.h (.s 8 (.sl Mt)),.h (.s 10 It)] [.r 11 It,.s 10 It] I mu
 | _=>.no
noncomputable def o24 (L:Lv) (I:List MtD × Unit→Ds [It]→Prop) (mu:List MtD × Unit→Ds [It]→Nat):List (Nat × FT):=[(116,.inl (D67 (a67 L I mu))),(117,.inl (D68 a0))]
def n24 (L:Lv) (F:BxF) (I:List MtD × Int × Unit→Ds [.sl It,It]→Prop) (mu:List MtD × Int × Unit→Ds [.sl It,It]→Nat) (I1:List MtD × Unit→Ds [It]→Prop) (m1:List MtD × Unit→Ds [It]→Nat) (p:WkD) (e:EnD)  : VC :=
 let z1:=p.2;
 let z2:=(Prod.fst p,z1.1,z1.2);
 let z3:=(Prod.fst (BxF.way F p e),Prod.snd (BxF.way F p e),());
 let z4:=(BxF.all F (z2,false));
 let z5:=Ty.pair (Ty.pair (Ty.sl It) (Ty.sl Th)) Kp;
 let z6:=z4.1;
 let z7:=L.llen z5 z6;
 let z8:=L.cast z7;
 let z9:=p.1;
 let z10:=z1.1;
 let z11:=z1.2;
 let z12:=e.1;
 let z13:=e.2;
 let z14:=z13.1;
 let z15:=Ty.int .u8;
 let z16:=z13.2;
 let z17:=(Prod.fst z4,());
 let z18:=List Int × Int × Unit;
 let z19:=Int.negSucc 0;
 let z20:=(Prod.fst z4,Int.negSucc 0,()); .obl (BxF.bw F z2) (.br (L.cmp .neq (BxF.check F z2) 0) (.ok (([],BxF.check F z2,()) = z3)) (.obl (BxF.okM F (z2,
  false)) (.br (L.cmp .neq z4.2 0) (.ok (([],z4.2,()) = z3)) (.obl (St.mk 19 [(0,V.c (C.sl z5 z6)),(1,V.c (C.fn 117 [3,2])),(7,V.c (C.int
  .i64 z8)),(8,V.c (C.int .i64 0))] [(0,Ob.amb),(1,Ob.box 50 [C.sl It z9,C.sl (Ty.sl In) z10,C.int .i64 z11]),(2,Ob.box 114 [C.sl It z12,C.sl (Ty.sl
  It) z14,C.sl z15 z16]),(3,Ob.box 149 [C.sl It z9,C.sl (Ty.sl In) z10,C.int .i64 z11,C.sym false])] 4 = St.mk 19 [(0,V.c (C.sl z5 z6)),(1,V.c (C.fn 117 [3,2])),
  (7,V.c (C.int .i64 z8)),(8,V.c (C.int .i64 0))] [(0,Ob.amb),(1,Ob.box 50 [C.sl It z9,C.sl (Ty.sl In) z10,C.int .i64 z11]),(2,Ob.box 114 [C.sl It
  z12,C.sl (Ty.sl It) z14,C.sl z15 z16]),(3,Ob.box 149 [C.sl It z9,C.sl (Ty.sl In) z10,C.int .i64 z11,C.sym false])] 4) (.obl (I1 z17 (0,())) (.all (Int × Unit)
  fun (v1:Int × Unit) =>
 let z21:=v1.1;
 let z22:=L.get z5 z6 (L.toN z21);
 let z23:=z22.1;
 let z24:=(Prod.fst z23,z23.2);
 let z25:=(BxF.endOf F (z2,false) z24);
 let z26:=z25.2;
 let z27:=(Prod.fst z25,z26.1,z26.2);
 let z28:=z23.1;
 let z29:=z23.2;
 let z30:=z22.2;
 let z31:=z30.1;
 let z32:=z30.2;
 let z33:=(Prod.fst z4,v1.1,());
 let z34:=L.ar .add .i64 z21 1;
 let z35:=(L.ar .add .i64 z21 1,()); .imp (I1 z17 v1) (.br (L.cmp .lss z21 z8) (.obl (L.inR z21 z7) (.obl (BxF.pE F z24 (z2,false)) (.br
  (BxF.ended F (z2,false) z24) (.obl (BxF.pEnd F (z2,false) z24) (.obl (BxF.be F z27) (.br (L.cmp .eql (BxF.cmpE F z27 (Prod.fst e,z13.1,z13.2)) 0)
  (.br (L.cmp .lss z21 0) (.ok (([],7,()) = z3)) (.obl (St.mk 50 [(8,V.c (C.sl z5 z6)),(10,V.c (C.int .i64 z21)),(11,V.c (C.own 6 0))] [(0,Ob.amb),(1,
  Ob.box 50 [C.sl It z9,C.sl (Ty.sl In) z10,C.int .i64 z11]),(2,Ob.box 114 [C.sl It z12,C.sl (Ty.sl It) z14,C.sl z15 z16]),(3,Ob.box 149 [C.sl It z9,C.sl (Ty.sl In)
  z10,C.int .i64 z11,C.sym false]),(4,Ob.box 174 [C.sl It z28,C.sl Th z29,C.int .i64 z31,C.int .i64 z32]),(6,Ob.row 3 It [])] 7 = St.mk 50 [(8,V.c
  (C.sl z5 z6)),(10,V.c (C.int .i64 z21)),(11,V.c (C.own 6 (L.llen It [])))] [(0,Ob.amb),(1,Ob.box 50 [C.sl It z9,C.sl (Ty.sl In) z10,C.int .i64 z11]),
  (2,Ob.box 114 [C.sl It z12,C.sl (Ty.sl It) z14,C.sl z15 z16]),(3,Ob.box 149 [C.sl It z9,C.sl (Ty.sl In) z10,C.int .i64 z11,C.sym false]),(4,Ob.box 174 [C.sl It
  z28,C.sl Th z29,C.int .i64 z31,C.int .i64 z32]),(6,Ob.row 3 It [])] 7) (.obl (I z33 ([],v1.1,())) (.all z18 fun (v2:List Int × Int × Unit) =>
 let z36:=v2.2.1;
 let z37:=L.inR z36 z7;
 let z38:=v2.1;
 let z39:=L.llen It z38;
 let z40:=L.take It z38 z39;
 let z41:=Prod.snd (L.get z5 z6 (L.toN z36));
 let z42:=L.take It [Prod.snd z41] 1;
 let z43:=L.add (L.llen It z40) (L.llen It z42);
 let z44:=z41.1;
 let z45:=L.app It z40 z42;
 let z46:=(L.app It z40 z42,z41.1,()); .imp (I z33 v2) (.br (L.cmp .gtr z36 0) (.obl z37 (.obl (L.room z43 8) (.obl z37 (.ok (St.mk 50 [(8,V.c
  (C.sl z5 z6)),(10,V.c (C.int .i64 z44)),(11,V.c (C.own 6 z43))] [(0,Ob.amb),(1,Ob.box 50 [C.sl It z9,C.sl (Ty.sl In) z10,C.int .i64 z11]),(2,Ob.box 114
  [C.sl It z12,C.sl (Ty.sl It) z14,C.sl z15 z16]),(3,Ob.box 149 [C.sl It z9,C.sl (Ty.sl In) z10,C.int .i64 z11,C.sym false]),(4,Ob.box 174 [C.sl It z28,C.sl Th
  z29,C.int .i64 z31,C.int .i64 z32]),(6,Ob.row 3 It z45)] 7 = St.mk 50 [(8,V.c (C.sl z5 z6)),(10,V.c (C.int .i64 z44)),(11,V.c (C.own 6 (L.llen It
  z45)))] [(0,Ob.amb),(1,Ob.box 50 [C.sl It z9,C.sl (Ty.sl In) z10,C.int .i64 z11]),(2,Ob.box 114 [C.sl It z12,C.sl (Ty.sl It) z14,C.sl z15 z16]),(3,Ob.box 149
  [C.sl It z9,C.sl (Ty.sl In) z10,C.int .i64 z11,C.sym false]),(4,Ob.box 174 [C.sl It z28,C.sl Th z29,C.int .i64 z31,C.int .i64 z32]),(6,Ob.row 3 It
  z45)] 7∧I z33 z46∧mu z33 z46 < mu z33 v2))))) (.obl (3 = 3∧L.llen It z38 = L.llen It z38∧BxF.bl F z38) (.ok ((L.take It (BxF.rev F z38) z39,0,()) =
  z3)))))))) (.ok (St.mk 19 [(0,V.c (C.sl z5 z6)),(1,V.c (C.fn 117 [3,2])),(7,V.c (C.int .i64 z8)),(8,V.c (C.int .i64 z34))] [(0,Ob.amb),(1,Ob.box 50
  [C.sl It z9,C.sl (Ty.sl In) z10,C.int .i64 z11]),(2,Ob.box 114 [C.sl It z12,C.sl (Ty.sl It) z14,C.sl z15 z16]),(3,Ob.box 149 [C.sl It z9,C.sl (Ty.sl In) z10,C.int
  .i64 z11,C.sym false])] 4 = St.mk 19 [(0,V.c (C.sl z5 z6)),(1,V.c (C.fn 117 [3,2])),(7,V.c (C.int .i64 z8)),(8,V.c (C.int .i64 z34))] [(0,Ob.amb),
  (1,Ob.box 50 [C.sl It z9,C.sl (Ty.sl In) z10,C.int .i64 z11]),(2,Ob.box 114 [C.sl It z12,C.sl (Ty.sl It) z14,C.sl z15 z16]),(3,Ob.box 149 [C.sl It z9,C.sl (Ty.sl
  In) z10,C.int .i64 z11,C.sym false])] 4∧I1 z17 z35∧m1 z17 z35 < m1 z17 v1))))) (.ok (St.mk 19 [(0,V.c (C.sl z5 z6)),(1,V.c (C.fn 117 [3,2])),(7,V.c (C.int
  .i64 z8)),(8,V.c (C.int .i64 z34))] [(0,Ob.amb),(1,Ob.box 50 [C.sl It z9,C.sl (Ty.sl In) z10,C.int .i64 z11]),(2,Ob.box 114 [C.sl It z12,C.sl (Ty.sl
  It) z14,C.sl z15 z16]),(3,Ob.box 149 [C.sl It z9,C.sl (Ty.sl In) z10,C.int .i64 z11,C.sym false])] 4 = St.mk 19 [(0,V.c (C.sl z5 z6)),(1,V.c (C.fn 117 [3,2])),
  (7,V.c (C.int .i64 z8)),(8,V.c (C.int .i64 z34))] [(0,Ob.amb),(1,Ob.box 50 [C.sl It z9,C.sl (Ty.sl In) z10,C.int .i64 z11]),(2,Ob.box 114 [C.sl It
  z12,C.sl (Ty.sl It) z14,C.sl z15 z16]),(3,Ob.box 149 [C.sl It z9,C.sl (Ty.sl In) z10,C.int .i64 z11,C.sym false])] 4∧I1 z17 z35∧m1 z17 z35 < m1 z17 v1)))))
  (.br (L.cmp .lss z19 0) (.ok (([],7,()) = z3)) (.obl (St.mk 50 [(8,V.c (C.sl z5 z6)),(10,V.c (C.int .i64 z19)),(11,V.c (C.own 5 0))] [(0,Ob.amb),(1,
  Ob.box 50 [C.sl It z9,C.sl (Ty.sl In) z10,C.int .i64 z11]),(2,Ob.box 114 [C.sl It z12,C.sl (Ty.sl It) z14,C.sl z15 z16]),(3,Ob.box 149 [C.sl It z9,C.sl (Ty.sl In)
  z10,C.int .i64 z11,C.sym false]),(5,Ob.row 3 It [])] 6 = St.mk 50 [(8,V.c (C.sl z5 z6)),(10,V.c (C.int .i64 z19)),(11,V.c (C.own 5 (L.llen It [])))]
  [(0,Ob.amb),(1,Ob.box 50 [C.sl It z9,C.sl (Ty.sl In) z10,C.int .i64 z11]),(2,Ob.box 114 [C.sl It z12,C.sl (Ty.sl It) z14,C.sl z15 z16]),(3,Ob.box 149 [C.sl It
  z9,C.sl (Ty.sl In) z10,C.int .i64 z11,C.sym false]),(5,Ob.row 3 It [])] 6) (.obl (I z20 ([],Int.negSucc 0,())) (.all z18 fun (v3:List Int × Int × Unit) =>
 let z47:=v3.2.1;
 let z48:=L.inR z47 z7;
 let z49:=v3.1;
 let z50:=L.llen It z49;
 let z51:=L.take It z49 z50;
 let z52:=Prod.snd (L.get z5 z6 (L.toN z47));
 let z53:=L.take It [Prod.snd z52] 1;
 let z54:=L.add (L.llen It z51) (L.llen It z53);
 let z55:=z52.1;
 let z56:=L.app It z51 z53;
 let z57:=(L.app It z51 z53,z52.1,()); .imp (I z20 v3) (.br (L.cmp .gtr z47 0) (.obl z48 (.obl (L.room z54 8) (.obl z48 (.ok (St.mk 50 [(8,V.c
  (C.sl z5 z6)),(10,V.c (C.int .i64 z55)),(11,V.c (C.own 5 z54))] [(0,Ob.amb),(1,Ob.box 50 [C.sl It z9,C.sl (Ty.sl In) z10,C.int .i64 z11]),(2,Ob.box 114
  [C.sl It z12,C.sl (Ty.sl It) z14,C.sl z15 z16]),(3,Ob.box 149 [C.sl It z9,C.sl (Ty.sl In) z10,C.int .i64 z11,C.sym false]),(5,Ob.row 3 It z56)] 6 = St.mk 50 [(8,
  V.c (C.sl z5 z6)),(10,V.c (C.int .i64 z55)),(11,V.c (C.own 5 (L.llen It z56)))] [(0,Ob.amb),(1,Ob.box 50 [C.sl It z9,C.sl (Ty.sl In) z10,C.int .i64
  z11]),(2,Ob.box 114 [C.sl It z12,C.sl (Ty.sl It) z14,C.sl z15 z16]),(3,Ob.box 149 [C.sl It z9,C.sl (Ty.sl In) z10,C.int .i64 z11,C.sym false]),(5,Ob.row 3 It
  z56)] 6∧I z20 z57∧mu z20 z57 < mu z20 v3))))) (.obl (3 = 3∧L.llen It z49 = L.llen It z49∧BxF.bl F z49) (.ok ((L.take It (BxF.rev F z49) z50,0,()) =
  z3)))))))))))))))
theorem n24_go (L:Lv) (F:BxF) (I:List MtD × Int × Unit→Ds [.sl It,It]→Prop) (mu:List MtD × Int × Unit→Ds [.sl It,It]→Nat) (I1:List MtD × Unit→Ds [It]→Prop) (m1:List MtD × Unit→Ds [It]→Nat) (p:WkD) (e:EnD) (h:VC.holds (n24 L F I mu I1 m1 p e)):Holds (vcO L F (o24 L I1 m1) [98,115,116,117,118,119,120,121] 4 (D24 (a24 L I mu)) (S24 F) (p,e,())):=Holds.of_eq (by kernel_rfl) h
theorem ok24 (F:BxF) (h:F.way = wayG) (h1:F.ended = endedF) (h2:F.endOf = endOfF) (h3:F.cmpE = cmpEF) (h4:F.all = allF) (h5:F.check = checkF) (h6:F.rev = List.reverse) (hp:F.pWay = fun p _=>bW p) (q:F.bw = bW) (q1:F.okM = fun m=>OkP m.1) (q2:F.pE = pEF) (q3:F.pEnd = fun m s=>bS s∧s.2.length≤m.1.2.1.length) (q4:F.be = sEn) (q5:F.bl = bL) (k1:SpecOk prog 98 (S22 F)) (k2:SpecOk prog 115 (S66 F)) (k3:SpecOk prog 118 (S69 F)) (k4:SpecOk prog 120 (S71 F)) (k5:SpecOk prog 119 (S70 F)) (k6:XOk prog 121 (R72 F).u):SpecOk prog 67 (S24 F):=by
 refine Zc hm hE D24 fnok24 _ fun (z:WkD × EnD × Unit) hpre=>?_
 obtain ⟨p,e,⟨⟩⟩:=z
 have hpre':F.pWay p e:=hpre
 rw [hp] at hpre'
 have g:bW p:=hpre'
 let I:List MtD × Int × Unit→List Int × Int × Unit→Prop:=fun e x=>(0≤x.2.1∧x.2.1 < e.1.length)∧(x.1.length:Int) + x.2.1≤e.2.1∧x.1 ++ picksN e.1 (20001 - x.1.length) x.2.1.toNat = picksN e.1 20001 e.2.1.toNat
 let mu:List MtD × Int × Unit→List Int × Int × Unit→Nat:=fun e x=>x.2.1.toNat
 let I1:List MtD × Unit→Int × Unit→Prop:=fun l=>Iv l.1.length fun k=>∀ j (hj:j < l.1.length),j < k→hitF (p,false) e l.1[j] = false
 let m1:List MtD × Unit→Int × Unit→Nat:=fun l=>Mu l.1.length
 refine Yp _ 4 (a24 Lv.std I mu) (Zs (T:=tabO (o24 Lv.std I1 m1) (cT F)) (l:=[98,115,116,117,118,119,120,121]) (Za (Yh k1 (by kernel_rfl)) (Za (Yh k2 (by kernel_rfl)) (Za (Yy (fnok67 (a67 Lv.std I1 m1)) (by kernel_rfl)) (Za (Yy (fnok68 a0) (by kernel_rfl)) (Za (Yh k3 (by kernel_rfl)) (Za (Yh k5 (by kernel_rfl)) (Za (Yh k4 (by kernel_rfl)) (Za (XB k6 (by kernel_rfl)) Z4))))))))) ?_
 refine n24_go Lv.std F I mu I1 m1 p e ?_
 have e1:∀ (l:List MtD) (k:Int),Lv.std.get Mt l k.toNat = (l[k.toNat]?).getD (([],[]),0,0):=fun _ _=>rfl
 simp only [n24,VC.holds,ZJ,ZO,Zb,Zh,Zm,Yj,Ym,Z5,ZM,Yl,Yk,Yf,ZX,ZY,ZT,ZR,Ye,ZN,Zz,ZD,Zr,Z1,ZS,Z2,ZK,ZW,Yb,ZV,ZP,ZQ,Zt,ZH,Ya,Z3,ZI,Yd,Yc,Z6,Z7,Zg,ZC,ZL,ZU,Z8,Z9,Zd,Ze,ZA,ZB,Zu,Zv,Zx,Zy,Zk,Zl,Zp,Zq,Zi,Zj,Zn,Zo,ZG,ZF,ZZ,Yg,ZE,e1,h1,h2,h3,h4,h5,h6,q,q1,q2,q3,q4,q5,pe5,List.take_length,List.take_succ_cons,List.take_zero,List.length_append,List.length_cons,List.length_nil,Nat.zero_add,Prod.mk.injEq,and_true,true_and]
 have hz:F.way p e = wayG p e:=by rw [h]
 refine ⟨g,fun hc=>?_,fun hc=>?_⟩
 ·rw [hz,wayG,if_pos hc]; exact ⟨rfl,rfl⟩
 have hP:OkP p:=(okP_iff p).1 hc
 refine ⟨hP,fun hA=>?_,fun hA=>?_⟩
 ·rw [hz,wayG,if_neg (by rw [hc]; simp),if_pos hA]; exact ⟨rfl,rfl⟩
 rw [hz,wayG,if_neg (by rw [hc]; simp),if_neg (by rw [hA]; simp)]
 have M:=all_ok hP hA
 generalize (allF (p,false)).1 = l at *
 have hlen:=M.len
 refine ⟨Iv.zero (fun j hj h0=>by omega),fun x hx=>?_⟩
 obtain ⟨n,rfl,i1,i2⟩:=Iv.elim hx
 simp only at i1 i2 ⊢
 simp only [Int.toNat_natCast]
 refine ⟨fun hlt=>?_,fun hge=>?_⟩
 ·have hn:n < l.length:=by omega
  have os:=M.ok _ (List.getElem_mem hn)
  rw [List.getElem?_eq_getElem hn,Option.getD_some,wr hlt (by omega)]
  have nxt:hitF (p,false) e l[n] = false→I1 (l,()) (((n + 1:Nat):Int),())∧m1 (l,()) (((n + 1:Nat):Int),()) < m1 (l,()) ((n:Int),()):=fun hh=>⟨Iv.mk (by show n + 1≤l.length; omega) (fun j hj h0=>by
   by_cases hjn:j = n
   ·subst hjn; exact hh
   ·exact i2 j hj (by omega)),Mu.lt hn⟩
  refine ⟨⟨by omega,hlt⟩,ok_pE hP os,fun he=>⟨⟨ok_bS hP os,by have:=os.tl; omega⟩,ok_sEn hP os,fun hc=>⟨fun h0=>by omega,fun _=>?_⟩,fun hc=>?_⟩,fun he=>?_⟩
  ·have hit:hitF (p,false) e l[n] = true:=by unfold hitF; rw [he]; simpa using hc
   have hf:l.findIdx? (hitF (p,false) e) = some n:=by
    rw [List.findIdx?_eq_some_iff_getElem]
    exact ⟨hn,hit,fun j hj=>by rw [i2 j (by omega) hj]; simp⟩
   rw [hf]
   refine ⟨⟨⟨by show (0:Int)≤n; omega,hlt⟩,by show ((([]:List Int).length:Nat):Int) + (n:Int)≤n; simp,rfl⟩,?_⟩
   rintro ⟨o,x,⟨⟩⟩ ⟨⟨j1,j2⟩,j3,j4⟩
   simp only at j1 j2 j3 j4 ⊢
   obtain ⟨j,rfl⟩:=Yq j1
   have hj:j < l.length:=by omega
   rw [Int.toNat_natCast,Int.toNat_natCast] at j4
   simp only [Int.toNat_natCast,List.getElem?_eq_getElem hj,Option.getD_some]
   refine ⟨fun hpos=>?_,fun hz0=>?_⟩
   ·have hb:=M.back j hj (by omega)
    refine ⟨⟨j1,j2⟩,⟨by omega,by omega⟩,⟨j1,j2⟩,⟨⟨hb.1,by show l[j].2.1 < (l.length:Int); omega⟩,?_,?_⟩,?_⟩
    ·show (((o ++ [l[j].2.2]).length:Nat):Int) + l[j].2.1≤n
     simp only [List.length_append,List.length_cons,List.length_nil]
     omega
    ·show (o ++ [l[j].2.2]) ++ picksN l (20001 - (o ++ [l[j].2.2]).length) l[j].2.1.toNat = picksN l 20001 (n:Int).toNat
     rw [Int.toNat_natCast,← j4]
     obtain ⟨f,hf⟩:∃ f,20001 - o.length = f + 1:=⟨20001 - o.length - 1,by omega⟩
     rw [hf,picksN,if_neg (by omega),List.getElem?_eq_getElem hj,List.append_assoc]
     simp only [List.length_append,List.length_cons,List.length_nil,List.cons_append,List.nil_append]
     rw [show 20001 - (o.length + (0 + 1)) = f by omega]
    ·show l[j].2.1.toNat < (j:Int).toNat
     omega
   ·have hj0:j = 0:=by omega
    subst hj0
    obtain ⟨f,hf⟩:∃ f,20001 - o.length = f + 1:=⟨20001 - o.length - 1,by omega⟩
    rw [hf,picksN,if_pos rfl,List.append_nil] at j4
    rw [← j4]
    refine ⟨by show o.length≤1000000; omega,?_,trivial⟩
    rw [List.take_of_length_le (by simp)]
  ·exact nxt (by unfold hitF; rw [he]; simpa using hc)
  ·exact nxt (by unfold hitF; rw [he]; rfl)
 ·have hf:l.findIdx? (hitF (p,false) e) = none:=by
   rw [List.findIdx?_eq_none_iff]
   intro x hx
   obtain ⟨j,hj,rfl⟩:=List.getElem_of_mem hx
   exact i2 j hj (by omega)
  rw [hf]
  refine ⟨fun _=>⟨rfl,rfl⟩,fun h0=>absurd h0 (by decide)⟩
end Go.Proofs.Tryz
namespace Go.Proofs.Tryz
open Go Go.VM
def a72 (L:Lv) (I:List Int × Unit→Ds [.sl It,It,It]→Prop) (mu:List Int × Unit→Ds [.sl It,It,It]→Nat):Nat→LAnn
 | 0=>anE L [0,2,3] [] [.h (.ri 0 It)] [.ri 0 It,.s 2 It,.s 3 It] I mu
 | _=>.no
def n72 (L:Lv) (F:BxF) (I:List Int × Unit→Ds [.sl It,It,It]→Prop) (mu:List Int × Unit→Ds [.sl It,It,It]→Nat) (a:List Int)  : VC :=
 let z1:=L.llen It a;
 let z2:=L.cast z1;
 let z3:=L.ar .sub .i64 z2 1; .obl (St.mk 28 [(0,V.c (C.own 1 z1)),(2,V.c (C.int .i64 0)),(3,V.c (C.int .i64 z3))] [(0,Ob.amb),(1,Ob.row 3
  It a)] 2 = St.mk 28 [(0,V.c (C.own 1 z1)),(2,V.c (C.int .i64 0)),(3,V.c (C.int .i64 z3))] [(0,Ob.amb),(1,Ob.row 3 It a)] 2) (.obl (I (a,()) (a,0,Lv.ar
  L .sub .i64 z2 1,())) (.all (List Int × Int × Int × Unit) fun (v1:List Int × Int × Int × Unit) =>
 let z4:=v1.2.1;
 let z5:=v1.2.2.1;
 let z6:=L.inR z5 z1;
 let z7:=L.toN z5;
 let z8:=v1.1;
 let z9:=L.llen It z8;
 let z10:=L.inR z4 z1;
 let z11:=L.toN z4;
 let z12:=L.ltN z11 z9;
 let z13:=L.setl It z8 z11 (L.get It z8 z7);
 let z14:=L.ar .add .i64 z4 1;
 let z15:=L.ar .sub .i64 z5 1;
 let z16:=L.get It z8 z11;
 let z17:=L.setl It z13 z7 z16;
 let z18:=(L.setl It z13 z7 z16,L.ar .add .i64 z4 1,L.ar .sub .i64 z5 1,()); .imp (I (a,()) v1) (.br (L.cmp .lss z4 z5) (.obl z6
  (.obl (L.ltN z7 z9) (.obl z10 (.obl z12 (.obl z10 (.obl z12 (.obl z6 (.obl (L.ltN z7 (L.llen It z13)) (.ok (St.mk 28 [(0,V.c (C.own 1 z1)),(2,V.c
  (C.int .i64 z14)),(3,V.c (C.int .i64 z15))] [(0,Ob.amb),(1,Ob.row 3 It z17)] 2 = St.mk 28 [(0,V.c (C.own 1 z1)),(2,V.c (C.int .i64 z14)),(3,V.c
  (C.int .i64 z15))] [(0,Ob.amb),(1,Ob.row 3 It z17)] 2∧I (a,()) z18∧mu (a,()) z18 < mu (a,()) v1)))))))))) (.ok (3 = 3∧Prod.fst v1 = BxF.rev F a)))))
theorem n72_go (L:Lv) (F:BxF) (I:List Int × Unit→Ds [.sl It,It,It]→Prop) (mu:List Int × Unit→Ds [.sl It,It,It]→Nat) (a:List Int) (h:VC.holds (n72 L F I mu a)):Holds (vcU L F [] [] (D72 (a72 L I mu)) (R72 F) a ()):=Holds.of_eq (by kernel_rfl) h
theorem ok72 (F:BxF) (h:F.rev = List.reverse) (hp:F.bl = bL):XOk prog 121 (R72 F).u:=by
 let I:List Int × Unit→List Int × Int × Int × Unit→Prop:=fun e x=>0≤x.2.1∧x.2.1≤e.1.length∧x.2.2.1 = e.1.length - 1 - x.2.1∧x.1.length = e.1.length ∧
  ∀ k:Nat,k < e.1.length→x.1[k]? = if (k:Int) < x.2.1∨(e.1.length:Int) - 1 - k < x.2.1 then e.1[e.1.length - 1 - k]? else e.1[k]?
 let mu:List Int × Unit→List Int × Int × Int × Unit→Nat:=fun e x=>(e.1.length - x.2.1).toNat
 refine updX_ok hm hE 4 (fns:=only (tabO [] (cT F)) []) (Zs Z4) (fnok72 (a72 Lv.std I mu)) (R72 F) fun (a:List Int) (z:Unit) hpre=>?_
 have hpre':F.bl a:=hpre
 rw [hp] at hpre'
 have g:a.length≤1000000:=hpre'
 refine n72_go Lv.std F I mu a ?_
 simp only [n72,VC.holds,ZJ,Zt,Zr,ZH,Z1,ZS,ZG,ZI,Z6,Zb,Zh,Zd,Ze,h,List.length_set,Prod.mk.injEq,and_true,true_and]
 have ew:IntKind.i64.wrap ((a.length:Int) - 1) = (a.length:Int) - 1:=Yn (by omega) (by omega)
 rw [ew]
 refine ⟨⟨Int.le_refl 0,by show (0:Int)≤a.length; omega,by show (a.length:Int) - 1 = a.length - 1 - 0; omega,rfl,fun k hk=>?_⟩,?_⟩
 ·have hk:k < a.length:=hk
  show a[k]? = if (k:Int) < 0∨(a.length:Int) - 1 - k < 0 then _ else _
  rw [if_neg (by omega)]
 ·rintro ⟨l,i,j,⟨⟩⟩ ⟨i1,i2,i3,i4,i5⟩
  simp only at i1 i2 i3 i4 i5 ⊢
  obtain ⟨n,rfl⟩:=Yq i1
  refine ⟨fun hlt=>?_,fun hge=>?_⟩
  ·obtain ⟨m,rfl⟩:=Yq (x:=j) (by omega)
   have hn:n < a.length:=by omega
   have hm:m < a.length:=by omega
   have e1:IntKind.i64.wrap ((n:Int) + 1) = (n:Int) + 1:=Yn (by omega) (by omega)
   have e2:IntKind.i64.wrap ((m:Int) - 1) = (m:Int) - 1:=Yn (by omega) (by omega)
   rw [e1,e2,Int.toNat_natCast,Int.toNat_natCast,i4]
   refine ⟨⟨by omega,by omega⟩,hm,⟨i1,by omega⟩,hn,⟨i1,by omega⟩,hn,⟨by omega,by omega⟩,hm,⟨by show (0:Int)≤(n:Int) + 1; omega,by show (n:Int) + 1≤a.length; omega,by show (m:Int) - 1 = (a.length:Int) - 1 - ((n:Int) + 1); omega,by show (List.set _ _ _).length = _; rw [List.length_set,List.length_set]; exact i4,fun k hk=>?_⟩,by show ((a.length:Int) - ((n:Int) + 1)).toNat < ((a.length:Int) - (n:Int)).toNat; omega⟩
   show ((l.set n ((l[m]?).getD 0)).set m ((l[n]?).getD 0))[k]? = if (k:Int) < (n:Int) + 1∨(a.length:Int) - 1 - k < (n:Int) + 1 then a[a.length - 1 - k]? else a[k]?
   have hk:k < a.length:=hk
   have h5:=i5 k hk
   have hln:=i5 n hn
   have hlm:=i5 m hm
   rw [if_neg (by omega)] at hln hlm
   by_cases hkm:k = m
   ·subst hkm
    rw [List.getElem?_set_self (by rw [List.length_set,i4]; exact hm),if_pos (by omega),show a.length - 1 - k = n by omega,hln,List.getElem?_eq_getElem hn]; rfl
   ·rw [List.getElem?_set_ne (fun e=>hkm e.symm)]
    by_cases hkn:k = n
    ·subst hkn
     rw [List.getElem?_set_self (by rw [i4]; exact hn),if_pos (by omega),show a.length - 1 - k = m by omega,hlm,List.getElem?_eq_getElem hm]; rfl
    ·rw [List.getElem?_set_ne (fun e=>hkn e.symm),h5]
     by_cases hc:(k:Int) < n∨(a.length:Int) - 1 - k < n
     ·rw [if_pos hc,if_pos (by omega)]
     ·rw [if_neg hc,if_neg (by omega)]
  ·refine List.ext_getElem? fun k=>?_
   by_cases hk:k < a.length
   ·rw [i5 k hk,List.getElem?_reverse hk]
    by_cases hc:(k:Int) < n∨(a.length:Int) - 1 - k < n
    ·rw [if_pos hc]
    ·rw [if_neg hc,show a.length - 1 - k = k by omega]
   ·rw [List.getElem?_eq_none (by omega),List.getElem?_eq_none (by rw [List.length_reverse]; omega)]
end Go.Proofs.Tryz
namespace Go.Proofs.Tryz
open Go Go.VM
theorem h72:XOk prog 121 (R72 FF).u:=ok72 FF rfl rfl
theorem h24:SpecOk prog 67 (S24 FF):=ok24 FF rfl rfl rfl rfl rfl rfl rfl rfl rfl rfl rfl rfl rfl rfl h38 h66 h69 h71 h70 h72
end Go.Proofs.Tryz
namespace Go.Proofs.Tryz
open Go Go.VM
theorem atb3:prog.funcs[3]? = some f3:=by kernel_rfl
def plb3:Nat→Plan
 | 6=>[(0,[]),(1,[]),(2,[]),(3,[]),(4,[3]),(5,[3]),(6,[]),(7,[]),(8,[]),(9,[]),(10,[9]),(11,[9]),(12,[]),(13,[]),(14,[])]
 | _=>[]
noncomputable def Db3 (ann:Nat→LAnn):FnD:=⟨f3.body.getD .skip,f3.ntmps,f3.results.toList,plb3,ann⟩
theorem fnokb3 (ann:Nat→LAnn):FnOk prog 3 (Db3 ann):=⟨f3,atb3,by kernel_rfl,by kernel_rfl,rfl,rfl,by kernel_rfl⟩
theorem atb15:prog.funcs[15]? = some f15:=by kernel_rfl
def plb15:Nat→Plan
 | 12=>[(0,[]),(1,[0]),(2,[0,1]),(3,[0,1]),(4,[0,1,2,3]),(5,[0,1,2,3]),(6,[0]),(7,[])]
 | _=>[]
noncomputable def Db15 (ann:Nat→LAnn):FnD:=⟨f15.body.getD .skip,f15.ntmps,f15.results.toList,plb15,ann⟩
theorem fnokb15 (ann:Nat→LAnn):FnOk prog 15 (Db15 ann):=⟨f15,atb15,by kernel_rfl,by kernel_rfl,rfl,rfl,by kernel_rfl⟩
theorem atb65:prog.funcs[65]? = some f65:=by kernel_rfl
def plb65:Nat→Plan
 | 2=>[(0,[]),(1,[]),(2,[0,1]),(3,[0,1]),(4,[]),(5,[]),(6,[]),(7,[]),(8,[]),(9,[6,7,8]),(10,[]),(11,[])]
 | _=>[]
noncomputable def Db65 (ann:Nat→LAnn):FnD:=⟨f65.body.getD .skip,f65.ntmps,f65.results.toList,plb65,ann⟩
theorem fnokb65 (ann:Nat→LAnn):FnOk prog 65 (Db65 ann):=⟨f65,atb65,by kernel_rfl,by kernel_rfl,rfl,rfl,by kernel_rfl⟩
theorem atb68:prog.funcs[68]? = some f68:=by kernel_rfl
def plb68:Nat→Plan
 | _=>[]
noncomputable def Db68 (ann:Nat→LAnn):FnD:=⟨f68.body.getD .skip,f68.ntmps,f68.results.toList,plb68,ann⟩
theorem fnokb68 (ann:Nat→LAnn):FnOk prog 68 (Db68 ann):=⟨f68,atb68,by kernel_rfl,by kernel_rfl,rfl,rfl,by kernel_rfl⟩
theorem atb112:prog.funcs[112]? = some f112:=by kernel_rfl
def plb112:Nat→Plan
 | 1=>[(0,[]),(1,[]),(2,[]),(3,[0,1,2]),(4,[]),(5,[]),(6,[0,1,2,3,4,5]),(7,[0,1,2,3,4,5]),(8,[])]
 | 3=>[(0,[]),(1,[]),(2,[]),(3,[]),(4,[]),(5,[]),(6,[]),(7,[4,5,6]),(8,[4,5,6]),(9,[4,5,6]),(10,[4,5,6,7,8,9]),(11,[4,5,6]),(12,[4,5,6]),(13,[]),(14,[]),(15,[]),(16,[]),(17,[]),(18,[]),(19,[]),(20,[16,17,18,19]),(21,[16,17,18,19]),(22,[16,17,18,19]),(23,[16,17,18,19]),(24,[]),(25,[16,17,18,19,20,21,22,23,24]),(26,[16,17,18,19,20,21,22,23,24]),(27,[16,17,18,19,20,21,22,23,24]),(28,[]),(29,[]),(30,[])]
 | _=>[]
noncomputable def Db112 (ann:Nat→LAnn):FnD:=⟨f112.body.getD .skip,f112.ntmps,f112.results.toList,plb112,ann⟩
theorem fnokb112 (ann:Nat→LAnn):FnOk prog 112 (Db112 ann):=⟨f112,atb112,by kernel_rfl,by kernel_rfl,rfl,rfl,by kernel_rfl⟩
theorem atb175:prog.funcs[175]? = some f175:=by kernel_rfl
def plb175:Nat→Plan
 | _=>[]
noncomputable def Db175 (ann:Nat→LAnn):FnD:=⟨f175.body.getD .skip,f175.ntmps,f175.results.toList,plb175,ann⟩
theorem fnokb175 (ann:Nat→LAnn):FnOk prog 175 (Db175 ann):=⟨f175,atb175,by kernel_rfl,by kernel_rfl,rfl,rfl,by kernel_rfl⟩
theorem atb210:prog.funcs[210]? = some f210:=by kernel_rfl
def plb210:Nat→Plan
 | _=>[]
noncomputable def Db210 (ann:Nat→LAnn):FnD:=⟨f210.body.getD .skip,f210.ntmps,f210.results.toList,plb210,ann⟩
theorem fnokb210 (ann:Nat→LAnn):FnOk prog 210 (Db210 ann):=⟨f210,atb210,by kernel_rfl,by kernel_rfl,rfl,rfl,by kernel_rfl⟩
end Go.Proofs.Tryz
namespace Go.Proofs.Tryz
open Go Go.VM
structure IxF where
 p:List Int→Prop
 ix:List Int→Int→Int
def ixF (l:List Int) (n:Int):Int:=match l.findIdx? fun x=>decide (n = x) with
 | some k=>(k:Int)
 | none=>-1
def hasIF (l:List Int) (n:Int):Bool:=decide (n ∈ l)
theorem ix_has (l:List Int) (n:Int):decide (0≤ixF l n) = hasIF l n:=by
 unfold ixF hasIF
 cases h:l.findIdx? fun x=>decide (n = x) with
 | none =>
   have h2:=List.findIdx?_eq_none_iff.1 h
   have:n ∉ l:=fun hn=>by have:=h2 n hn; simp at this
   rw [decide_eq_false this]; rfl
 | some k =>
   obtain ⟨hk,h2,_⟩:=List.findIdx?_eq_some_iff_getElem.1 h
   have:n ∈ l:=by rw [of_decide_eq_true h2]; exact List.getElem_mem hk
   rw [decide_eq_true this,decide_eq_true (by omega:(0:Int)≤(k:Int))]
def pSeenF (b:BlD) (i:Int) (l:List Int):Prop:=bBF b∧(0≤i∧i < b.2.2.2.1.length)∧l.length≤1000000
def pSndF (b:BlD) (e:BeD):Prop:=bBF b∧bEF e
theorem on_snoc (m:Nat) (l:List Int) (k:Nat) (hk:k < l.length):onF m (l.take (k + 1)) = (onF m (l.take k) && decide (0≤l[k]∧l[k] < (m:Int)) && decide (l[k] ∉ l.take k)):=by
 unfold onF
 rw [List.take_succ,List.getElem?_eq_getElem hk,List.all_append]
 have e:decide (l.take k ++ (some l[k]).toList).Nodup = (decide (l.take k).Nodup && decide (l[k] ∉ l.take k)):=by
  rw [← Bool.decide_and]
  congr 1
  rw [List.nodup_append]
  simp only [Option.toList_some,eq_iff_iff]
  constructor
  ·rintro ⟨h1,_,h3⟩
   exact ⟨h1,fun h=>h3 _ h _ (List.mem_singleton.2 rfl) rfl⟩
  ·rintro ⟨h1,h2⟩
   refine ⟨h1,List.nodup_cons.2 ⟨List.not_mem_nil,List.nodup_nil⟩,fun a ha b hb=>?_⟩
   rw [List.mem_singleton.1 hb]
   exact fun e=>h2 (e ▸ ha)
 rw [e]
 have e2:(some l[k]).toList.all (fun i=>decide (0≤i∧i < (m:Int))) = decide (0≤l[k]∧l[k] < (m:Int)):=by simp
 rw [e2]
 cases (l.take k).all fun i=>decide (0≤i∧i < (m:Int)) <;> cases decide (l.take k).Nodup <;> cases decide (0≤l[k]∧l[k] < (m:Int)) <;> rfl
theorem on_part {m:Nat} {l:List Int} {k:Nat} (h:onF m (l.take k) = false):onF m l = false:=by
 cases h':onF m l with
 | false=>rfl
 | true =>
   exfalso
   unfold onF at h h'
   rw [Bool.and_eq_true] at h'
   have h1:(l.take k).all (fun i=>decide (0≤i∧i < (m:Int))) = true:=List.all_eq_true.2 fun x hx=>List.all_eq_true.1 h'.1 x (List.mem_of_mem_take hx)
   have h2:(l.take k).Nodup:=(of_decide_eq_true h'.2).sublist (List.take_sublist _ _)
   rw [h1,decide_eq_true h2] at h
   cases h
theorem keq_int (k:IntKind) (x y:Int):keq (.int k) x y = decide (x = y):=by
 show (x == y) = _
 by_cases h:x = y
 ·subst h; simp
 ·simp [h]
theorem mvalI_cons (a:Int) (c:Bool) (r:List (Int × Bool)) (t:Int):mvalL It .bool ((a,c) :: r) t = if t = a then c else mvalL It .bool r t:=by
 show (if keq It t a = true then c else mvalL It .bool r t) = _
 rw [keq_int]
 by_cases h:t = a
 ·rw [if_pos h,decide_eq_true h,if_pos rfl]
 ·rw [if_neg h,decide_eq_false h,if_neg (by simp)]
theorem mputI_cons (a:Int) (c:Bool) (r:List (Int × Bool)) (x:Int):mputL It .bool ((a,c) :: r) x true = if x = a then (x,true) :: r else (a,c) :: mputL It .bool r x true:=by
 show (if keq It x a = true then (x,true) :: r else (a,c) :: mputL It .bool r x true) = _
 rw [keq_int]
 by_cases h:x = a
 ·rw [if_pos h,decide_eq_true h,if_pos rfl]
 ·rw [if_neg h,decide_eq_false h,if_neg (by simp)]
theorem mvalI_put (t x:Int):∀ m:List (Int × Bool),mvalL It .bool (mputL It .bool m x true) t = (decide (t = x) || mvalL It .bool m t)
 | []=>by
   show mvalL It .bool [(x,true)] t = (decide (t = x) || false)
   rw [mvalI_cons]
   by_cases h:t = x
   ·rw [if_pos h,decide_eq_true h]; rfl
   ·rw [if_neg h,decide_eq_false h]; rfl
 | (a,c) :: r=>by
   have ih:=mvalI_put t x r
   rw [mputI_cons,mvalI_cons]
   by_cases hx:x = a
   ·subst hx
    rw [if_pos rfl,mvalI_cons]
    by_cases h:t = x
    ·rw [if_pos h,decide_eq_true h]; rfl
    ·rw [if_neg h,if_neg h,decide_eq_false h]; rfl
   ·rw [if_neg hx,mvalI_cons,ih]
    by_cases h:t = a
    ·subst h
     rw [if_pos rfl,if_pos rfl,decide_eq_false (fun e=>hx e.symm)]; rfl
    ·rw [if_neg h,if_neg h]
theorem sound_iff (b:BlD) (e:BeD):soundF b e = true↔e.1 = sumF b∧e.2.1.length = b.2.2.2.1.length∧onF b.2.2.2.1.length e.2.2 = true∧∀ i:Nat,i < b.2.2.2.1.length→atF b e i = true:=by
 unfold soundF
 simp only [Bool.and_eq_true,decide_eq_true_eq,List.all_eq_true,List.mem_range,and_assoc]
theorem falseOf {b:Bool} (h:b = true→False):false = b:=by
 cases b with
 | false=>rfl
 | true=>exact (h rfl).elim
theorem on_bad {m:Nat} {l:List Int} {k:Nat} (hk:k < l.length) (h:¬ (0≤l[k]∧l[k] < (m:Int))∨l[k] ∈ l.take k):onF m l = false:=by
 refine on_part (k:=k + 1) ?_
 rw [on_snoc m l k hk]
 rcases h with h | h
 ·rw [decide_eq_false h]; simp
 ·rw [decide_eq_false (p:=l[k] ∉ l.take k) (fun hn=>hn h)]; simp
theorem on_good {m:Nat} {l:List Int} {k:Nat} (hk:k < l.length) (h:onF m (l.take k) = true) (h1:0≤l[k]∧l[k] < (m:Int)) (h2:l[k] ∉ l.take k):onF m (l.take (k + 1)) = true:=by
 rw [on_snoc m l k hk,h,decide_eq_true h1,decide_eq_true h2]; rfl
theorem mem_take1 {l:List Int} {k:Nat} (hk:k < l.length) (t:Int):t ∈ l.take (k + 1)↔t = l[k]∨t ∈ l.take k:=by
 rw [List.take_succ,List.getElem?_eq_getElem hk,List.mem_append]
 simp only [Option.toList_some,List.mem_singleton]
 exact or_comm
theorem lt_succ_cases {k i:Nat} {P:Nat→Prop} (h:∀ i,i < k→P i) (hk:P k):i < k + 1→P i:=fun hi=>by
 rcases Nat.lt_or_ge i k with h' | h'
 ·exact h i h'
 ·have:i = k:=by omega
  rw [this]; exact hk
theorem on_nil (m:Nat):onF m [] = true:=by unfold onF; simp
end Go.Proofs.Tryz
namespace Go.Proofs.Tryz
open Go Go.VM
def Sb175 (M:BeF):VM.Spec:=⟨[.sl It,It],[.bool],fun x=>M.pMax x.1,fun x=>(M.has x.1 x.2.1,())⟩
def Sb210 (J:IxF):VM.Spec:=⟨[.sl It,It],[It],fun x=>J.p x.1,fun x=>(J.ix x.1 x.2.1,())⟩
noncomputable def oCo (J:IxF):List (Nat × FT):=[(210,.spec (Sb210 J))]
noncomputable def oSe (M:BeF):List (Nat × FT):=[(175,.spec (Sb175 M))]
def ab1 (L:Lv) (j:Nat) (js:List Nat) (I:Ds [It]→Prop) (mu:Ds [It]→Nat):Nat→LAnn
 | 0=>anH L js [] [.s j It] I mu
 | _=>.no
def ab65 (L:Lv) (I:Ds [.sl (.pair It .bool),It]→Prop) (mu:Ds [.sl (.pair It .bool),It]→Nat) (I2:Ds [It]→Prop) (m2:Ds [It]→Nat):Nat→LAnn
 | 0=>anH L [2,3,5,6,29,30,31] [] [.m 6 It .bool,.s 31 It] I mu
 | 2=>anH L [2,6,51,52,53] [] [.s 53 It] I2 m2
 | _=>.no
def nb210 (L:Lv) (F:BxF) (M:BeF) (J:IxF) (I:Ds [It]→Prop) (mu:Ds [It]→Nat) (l:List Int) (n:Int)  : VC :=
 let z1:=L.cast (L.llen It l); .obl (St.mk 19 [(0,V.c (C.sl It l)),(1,V.c (C.int .i64 n)),(7,V.c (C.int .i64 z1)),(8,V.c (C.int .i64 0))] [(0,
  Ob.amb)] 1 = St.mk 19 [(0,V.c (C.sl It l)),(1,V.c (C.int .i64 n)),(7,V.c (C.int .i64 z1)),(8,V.c (C.int .i64 0))] [(0,Ob.amb)] 1) (.obl (I (0,()))
  (.all (Int × Unit) fun (v1:Int × Unit) =>
 let z2:=v1.1;
 let z3:=L.ar .add .i64 z2 1;
 let z4:=(L.ar .add .i64 z2 1,()); .imp (I v1) (.br (L.cmp .lss z2 z1) (.obl (L.inR z2 (L.llen It l)) (.br (L.cmp .eql n (L.get It
  l (L.toN z2))) (.ok ((Prod.fst v1,()) = (IxF.ix J l n,()))) (.ok (St.mk 19 [(0,V.c (C.sl It l)),(1,V.c (C.int .i64 n)),(7,V.c (C.int .i64 z1)),(8,
  V.c (C.int .i64 z3))] [(0,Ob.amb)] 1 = St.mk 19 [(0,V.c (C.sl It l)),(1,V.c (C.int .i64 n)),(7,V.c (C.int .i64 z1)),(8,V.c (C.int .i64 z3))]
  [(0,Ob.amb)] 1∧I z4∧mu z4 < mu v1)))) (.ok ((Int.negSucc 0,()) = (IxF.ix J l n,()))))))
theorem nb210_go (L:Lv) (F:BxF) (M:BeF) (J:IxF) (I:Ds [It]→Prop) (mu:Ds [It]→Nat) (l:List Int) (n:Int) (h:VC.holds (nb210 L F M J I mu l n)):Holds (vcE L F M [] [] 3 (Db210 (ab1 L 8 [0,1,7,8] I mu)) (Sb210 J) (l,n,())):=Holds.of_eq (by kernel_rfl) h
def nb175 (L:Lv) (F:BxF) (M:BeF) (J:IxF) (l:List Int) (n:Int)  : VC :=
 .obl (IxF.p J l) (.br (L.cmp .geq (IxF.ix J l n) 0) (.ok ((true,()) = (BeF.has M l n,()))) (.ok ((false,()) = (BeF.has M l n,()))))
theorem nb175_go (L:Lv) (F:BxF) (M:BeF) (J:IxF) (l:List Int) (n:Int) (h:VC.holds (nb175 L F M J l n)):Holds (vcE L F M (oCo J) [210] 3 (Db175 a0) (Sb175 M) (l,n,())):=Holds.of_eq (by kernel_rfl) h
def nb112 (L:Lv) (F:BxF) (M:BeF) (b:BlD) (i:Int) (l:List Int)  : VC :=
 let z1:=b.2.2;
 let z2:=z1.2;
 let z3:=z2.1;
 let z4:=L.inR i (L.llen It z3);
 let z5:=(Prod.fst b,b.2.1,z1.1,z2.1,z2.2);
 let z6:=L.get It z3 (L.toN i);
 let z7:=L.cast (L.llen It l);
 let z8:=L.inR 0 (L.llen It l);
 let z9:=L.get It l (L.toN 0);
 let z10:=z2.2;
 let z11:=L.take It (BeF.cat M z10) (L.llen It (BeF.cat M z10));
 let z12:=L.take It [Prod.fst b] 1;
 let z13:=L.add (L.llen It z11) (L.llen It z12);
 let z14:=L.take It (L.app It z11 z12) z13; .obl z4 (.obl (BeF.bB M z5) (.br (L.cmp .gtr z6 (BeF.sum M z5)) (.br (L.cmp .eql z7 0) (.ok ((true,())
  = (BeF.seen M b i l,()))) (.ok ((false,()) = (BeF.seen M b i l,())))) (.br (L.cmp .eql z7 1) (.obl z8 (.obl z4 (.br (L.cmp .geq z9 z6) (.obl
  (BeF.bLL M z10) (.obl (L.room z13 8) (.obl z8 (.obl (BeF.pMax M z14) (.br (BeF.has M z14 z9) (.ok ((true,()) = (BeF.seen M b i l,()))) (.ok ((false,()) =
  (BeF.seen M b i l,())))))))) (.ok ((false,()) = (BeF.seen M b i l,())))))) (.ok ((false,()) = (BeF.seen M b i l,()))))))
theorem nb112_go (L:Lv) (F:BxF) (M:BeF) (b:BlD) (i:Int) (l:List Int) (h:VC.holds (nb112 L F M b i l)):Holds (vcE L F M (oSe M) [88,148,175] 3 (Db112 a0) (Sb112 M) (b,i,l,())):=Holds.of_eq (by kernel_rfl) h
def nb65 (L:Lv) (F:BxF) (M:BeF) (I:Ds [.sl (.pair It .bool),It]→Prop) (mu:Ds [.sl (.pair It .bool),It]→Nat) (I2:Ds [It]→Prop) (m2:Ds [It]→Nat) (b:BlD) (e:BeD)  : VC :=
 let z1:=b.2;
 let z2:=z1.2;
 let z3:=z2.2;
 let z4:=(Prod.fst b,z1.1,z2.1,z3.1,z3.2);
 let z5:=e.1;
 let z6:=e.2.1;
 let z7:=L.llen (Ty.sl It) z6;
 let z8:=L.cast z7;
 let z9:=z3.1;
 let z10:=L.cast (L.llen It z9);
 let z11:=e.2.2;
 let z12:=L.llen It z11;
 let z13:=L.cast z12;
 let z14:=b.1;
 let z15:=z1.1;
 let z16:=z2.1;
 let z17:=z3.2; .obl (BeF.bB M z4) (.br (L.cmp .neq z5 (BeF.sum M z4)) (.ok ((false,()) = (BeF.sound M b e,()))) (.br (L.cmp .neq z8 z10) (.ok
  ((false,()) = (BeF.sound M b e,()))) (.obl (St.mk 75 [(2,V.c (C.ptr 1 0)),(3,V.c (C.ptr 2 0)),(5,V.c (C.int .i64 z10)),(6,V.c (C.map 4)),(29,V.c (C.sl It
  z11)),(30,V.c (C.int .i64 z13)),(31,V.c (C.int .i64 0))] [(0,Ob.amb),(1,Ob.box 106 [C.int .i64 z14,C.int .i64 z15,C.sym z16,C.sl It z9,C.sl
  (Ty.sl It) z17]),(2,Ob.box 31 [C.int .i64 z5,C.sl (Ty.sl It) z6,C.sl It z11]),(4,Ob.map It Ty.bool [])] 5 = St.mk 75 [(2,V.c (C.ptr 1 0)),(3,V.c (C.ptr 2 0)),(5,
  V.c (C.int .i64 z10)),(6,V.c (C.map 4)),(29,V.c (C.sl It z11)),(30,V.c (C.int .i64 z13)),(31,V.c (C.int .i64 0))] [(0,Ob.amb),(1,Ob.box 106 [C.int
  .i64 z14,C.int .i64 z15,C.sym z16,C.sl It z9,C.sl (Ty.sl It) z17]),(2,Ob.box 31 [C.int .i64 z5,C.sl (Ty.sl It) z6,C.sl It z11]),(4,Ob.map It
  Ty.bool [])] 5) (.obl (I ([],0,())) (.all (List (Int × Bool) × Int × Unit) fun (v1:List (Int × Bool) × Int × Unit) =>
 let z18:=v1.2.1;
 let z19:=L.get It z11 (L.toN z18);
 let z20:=v1.1;
 let z21:=L.ar .add .i64 z18 1;
 let z22:=L.mput It Ty.bool z20 z19 true;
 let z23:=(L.mput It Ty.bool z20 z19 true,L.ar .add .i64 z18 1,()); .imp (I v1) (.br (L.cmp .lss z18 z13) (.obl (L.inR z18 z12) (.br (Lv.cmp
  L .lss z19 0) (.ok ((false,()) = (BeF.sound M b e,()))) (.br (L.cmp .geq z19 z10) (.ok ((false,()) = (BeF.sound M b e,()))) (.br (L.mval It Ty.bool
  z20 z19) (.ok ((false,()) = (BeF.sound M b e,()))) (.ok (St.mk 75 [(2,V.c (C.ptr 1 0)),(3,V.c (C.ptr 2 0)),(5,V.c (C.int .i64 z10)),(6,V.c (C.map 4)),(29,
  V.c (C.sl It z11)),(30,V.c (C.int .i64 z13)),(31,V.c (C.int .i64 z21))] [(0,Ob.amb),(1,Ob.box 106 [C.int .i64 z14,C.int .i64 z15,C.sym z16,
  C.sl It z9,C.sl (Ty.sl It) z17]),(2,Ob.box 31 [C.int .i64 z5,C.sl (Ty.sl It) z6,C.sl It z11]),(4,Ob.map It Ty.bool z22)] 5 = St.mk 75 [(2,V.c (C.ptr 1 0)),(3,V.c
  (C.ptr 2 0)),(5,V.c (C.int .i64 z10)),(6,V.c (C.map 4)),(29,V.c (C.sl It z11)),(30,V.c (C.int .i64 z13)),(31,V.c (C.int .i64 z21))] [(0,Ob.amb),
  (1,Ob.box 106 [C.int .i64 z14,C.int .i64 z15,C.sym z16,C.sl It z9,C.sl (Ty.sl It) z17]),(2,Ob.box 31 [C.int .i64 z5,C.sl (Ty.sl It) z6,C.sl It
  z11]),(4,Ob.map It Ty.bool z22)] 5∧I z23∧mu z23 < mu v1)))))) (.obl (St.mk 75 [(2,V.c (C.ptr 1 0)),(6,V.c (C.map 4)),(51,V.c (C.sl (Ty.sl It) z6)),(52,V.c (C.int
  .i64 z8)),(53,V.c (C.int .i64 0))] [(0,Ob.amb),(1,Ob.box 106 [C.int .i64 z14,C.int .i64 z15,C.sym z16,C.sl It z9,C.sl (Ty.sl It) z17]),(2,
  Ob.box 31 [C.int .i64 z5,C.sl (Ty.sl It) z6,C.sl It z11]),(4,Ob.map It Ty.bool z20)] 5 = St.mk 75 [(2,V.c (C.ptr 1 0)),(6,V.c (C.map 4)),(51,V.c (C.sl (Ty.sl It)
  z6)),(52,V.c (C.int .i64 z8)),(53,V.c (C.int .i64 0))] [(0,Ob.amb),(1,Ob.box 106 [C.int .i64 z14,C.int .i64 z15,C.sym z16,C.sl It z9,C.sl
  (Ty.sl It) z17]),(2,Ob.box 31 [C.int .i64 z5,C.sl (Ty.sl It) z6,C.sl It z11]),(4,Ob.map It Ty.bool z20)] 5) (.obl (I2 (0,())) (.all (Int × Unit) fun (v2:Int ×
  Unit) =>
 let z24:=v2.1;
 let z25:=L.get (Ty.sl It) z6 (L.toN z24);
 let z26:=L.ar .add .i64 z24 1;
 let z27:=(L.ar .add .i64 z24 1,()); .imp (I2 v2) (.br (L.cmp .lss z24 z8) (.obl (L.inR z24 z7) (.obl (BeF.pSeen M z4 z24 z25) (.br (BeF.seen
  M z4 z24 z25) (.br (L.cmp .eql (L.cast (L.llen It z25)) 0) (.br (L.mval It Ty.bool z20 z24) (.ok (St.mk 75 [(2,V.c (C.ptr 1 0)),(6,V.c (C.map 4)),(51,
  V.c (C.sl (Ty.sl It) z6)),(52,V.c (C.int .i64 z8)),(53,V.c (C.int .i64 z26))] [(0,Ob.amb),(1,Ob.box 106 [C.int .i64 z14,C.int .i64 z15,C.sym
  z16,C.sl It z9,C.sl (Ty.sl It) z17]),(2,Ob.box 31 [C.int .i64 z5,C.sl (Ty.sl It) z6,C.sl It z11]),(4,Ob.map It Ty.bool z20)] 5 = St.mk 75 [(2,V.c (C.ptr 1 0)),
  (6,V.c (C.map 4)),(51,V.c (C.sl (Ty.sl It) z6)),(52,V.c (C.int .i64 z8)),(53,V.c (C.int .i64 z26))] [(0,Ob.amb),(1,Ob.box 106 [C.int .i64 z14,
  C.int .i64 z15,C.sym z16,C.sl It z9,C.sl (Ty.sl It) z17]),(2,Ob.box 31 [C.int .i64 z5,C.sl (Ty.sl It) z6,C.sl It z11]),(4,Ob.map It Ty.bool z20)] 5∧I2
  z27∧m2 z27 < m2 v2)) (.ok ((false,()) = (BeF.sound M b e,())))) (.ok (St.mk 75 [(2,V.c (C.ptr 1 0)),(6,V.c (C.map 4)),(51,V.c (C.sl (Ty.sl It) z6)),(52,V.c (C.int
  .i64 z8)),(53,V.c (C.int .i64 z26))] [(0,Ob.amb),(1,Ob.box 106 [C.int .i64 z14,C.int .i64 z15,C.sym z16,C.sl It z9,C.sl (Ty.sl It) z17]),(2,
  Ob.box 31 [C.int .i64 z5,C.sl (Ty.sl It) z6,C.sl It z11]),(4,Ob.map It Ty.bool z20)] 5 = St.mk 75 [(2,V.c (C.ptr 1 0)),(6,V.c (C.map 4)),(51,V.c (C.sl (Ty.sl It)
  z6)),(52,V.c (C.int .i64 z8)),(53,V.c (C.int .i64 z26))] [(0,Ob.amb),(1,Ob.box 106 [C.int .i64 z14,C.int .i64 z15,C.sym z16,C.sl It z9,C.sl
  (Ty.sl It) z17]),(2,Ob.box 31 [C.int .i64 z5,C.sl (Ty.sl It) z6,C.sl It z11]),(4,Ob.map It Ty.bool z20)] 5∧I2 z27∧m2 z27 < m2 v2))) (.ok ((false,()) =
  (BeF.sound M b e,())))))) (.ok ((true,()) = (BeF.sound M b e,())))))))))))))
theorem nb65_go (L:Lv) (F:BxF) (M:BeF) (I:Ds [.sl (.pair It .bool),It]→Prop) (mu:Ds [.sl (.pair It .bool),It]→Nat) (I2:Ds [It]→Prop) (m2:Ds [It]→Nat) (b:BlD) (e:BeD) (h:VC.holds (nb65 L F M I mu I2 m2 b e)):Holds (vcE L F M [] [88,112] 3 (Db65 (ab65 L I mu I2 m2)) (Sb65 M) (b,e,())):=Holds.of_eq (by kernel_rfl) h
theorem okb210 (F:BxF) (M:BeF) (J:IxF) (h:J.ix = ixF) (q:J.p = pMaxF):SpecOk prog 210 (Sb210 J):=by
 refine Zc hm hE Db210 fnokb210 _ fun (z:List Int × Int × Unit) hpre=>?_
 obtain ⟨l,n,⟨⟩⟩:=z
 have hpre':J.p l:=hpre
 rw [q] at hpre'
 have hl:=hpre'.2
 let I:Int × Unit→Prop:=fun x=>(0≤x.1∧x.1≤l.length)∧∀ y ∈ l.take x.1.toNat,n ≠ y
 let mu:Int × Unit→Nat:=fun x=>(l.length - x.1).toNat
 refine Yp _ 3 (ab1 Lv.std 8 [0,1,7,8] I mu) (Zs (T:=tabO [] (eT F M)) (l:=[]) Z4) ?_
 refine nb210_go Lv.std F M J I mu l n ?_
 simp only [nb210,VC.holds,ZJ,ZO,Zb,Zh,Zm,Yj,Ym,Z5,ZM,Yl,Yk,Yf,ZX,ZY,ZT,ZR,Ye,ZN,Zz,ZD,Zr,Z1,ZS,Z2,ZK,ZW,Yb,ZV,ZP,ZQ,Zt,ZH,Ya,Z3,ZI,Yd,Yc,Z6,Z7,Zg,ZC,ZL,ZU,Z8,Z9,Zd,Ze,ZA,ZB,Zu,Zv,Zx,Zy,Zk,Zl,Zp,Zq,Zi,Zj,Zn,Zo,ZG,ZF,ZZ,Yg,ZE,h,Prod.mk.injEq,and_true,true_and]
 refine ⟨⟨⟨Int.le_refl 0,by show (0:Int)≤l.length; omega⟩,fun y hy=>by cases hy⟩,?_⟩
 rintro ⟨x,⟨⟩⟩ ⟨⟨i1,i2⟩,i3⟩
 simp only at i1 i2 i3 ⊢
 obtain ⟨k,rfl⟩:=Yq i1
 rw [Int.toNat_natCast] at i3 ⊢
 refine ⟨fun hlt=>?_,fun hge=>?_⟩
 ·have hk:k < l.length:=by omega
  have w:IntKind.i64.wrap ((k:Int) + 1) = ((k + 1:Nat):Int):=by rw [Yn (by omega) (by omega)]; omega
  rw [w,List.getElem?_eq_getElem hk,Option.getD_some]
  refine ⟨⟨by omega,hlt⟩,fun hc=>?_,fun hc=>⟨⟨⟨by show (0:Int)≤((k + 1:Nat):Int); omega,by show ((k + 1:Nat):Int)≤l.length; omega⟩,fun y hy=>?_⟩,by show ((l.length:Int) - ((k + 1:Nat):Int)).toNat < ((l.length:Int) - k).toNat; omega⟩⟩
  ·unfold ixF
   have:l.findIdx? (fun x=>decide (n = x)) = some k:=List.findIdx?_eq_some_iff_getElem.2 ⟨hk,decide_eq_true hc,fun j hj=>by
    have hm':l[j] ∈ l.take k:=List.mem_iff_getElem.2 ⟨j,by rw [List.length_take]; omega,by rw [List.getElem_take]⟩
    simpa using i3 _ hm'⟩
   rw [this]
  ·have hy:y ∈ l.take (k + 1):=hy
   rcases (mem_take1 hk y).1 hy with rfl | hy
   ·exact hc
   ·exact i3 y hy
 ·have hk:k = l.length:=by omega
  unfold ixF
  have:l.findIdx? (fun x=>decide (n = x)) = none:=List.findIdx?_eq_none_iff.2 fun x hx=>by
   have:=i3 x (by rw [hk,List.take_length]; exact hx)
   simpa using this
  rw [this]; rfl
theorem okb175 (F:BxF) (M:BeF) (J:IxF) (h:M.has = hasIF) (h1:J.ix = ixF) (q:M.pMax = pMaxF) (q1:J.p = pMaxF) (k1:SpecOk prog 210 (Sb210 J)):SpecOk prog 175 (Sb175 M):=by
 refine Zc hm hE Db175 fnokb175 _ fun (z:List Int × Int × Unit) hpre=>?_
 obtain ⟨l,n,⟨⟩⟩:=z
 have hpre':M.pMax l:=hpre
 rw [q] at hpre'
 refine Yp _ 3 a0 (Zs (T:=tabO (oCo J) (eT F M)) (l:=[210]) (Za (Yh k1 (by kernel_rfl)) Z4)) ?_
 refine nb175_go Lv.std F M J l n ?_
 simp only [nb175,VC.holds,ZJ,ZO,Zb,Zh,Zm,Yj,Ym,Z5,ZM,Yl,Yk,Yf,ZX,ZY,ZT,ZR,Ye,ZN,Zz,ZD,Zr,Z1,ZS,Z2,ZK,ZW,Yb,ZV,ZP,ZQ,Zt,ZH,Ya,Z3,ZI,Yd,Yc,Z6,Z7,Zg,ZC,ZL,ZU,Z8,Z9,Zd,Ze,ZA,ZB,Zu,Zv,Zx,Zy,Zk,Zl,Zp,Zq,Zi,Zj,Zn,Zo,ZG,ZF,ZZ,Yg,ZE,h,h1,q1,Prod.mk.injEq,and_true,true_and]
 refine ⟨hpre',fun c=>?_,fun c=>?_⟩
 ·rw [← ix_has,decide_eq_true c]
 ·rw [← ix_has,decide_eq_false (by omega)]
theorem okb112 (F:BxF) (M:BeF) (h:M.seen = seenF) (h1:M.sum = sumF) (h2:M.cat = List.flatten) (h3:M.has = hasIF) (q:M.bB = bBF) (q1:M.bLL = bLLF) (q2:M.pMax = pMaxF) (q3:M.pSeen = pSeenF) (k1:SpecOk prog 88 (Sb88 M)) (k2:XOk prog 148 (Rb148 M).x) (k3:SpecOk prog 175 (Sb175 M)):SpecOk prog 112 (Sb112 M):=by
 refine Zc hm hE Db112 fnokb112 _ fun (z:BlD × Int × List Int × Unit) hpre=>?_
 obtain ⟨b,i,l,⟨⟩⟩:=z
 have hpre':M.pSeen b i l:=hpre
 rw [q3] at hpre'
 obtain ⟨hb,hi,hl⟩:=hpre'
 have hf:=bB_flat hb
 refine Yp _ 3 a0 (Zs (T:=tabO (oSe M) (eT F M)) (l:=[88,148,175]) (Za (Yh k1 (by kernel_rfl)) (Za (XB k2 (by kernel_rfl)) (Za (Yh k3 (by kernel_rfl)) Z4)))) ?_
 refine nb112_go Lv.std F M b i l ?_
 simp only [nb112,VC.holds,ZJ,ZO,Zb,Zh,Zm,Yj,Ym,Z5,ZM,Yl,Yk,Yf,ZX,ZY,ZT,ZR,Ye,ZN,Zz,ZD,Zr,Z1,ZS,Z2,ZK,ZW,Yb,ZV,ZP,ZQ,Zt,ZH,Ya,Z3,ZI,Yd,Yc,Z6,Z7,Zg,ZC,ZL,ZU,Z8,Z9,Zd,Ze,ZA,ZB,Zu,Zv,Zx,Zy,Zk,Zl,Zp,Zq,Zi,Zj,Zn,Zo,ZG,ZF,ZZ,Yg,ZE,h,h1,h2,h3,q,q1,q2,List.take_length,List.take_succ_cons,List.take_zero,List.length_cons,List.length_nil,List.length_append,Nat.zero_add,Prod.mk.injEq,and_true,true_and]
 have eb:((b.1,b.2.1,b.2.2.1,b.2.2.2.1,b.2.2.2.2):BlD) = b:=rfl
 have e:(b.2.2.2.2.flatten ++ [b.1]).take (b.2.2.2.2.flatten.length + 1) = numL b:=List.take_of_length_le (by rw [List.length_append]; simp)
 have hp:pMaxF (numL b):=⟨by unfold numL; rw [List.length_append]; show 1≤b.2.2.2.2.flatten.length + 1; omega,by unfold numL; rw [List.length_append]; show b.2.2.2.2.flatten.length + 1≤2000000; omega⟩
 rw [e]
 refine ⟨hi,hb,fun c=>⟨fun d=>?_,fun d=>?_⟩,fun c=>⟨fun d=>⟨⟨by omega,by omega⟩,hi,fun f=>⟨⟨hb.2.1,hb.2.2⟩,⟨by omega,by omega⟩,⟨by omega,by omega⟩,hp,fun f2=>?_,fun f2=>?_⟩,fun f=>?_⟩,fun d=>?_⟩⟩
 ·have c:sumF b < wtF b i.toNat:=c
  rw [seenF,if_pos c,decide_eq_true (by omega)]
 ·have c:sumF b < wtF b i.toNat:=c
  rw [seenF,if_pos c,decide_eq_false (by omega)]
 ·have c:wtF b i.toNat≤sumF b:=c
  have f:wtF b i.toNat≤(l[0]?).getD 0:=f
  have f2:decide ((l[0]?).getD 0 ∈ numL b) = true:=f2
  rw [seenF,if_neg (by omega),decide_eq_true (by omega),decide_eq_true f,f2]; rfl
 ·have c:wtF b i.toNat≤sumF b:=c
  have f2:decide ((l[0]?).getD 0 ∈ numL b) = false:=f2
  rw [seenF,if_neg (by omega),f2,Bool.and_false]
 ·have c:wtF b i.toNat≤sumF b:=c
  have f:(l[0]?).getD 0 < wtF b i.toNat:=f
  rw [seenF,if_neg (by omega),decide_eq_false (by omega:¬ wtF b i.toNat≤(l[0]?).getD 0),Bool.and_false,Bool.false_and]
 ·have c:wtF b i.toNat≤sumF b:=c
  rw [seenF,if_neg (by omega),decide_eq_false (by omega),Bool.false_and,Bool.false_and]
theorem okb65 (F:BxF) (M:BeF) (h:M.sound = soundF) (h1:M.sum = sumF) (h2:M.seen = seenF) (q:M.bB = bBF) (q1:M.pSnd = pSndF) (q2:M.pSeen = pSeenF) (k1:SpecOk prog 88 (Sb88 M)) (k2:SpecOk prog 112 (Sb112 M)):SpecOk prog 65 (Sb65 M):=by
 refine Zc hm hE Db65 fnokb65 _ fun (z:BlD × BeD × Unit) hpre=>?_
 obtain ⟨b,e,⟨⟩⟩:=z
 have hpre':M.pSnd b e:=hpre
 rw [q1] at hpre'
 obtain ⟨⟨g1,g2,g3⟩,e1,e2,e3⟩:=hpre'
 let m:=b.2.2.2.1.length
 let I:List (Int × Bool) × Int × Unit→Prop:=fun x=>(0≤x.2.1∧x.2.1≤e.2.2.length)∧onF m (e.2.2.take x.2.1.toNat) = true∧∀ t:Int,mvalL It .bool x.1 t = decide (t ∈ e.2.2.take x.2.1.toNat)
 let mu:List (Int × Bool) × Int × Unit→Nat:=fun x=>(e.2.2.length - x.2.1).toNat
 let I2:Int × Unit→Prop:=fun x=>(0≤x.1∧x.1≤e.2.1.length)∧∀ i:Nat,i < x.1.toNat→atF b e i = true
 let m2:Int × Unit→Nat:=fun x=>(e.2.1.length - x.1).toNat
 refine Yp _ 3 (ab65 Lv.std I mu I2 m2) (Zs (T:=tabO [] (eT F M)) (l:=[88,112]) (Za (Yh k1 (by kernel_rfl)) (Za (Yh k2 (by kernel_rfl)) Z4))) ?_
 refine nb65_go Lv.std F M I mu I2 m2 b e ?_
 simp only [nb65,VC.holds,ZJ,ZO,Zb,Zh,Zm,Yj,Ym,Z5,ZM,Yl,Yk,Yf,ZX,ZY,ZT,ZR,Ye,ZN,Zz,ZD,Zr,Z1,ZS,Z2,ZK,ZW,Yb,ZV,ZP,ZQ,Zt,ZH,Ya,Z3,ZI,Yd,Yc,Z6,Z7,Zg,ZC,ZL,ZU,Z8,Z9,Zd,Ze,ZA,ZB,Zu,Zv,Zx,Zy,Zk,Zl,Zp,Zq,Zi,Zj,Zn,Zo,ZG,ZF,ZZ,Yg,ZE,h,h1,h2,q,q2,pe5,Prod.mk.injEq,and_true,true_and]
 have S:=sound_iff b e
 refine ⟨⟨g1,g2,g3⟩,fun c=>falseOf fun hs=>c (S.1 hs).1,fun c=>⟨fun d=>falseOf fun hs=>d (by have:=(S.1 hs).2.1; omega),fun d=>⟨⟨⟨Int.le_refl 0,by show (0:Int)≤e.2.2.length; omega⟩,on_nil _,fun t=>by simp [mvalL,Ty.dflt]⟩,?_⟩⟩⟩
 rintro ⟨mp,x,⟨⟩⟩ ⟨⟨i1,i2⟩,i3,i4⟩
 simp only at i1 i2 i3 i4 ⊢
 obtain ⟨k,rfl⟩:=Yq i1
 rw [Int.toNat_natCast] at i3 i4 ⊢
 refine ⟨fun hlt=>?_,fun hge=>?_⟩
 ·have hk:k < e.2.2.length:=by omega
  rw [wr hlt (by omega),List.getElem?_eq_getElem hk,Option.getD_some]
  refine ⟨⟨by omega,hlt⟩,fun h1=>falseOf fun hs=>?_,fun h1=>⟨fun h2=>falseOf fun hs=>?_,fun h2=>⟨fun h3=>falseOf fun hs=>?_,fun h3=>⟨⟨⟨by show (0:Int)≤((k + 1:Nat):Int); omega,by show ((k + 1:Nat):Int)≤e.2.2.length; omega⟩,?_,fun t=>?_⟩,by show ((e.2.2.length:Int) - ((k + 1:Nat):Int)).toNat < ((e.2.2.length:Int) - k).toNat; omega⟩⟩⟩⟩
  ·have:=on_bad (m:=m) hk (.inl (by omega)); rw [(S.1 hs).2.2.1] at this; cases this
  ·have:=on_bad (m:=m) hk (.inl (by show ¬ (0≤e.2.2[k]∧e.2.2[k] < (b.2.2.2.1.length:Int)); omega)); rw [(S.1 hs).2.2.1] at this; cases this
  ·rw [i4] at h3
   have:=on_bad (m:=m) hk (.inr (of_decide_eq_true h3)); rw [(S.1 hs).2.2.1] at this; cases this
  ·rw [i4] at h3
   exact on_good hk i3 ⟨h1,h2⟩ (of_decide_eq_false h3)
  ·show mvalL It .bool (mputL It .bool mp e.2.2[k] true) t = decide (t ∈ e.2.2.take (k + 1))
   rw [mvalI_put,i4,← Bool.decide_or]
   exact decide_eq_decide.2 (mem_take1 hk t).symm
 ·have hk:k = e.2.2.length:=by omega
  rw [hk,List.take_length] at i3 i4
  refine ⟨⟨⟨Int.le_refl 0,by show (0:Int)≤e.2.1.length; omega⟩,fun i hi=>absurd hi (Nat.not_lt_zero i)⟩,?_⟩
  rintro ⟨y,⟨⟩⟩ ⟨⟨j1,j2⟩,j3⟩
  simp only at j1 j2 j3 ⊢
  obtain ⟨q,rfl⟩:=Yq j1
  rw [Int.toNat_natCast] at j3 ⊢
  refine ⟨fun hlt=>?_,fun hge=>?_⟩
  ·have hq:q < e.2.1.length:=by omega
   have hsw:(e.2.1[q]?).getD [] = sawF e q:=rfl
   have hb1:(sawF e q).length≤1000000:=by
    rw [← hsw,List.getElem?_eq_getElem hq]; exact e3 _ (List.getElem_mem hq)
   rw [wr hlt (by omega),hsw]
   have step:atF b e q = true→I2 (((q + 1:Nat):Int),())∧m2 (((q + 1:Nat):Int),()) < m2 ((q:Int),()):=fun ha =>
    ⟨⟨⟨by show (0:Int)≤((q + 1:Nat):Int); omega,by show ((q + 1:Nat):Int)≤e.2.1.length; omega⟩,fun i hi=>by
      have hi:i < (((q + 1:Nat):Int)).toNat:=hi
      rw [Int.toNat_natCast] at hi
      exact lt_succ_cases j3 ha hi⟩,by show ((e.2.1.length:Int) - ((q + 1:Nat):Int)).toNat < ((e.2.1.length:Int) - q).toNat; omega⟩
   have bad:atF b e q = false→false = soundF b e:=fun ha=>falseOf fun hs=>by
    have:=(S.1 hs).2.2.2 q (by omega); rw [ha] at this; cases this
   refine ⟨⟨by omega,hlt⟩,⟨⟨g1,g2,g3⟩,⟨by omega,by omega⟩,hb1⟩,fun h1=>⟨fun h2=>⟨fun h3=>step ?_,fun h3=>bad ?_⟩,fun h2=>step ?_⟩,fun h1=>bad ?_⟩
   ·rw [i4] at h3
    unfold atF
    rw [h1,h3,Bool.or_true]; rfl
   ·rw [i4] at h3
    unfold atF
    have h2':decide ((sawF e q).length ≠ 0) = false:=decide_eq_false (fun hn=>hn (by omega))
    rw [h2',h3]; simp
   ·unfold atF
    rw [h1,decide_eq_true (by omega)]; rfl
   ·unfold atF
    rw [h1,Bool.false_and]
  ·exact (S.2 ⟨c,by omega,i3,fun i hi=>j3 i (by omega)⟩).symm
end Go.Proofs.Tryz
namespace Go.Proofs.Tryz
open Go Go.VM
theorem goP_reachN {m:McD}:∀ (js:List Nat) (s s':StD) (d:Nat),Reach m d s→goP m s js = some s'→Reach m (d + js.length) s'
 | [],s,s',d,h,e=>by injection e with e; exact e ▸ h
 | j :: r,s,s',d,h,e=>by
   unfold goP at e
   split at e
   ·rename_i v hv
    have:=goP_reachN r _ _ _ (.step h (List.mem_of_getElem? hv)) e
    rw [List.length_cons,show d + (r.length + 1) = d + 1 + r.length by omega]; exact this
   ·cases e
end Go.Proofs.Tryz
namespace Go.Proofs.Tryz
open Go Go.VM
section
variable {m:McD} {a:Nat} {l:List MtD}
theorem BfsI.par' (h:BfsI m a l) {n:Nat} {x:MtD} (hx:l[n]? = some x) (h0:0 < n):∃ (b j:Nat) (y:MtD) (v:MvD),b < n∧l[b]? = some y∧x.2.1 = (b:Int)∧x.2.2 = (j:Int)∧x.1 = doF m y.1 v∧(movesF m y.1)[j]? = some v:=by
 obtain ⟨b,j,y,v,h1,_,h3,h4,h5⟩:=h.par n x hx h0
 exact ⟨b,j,y,v,h1,h3,by rw [h4],by rw [h4],by rw [h4],h5⟩
theorem picksN_fuel (h:BfsI m a l):∀ (n f:Nat),n < f→n < l.length→picksN l f n = pk l n:=by
 intro n
 induction n using Nat.strongRecOn with
 | ind n ih =>
   intro f hf hl
   obtain ⟨f,rfl⟩:∃ g,f = g + 1:=⟨f - 1,by omega⟩
   unfold pk
   rw [picksN,picksN]
   by_cases h0:n = 0
   ·rw [if_pos h0,if_pos h0]
   ·rw [if_neg h0,if_neg h0,List.getElem?_eq_getElem hl]
    simp only
    obtain ⟨b,j,y,v,h1,h2,h3,h4,_,_⟩:=h.par' (List.getElem?_eq_getElem hl) (by omega)
    rw [h3,Int.toNat_natCast,ih b h1 f (by omega) (by omega),ih b h1 n (by omega) (by omega)]
theorem pk0 (l:List MtD):pk l 0 = []:=by unfold pk; rw [picksN,if_pos rfl]
theorem pk_step (h:BfsI m a l) {n:Nat} {x:MtD} (hx:l[n]? = some x) (h0:0 < n):pk l n = x.2.2 :: pk l x.2.1.toNat:=by
 have hl:=Xp hx
 obtain ⟨b,j,y,v,h1,h2,h3,h4,_,_⟩:=h.par' hx h0
 unfold pk
 rw [picksN,if_neg (by omega),hx]
 simp only
 rw [h3,Int.toNat_natCast,picksN_fuel h b n h1 (by omega)]; rfl
theorem pk_mono (h:BfsI m a l):∀ (k n:Nat),n≤k→k < l.length→(pk l n).length≤(pk l k).length:=by
 intro k
 induction k using Nat.strongRecOn with
 | ind k ih =>
   intro n hn hk
   by_cases h0:n = 0
   ·subst h0; rw [pk0]; exact Nat.zero_le _
   ·have hnl:n < l.length:=by omega
    rw [pk_step h (List.getElem?_eq_getElem hnl) (by omega),pk_step h (List.getElem?_eq_getElem hk) (by omega)]
    obtain ⟨b,_,_,_,h1,_,h3,_,_,_⟩:=h.par' (List.getElem?_eq_getElem hnl) (by omega)
    obtain ⟨c,_,_,_,g1,_,g3,_,_,_⟩:=h.par' (List.getElem?_eq_getElem hk) (by omega)
    have:=h.mono n k _ _ hn (List.getElem?_eq_getElem hnl) (List.getElem?_eq_getElem hk)
    rw [h3,g3] at this ⊢
    simp only [List.length_cons,Int.toNat_natCast]
    have:=ih c g1 b (by omega) (by omega)
    omega
theorem pk_le (h:BfsI m l.length l) {d:Nat} {s:StD} (hr:Reach m d s):∃ (n:Nat) (x:MtD),l[n]? = some x∧x.1 = s∧(pk l n).length≤d:=by
 induction hr with
 | zero=>exact ⟨0,_,h.first,rfl,by rw [pk0]; exact Nat.le_refl _⟩
 | step _ hv ih =>
   obtain ⟨n,x,hx,rfl,hd⟩:=ih
   obtain ⟨k,y,h1,h2,h3⟩:=h.closed n x (Xp hx) hx _ hv
   refine ⟨k,y,h1,h2,?_⟩
   by_cases h0:k = 0
   ·subst h0; rw [pk0]; exact Nat.zero_le _
   ·rw [pk_step h h1 (by omega)]
    obtain ⟨b,_,_,_,g1,_,g3,_,_,_⟩:=h.par' h1 (by omega)
    rw [g3] at h3 ⊢
    rw [Int.toNat_natCast]
    have:=pk_mono h n b (by omega) (Xp hx)
    simp only [List.length_cons]; omega
theorem pk_nat (h:BfsI m a l):∀ (n:Nat),n < l.length→∀ j ∈ pk l n,0≤j:=by
 intro n
 induction n using Nat.strongRecOn with
 | ind n ih =>
   intro hl j hj
   by_cases h0:n = 0
   ·subst h0; rw [pk0] at hj; cases hj
   ·rw [pk_step h (List.getElem?_eq_getElem hl) (by omega)] at hj
    obtain ⟨b,i,_,_,h1,_,h3,h4,_,_⟩:=h.par' (List.getElem?_eq_getElem hl) (by omega)
    rw [h3,h4,Int.toNat_natCast] at hj
    rcases List.mem_cons.1 hj with rfl | hj
    ·exact Int.natCast_nonneg _
    ·exact ih b h1 (by omega) j hj
theorem pk_run (h:BfsI m a l):∀ (n:Nat) (x:MtD),l[n]? = some x→∀ (w r:List Int),w = (pk l n).reverse ++ r→(pk l n).length≤3000→runN m w 3000 (firstF m.1) = runN m w (3000 - (pk l n).length) x.1:=by
 intro n
 induction n using Nat.strongRecOn with
 | ind n ih =>
   intro x hx w r hw hd
   by_cases h0:n = 0
   ·subst h0; rw [h.first] at hx; cases hx; rw [pk0]; rfl
   ·have e:=pk_step h hx (by omega)
    obtain ⟨b,j,y,v,h1,h2,h3,h4,h5,h6⟩:=h.par' hx (by omega)
    rw [h3,h4,Int.toNat_natCast] at e
    rw [e,List.length_cons] at hd ⊢
    rw [e,List.reverse_cons,List.append_assoc] at hw
    rw [ih b h1 y h2 w _ hw (by omega)]
    have hf:3000 - (pk l b).length = (3000 - ((pk l b).length + 1)) + 1:=by omega
    rw [hf,runN]
    have hj:=Xp h6
    have hne:¬ movesF m y.1 = []:=fun e=>by rw [e] at hj; cases hj
    rw [if_neg hne,← hf]
    have hi:3000 - (3000 - (pk l b).length) = (pk l b).length:=by omega
    rw [hi,h5]
    congr 1
    congr 1
    have hwl:(pk l b).length < w.length:=by rw [hw]; simp
    have hwj:w[(pk l b).length]? = some (j:Int):=by
     rw [hw,List.getElem?_append_right (by simp)]; simp
    unfold pickF
    rw [if_pos hwl,hwj]
    have er:remF (j:Int) (movesF m y.1).length = (j:Int):=by
     have e:∀ b c:Int,remF b c = b.tmod c:=fun _ _=>rfl
     rw [e]
     exact Int.tmod_eq_of_lt (Int.natCast_nonneg _) (Int.ofNat_lt.2 hj)
    rw [Option.getD_some,er,Int.toNat_natCast,h6]; rfl
end
theorem run_end {m:McD} {w:List Int} {s:StD} (he:movesF m s = []) {d:Nat} (hd:d≤3000):runN m w (3000 - d) s = (s,(d:Int),0):=by
 cases h:3000 - d with
 | zero=>rw [runN,if_pos he,show d = 3000 by omega]; rfl
 | succ f=>rw [runN,if_pos he,← h,show 3000 - (3000 - d) = d by omega]
theorem ended_iff {m:McD} {s:StD}:endedF m s = true↔movesF m s = []:=decide_eq_true_iff
theorem hit_iff {m:McD} {e:EnD} {x:MtD}:hitF m e x = true↔movesF m x.1 = []∧endOfF m x.1 = e:=by
 unfold hitF
 rw [Bool.and_eq_true,ended_iff,decide_eq_true_iff,cmpE_eq]
theorem way_of {p:WkD} {d:Nat} {s:StD} (hc:checkF p = 0) (ha:(allF (p,false)).2 = 0) (hr:Reach (p,false) d s) (he:movesF (p,false) s = []) (hd:d≤3000) :
  ∃ (w:List Int) (z:StD),wayG p (endOfF (p,false) s) = (w,0)∧w.length≤d∧w.length≤20000∧runF p w = (z,(w.length:Int),0)∧endOfF (p,false) z = endOfF (p,false) s∧movesF (p,false) z = []∧∃ d',Reach (p,false) d' z:=by
 rcases all_inv (p,false) with ⟨l,h1,h2,h3⟩ | ⟨h1,_⟩
 ·obtain ⟨n,x,hx,rfl,hn⟩:=pk_le h2 hr
  have hnl:=Xp hx
  unfold wayG
  rw [if_neg (by simpa using hc),if_neg (by simpa using ha),h1]
  simp only
  have hhit:hitF (p,false) (endOfF (p,false) x.1) x = true:=hit_iff.2 ⟨he,rfl⟩
  cases hf:l.findIdx? (hitF (p,false) (endOfF (p,false) x.1)) with
  | none =>
    have:=List.findIdx?_eq_none_iff.1 hf x (List.mem_of_getElem? hx)
    rw [hhit] at this; cases this
  | some k =>
    obtain ⟨hk,hkh,hkm⟩:=List.findIdx?_eq_some_iff_getElem.1 hf
    simp only
    obtain ⟨g1,g2⟩:=hit_iff.1 hkh
    have hkn:k≤n:=by
     rcases Nat.lt_or_ge n k with h | h
     ·have:=hkm n h
      obtain ⟨_,e⟩:=List.getElem?_eq_some_iff.1 hx
      rw [e,hhit] at this; exact absurd rfl this
     ·exact h
    have hlen:(pk l k).length≤(pk l n).length:=pk_mono h2 n k hkn hnl
    rw [picksN_fuel h2 k 20001 (by omega) hk]
    have hneg:(pk l k).reverse.any negF = false:=by
     rw [List.any_eq_false]
     intro j hj
     have:=pk_nat h2 k hk j (List.mem_reverse.1 hj)
     simp only [negF,decide_eq_true_eq]; omega
    have hrun:runF p (pk l k).reverse = (l[k].1,((pk l k).length:Int),0):=by
     rw [runF,if_neg (by simpa using hc),if_neg (by rw [hneg]; simp),pk_run h2 k _ (List.getElem?_eq_getElem hk) _ [] (by simp) (by omega),run_end g1 (by omega)]
    have hkl:∀ k,k < l.length→(pk l k).length≤k:=fun k=>by
     induction k using Nat.strongRecOn with
     | ind k ih =>
       intro hk
       by_cases h0:k = 0
       ·subst h0; rw [pk0]; exact Nat.le_refl _
       ·rw [pk_step h2 (List.getElem?_eq_getElem hk) (by omega)]
        obtain ⟨b,_,_,_,q1,_,q3,_⟩:=h2.par' (List.getElem?_eq_getElem hk) (by omega)
        rw [q3,Int.toNat_natCast,List.length_cons]
        have:=ih b q1 (by omega); omega
    have:=hkl k hk
    exact ⟨(pk l k).reverse,l[k].1,rfl,by rw [List.length_reverse]; omega,by rw [List.length_reverse]; omega,by rw [List.length_reverse]; exact hrun,g2,g1,h2.reach (List.getElem?_eq_getElem hk)⟩
 ·rw [h1] at ha; cases ha
end Go.Proofs.Tryz
namespace Go.Proofs.Tryz
open Go Go.VM
def W_r5:List (List Int):=[[0,0,0,0],[7,0,0,0],[0,1,0,0],[7,1,0,0],[7,0,0,1]]
def T_r5:List (List ThD):=[[(0,[0,0,0,0,0,0,0,0,0,0],[],[],false),(1,[0,0,0,0,0,0,0,0,1,0],[],[],false),(2,[0,0,0,0,0,0,0,0,1,5],[],[],false),(3,[0,0,0,0,0,0,0,0,1,5],[],[],false),
  (4,[0,0,0,0,0,1,0,0,1,5],[],[],false),(5,[0,0,0,0,0,1,0,0,1,5],[],[],false),(6,[0,0,0,0,0,1,0,0,1,5],[],[],false),(7,[0,0,0,0,0,1,0,0,1,5],[(2,0)],[],false),
  (7,[0,0,0,0,0,1,0,0,1,5],[],[],false),(8,[0,0,0,0,0,1,0,0,1,5],[],[],false),(3,[0,7,0,0,0,0,0,0,1,5],[],[],false),(9,[0,0,0,0,0,1,0,0,1,5],[],[],false),
  (4,[0,7,0,0,0,0,0,0,1,5],[],[],false),(12,[0,7,0,0,0,0,0,0,1,5],[],[],false),(13,[0,7,0,0,0,0,0,0,1,5],[],[7],false),(10,[0,0,0,0,0,1,0,0,1,5],[],[],false),
  (11,[0,0,0,0,0,1,0,0,1,5],[(3,0)],[],false),(2,[0,0,0,0,0,1,0,0,1,5],[(3,0)],[],false),(11,[0,0,0,0,0,1,0,0,1,5],[],[],false),(3,[0,7,0,0,0,1,0,0,1,5],[(3,0)],[],false),
  (2,[0,0,0,0,0,1,0,0,1,5],[],[],false),(4,[0,7,0,0,0,0,0,0,1,5],[(3,0)],[],false),(3,[0,7,0,0,0,1,0,0,1,5],[],[],false),(12,[0,7,0,0,0,0,0,0,1,5],[(3,0)],[],false),
  (13,[0,7,0,0,0,0,0,0,1,5],[(3,0)],[7],false)],
 [(0,[0,0,0,0,0,0,0,0,0,0],[],[],false),(1,[0,0,0,0,0,0,0,1,0,0],[],[],false),(2,[0,0,0,7,0,0,0,1,0,0],[],[],false),(3,[0,0,0,7,0,0,0,1,0,0],[],[],false),
  (4,[0,0,0,7,0,1,0,1,0,0],[],[],false),(5,[0,0,0,7,0,1,0,1,0,0],[],[],false),(6,[0,0,0,7,0,1,0,1,0,0],[],[],false),(7,[0,0,0,7,0,1,0,1,0,0],[],[],false),
  (8,[0,0,0,7,0,1,0,1,0,0],[],[],false),(18,[0,0,0,7,0,1,0,1,0,0],[],[],false),(8,[0,0,1,7,0,1,0,1,0,0],[],[],false),(9,[0,0,1,7,0,1,0,1,0,0],[],[],false),
  (10,[0,0,1,7,0,1,0,1,0,0],[],[],false),(11,[0,0,1,7,0,1,0,1,0,0],[],[],false),(12,[0,0,1,7,0,1,0,1,0,0],[],[],false),(13,[0,0,1,7,2,1,0,1,0,0],[],[],false),
  (14,[0,0,1,7,2,1,0,1,0,0],[],[],false),(15,[0,0,1,7,2,1,0,1,0,0],[(3,1)],[],false),(16,[0,0,0,7,2,1,0,1,0,0],[(3,1)],[],false),(15,[0,0,1,7,2,1,0,1,0,0],[],[],false),
  (18,[0,0,0,7,2,1,0,1,0,0],[(3,1)],[],false),(16,[0,0,0,7,2,1,0,1,0,0],[],[],false),(18,[0,0,0,7,2,1,0,1,0,0],[],[],false)]]
def C_r5:List (List (Nat × List Nat)):=[[(0,[0,0]),(0,[1,0]),(0,[0,1]),(0,[2,0]),(0,[1,1]),(0,[0,2]),(0,[3,0]),(0,[2,1]),(0,[1,2]),(0,[0,3]),(0,[4,0]),(0,[3,1]),(0,[2,2]),(0,[1,3]),(0,[0,4]),(0,[5,0]),
  (0,[4,1]),(0,[3,2]),(0,[2,3]),(0,[1,4])],
 [(0,[0,5]),(0,[6,0]),(0,[5,1]),(0,[4,2]),(0,[3,3]),(0,[2,4]),(0,[1,5]),(1,[0,6]),(0,[7,0]),(0,[6,1]),(0,[5,2]),(0,[4,3]),(0,[3,4]),(0,[2,5]),(1,[1,6]),(1,[0,7]),
  (0,[8,0]),(0,[7,1]),(0,[6,2]),(0,[5,3])],
 [(0,[4,4]),(0,[3,5]),(1,[2,6]),(1,[1,7]),(1,[0,8]),(2,[9,0]),(0,[8,1]),(0,[7,2]),(0,[6,3]),(0,[5,4]),(0,[4,5]),(1,[3,6]),(1,[10,6]),(1,[2,7]),(1,[1,8]),(1,[0,9]),
  (2,[11,0]),(2,[9,1]),(0,[8,2]),(0,[7,3])],
 [(0,[6,4]),(0,[5,5]),(1,[4,6]),(1,[3,7]),(1,[12,6]),(1,[10,7]),(1,[2,8]),(1,[1,9]),(2,[11,1]),(2,[9,2]),(0,[8,3]),(0,[7,4]),(0,[6,5]),(1,[5,6]),(1,[4,7]),(1,[3,8]),
  (1,[13,6]),(1,[12,7]),(1,[10,8]),(1,[2,9])],
 [(2,[11,2]),(2,[9,3]),(0,[8,4]),(0,[7,5]),(1,[6,6]),(1,[5,7]),(1,[4,8]),(1,[3,9]),(1,[14,6]),(1,[13,7]),(1,[12,8]),(1,[10,9]),(2,[11,3]),(2,[9,4]),(0,[8,5]),(1,[7,6]),
  (1,[6,7]),(1,[5,8]),(1,[4,9]),(1,[14,7])],
 [(1,[13,8]),(1,[12,9]),(2,[11,4]),(2,[9,5]),(1,[8,6]),(1,[7,7]),(1,[6,8]),(1,[5,9]),(1,[14,8]),(1,[13,9]),(2,[11,5]),(3,[9,6]),(1,[8,7]),(1,[7,8]),(1,[6,9]),(1,[14,9]),
  (3,[11,6]),(3,[9,7]),(1,[8,8]),(1,[7,9])],
 [(3,[11,7]),(3,[9,10]),(3,[9,8]),(1,[8,9]),(3,[11,10]),(3,[9,11]),(3,[11,8]),(3,[9,9]),(3,[11,11]),(1,[9,12]),(3,[11,9]),(1,[11,12]),(1,[9,13]),(1,[11,13]),(1,[9,14]),
  (1,[11,14]),(1,[9,15]),(1,[11,15]),(1,[9,16]),(1,[11,16])],
 [(1,[9,17]),(1,[11,17]),(1,[9,18]),(4,[9,19]),(1,[11,18]),(4,[11,19]),(1,[9,20]),(4,[9,21]),(1,[11,20]),(4,[11,21]),(4,[15,19]),(4,[9,22]),(4,[11,22]),(4,[15,21]),(4,[16,19]),
  (4,[15,22]),(4,[16,21]),(4,[17,19]),(1,[18,19]),(4,[16,22])],
 [(4,[17,21]),(1,[18,21]),(4,[19,19]),(1,[20,19]),(4,[17,22]),(1,[18,22]),(4,[19,21]),(1,[20,21]),(4,[21,19]),(1,[22,19]),(4,[19,22]),(1,[20,22]),(4,[21,21]),(1,[22,21]),
  (4,[23,19]),(1,[12,19]),(4,[21,22]),(1,[22,22]),(4,[23,21]),(1,[12,21])],
 [(4,[24,19]),(1,[13,19]),(4,[23,22]),(1,[12,22]),(4,[24,21]),(1,[13,21]),(1,[14,19]),(4,[24,22]),(1,[13,22]),(1,[14,21]),(1,[14,22])]]
def d_r5 (k:Nat):StD:=decC W_r5 T_r5 C_r5 k
def E_r5:List EnD:=[([7,0,0,0],[[7],[]],[1,1]),([7,1,0,0],[[],[]],[3,1])]
def R_r5_0:List (List Nat):=[[1,2],[3,4],[4,5],[6,7],[7,8],[8,9],[10,11],[11,12],[12,13],[13,14],[15,16],[16,17],[17,18],[18,19],[19,20],[21,22],[22,23],[23,24],[24,25],[25,26],[26,27],[28,29],[29,30],
  [30,31],[31,32],[32,33],[33,34],[34,35],[36,37],[37,38],[38,39],[39,40],[40,41],[41,42],[42,43],[43,44],[45,46],[46,47],[47,48],[48,49],[49,50],[50,51],[52,53],[53,54],[54,55],
  [56,57],[57,58],[58,59],[59,60],[60,61],[61,62],[62,63],[64,65],[65,66],[66,67],[67],[68],[68,69],[69,70],[70,71]]
def R_r5_1:List (List Nat):=[[71,72],[72,73],[73,74],[74,75],[76,77],[77,78],[78,79],[79],[80],[80,81],[81,82],[82,83],[83,84],[84,85],[85,86],[86,87],[88,89],[89,90],[90,91],[91],[92],[92,93],[93,94],
  [94,95],[95,96],[96,97],[97,98],[98],[99],[99,100],[100,101],[101],[102],[102,103],[103,104],[104,105],[105,106],[106,107],[107],[108],[108,109],[109],[110],[110,111],[111,112],
  [112,113],[113,114],[114],[115],[115],[116],[116,117],[117,118],[118,119],[119],[],[120],[120,121],[122,123],[123]]
def R_r5_2:List (List Nat):=[[124],[124,125],[126,127],[127],[128],[128,129],[130],[130],[131],[131,132],[],[133],[133,134],[135],[135,136],[137],[137,138],[139],[139,140],[141],[141,142,143],[144,145],
  [144,146,147],[145,147],[148,149],[150,149],[148,151],[149,151],[152],[153,152],[154,153],[152],[155],[156,155],[157,158,156],[159],[160,161,159],[162,163,160],[163,161],[164,165],
  [166,167,164],[167,165],[168,169,166],[169,167],[170,171],[171],[172,173,170],[173,171],[174,175,172],[175,173],[176,177],[177],[178,179,176],[179,177],[180,181,178],[181,179],
  [182,183],[183],[184,185,182],[185,183]]
def R_r5_3:List (List Nat):=[[186,184],[186,185],[187,188],[188],[189,187],[189,188],[189],[190],[190],[190],[]]
theorem c_r5_0:ckRows (prgF (exF 5 true),false) d_r5 191 E_r5 0 R_r5_0 = true:=by kernel_rfl
theorem c_r5_1:ckRows (prgF (exF 5 true),false) d_r5 191 E_r5 60 R_r5_1 = true:=by kernel_rfl
theorem c_r5_2:ckRows (prgF (exF 5 true),false) d_r5 191 E_r5 120 R_r5_2 = true:=by kernel_rfl
theorem c_r5_3:ckRows (prgF (exF 5 true),false) d_r5 191 E_r5 180 R_r5_3 = true:=by kernel_rfl
theorem cert_r5:(endsM (prgF (exF 5 true),false)).1 = E_r5∧(endsM (prgF (exF 5 true),false)).2.2 = 0 :=
 cert_endsM (dec:=d_r5) (n:=191) (R:=(((R_r5_0 ++ R_r5_1) ++ R_r5_2) ++ R_r5_3)) (by kernel_rfl) (by kernel_rfl) (by kernel_rfl) (by decide) (by decide) (Yx _ _ 0 (Yx _ _ 0 (Yx _ _ 0 c_r5_0 (by have h:=c_r5_1; exact h)) (by have h:=c_r5_2; exact h)) (by have h:=c_r5_3; exact h))
  (pair_ok (by kernel_rfl)) fun e he=>by
   simp only [E_r5,List.mem_cons,List.not_mem_nil,or_false] at he
   rcases he with rfl | rfl
   ·exact ⟨[0,0,1,1,1,1,1,1,0,0,0,0,0,0,0],by kernel_rfl⟩
   ·exact ⟨[0,0,0,0,0,0,0,0,1,1,1,1,1,1,1,1,0,0,0],by kernel_rfl⟩
theorem told_end {m:McD} (s:StD):toldF s = (endOfF m s).2.1:=by
 unfold toldF
 show s.2.map _ = (List.range s.2.length).map fun (k:Nat)=>(thAt s k).2.2.2.1
 refine List.ext_getElem (by simp) fun i h1 h2=>?_
 rw [List.getElem_map,List.getElem_map,List.getElem_range]
 have hi:i < s.2.length:=by simpa using h1
 show _ = ((s.2[((i:Nat):Int).toNat]?).getD _).2.2.2.1
 rw [Int.toNat_natCast,List.getElem?_eq_getElem hi]; rfl
theorem miss5r:∃ w,missG endsM (exF 5 true) = (w,0)∧runBF (exF 5 true) w = ((7,[[]],[0]),(w.length:Int),0)∧w.length≤20000:=by
 obtain ⟨c1,c2⟩:=cert_r5
 have hchk:chkB (exF 5 true) = 0:=by kernel_rfl
 have hc:checkF (prgF (exF 5 true)) = 0:=by kernel_rfl
 have ha:(allF (prgF (exF 5 true),false)).2 = 0:=by rw [← endsM_err hc]; exact c2
 have hk:∃ js:List Nat,js.length≤3000∧ckEnd (prgF (exF 5 true),false) ([7,1,0,0],[[],[]],[3,1]) js = true:=⟨[0,0,0,0,0,0,0,0,1,1,1,1,1,1,1,1,0,0,0],by decide,by kernel_rfl⟩
 obtain ⟨js,hl,hj⟩:=hk
 unfold ckEnd at hj
 split at hj
 rotate_left
 ·cases hj
 rename_i s hs
 have h3:=Bool.and_eq_true_iff.1 hj
 have hr:=goP_reachN js _ _ 0 .zero hs
 have he:endOfF (prgF (exF 5 true),false) s = ([7,1,0,0],[[],[]],[3,1]):=of_decide_eq_true h3.2
 obtain ⟨w,z,g1,g2,g3,g4,g5,g6,_⟩:=way_of hc ha hr (ended_iff.1 h3.1) (by omega)
 rw [he] at g1 g5
 have s1:soundF (exF 5 true) (viewF (exF 5 true) [7,0,0,0] [[7],[]]) = true:=by kernel_rfl
 have s2:soundF (exF 5 true) (viewF (exF 5 true) [7,1,0,0] [[],[]]) = false:=by kernel_rfl
 refine ⟨w,?_,?_,g3⟩
 ·unfold missG
  rw [if_neg (by rw [hchk]; simp),if_neg (by rw [c2]; simp),c1]
  show missN _ [_,_] false [] = _
  rw [missN,if_pos s1,missN,if_neg (by rw [s2]; simp),g1]
  rw [if_neg (by simp),if_pos (.inl rfl),missN,if_pos rfl]
 ·unfold runBF
  rw [if_neg (by rw [hchk]; simp),g4,if_neg (by simp)]
  have t:toldF z = [[],[]]:=by rw [told_end (m:=(prgF (exF 5 true),false)),g5]
  have t1:z.1 = [7,1,0,0]:=congrArg Prod.fst g5
  show (viewF (exF 5 true) z.1 (toldF z),_,_) = _
  rw [t,t1]
  have:viewF (exF 5 true) [7,1,0,0] [[],[]] = (7,[[]],[0]):=by kernel_rfl
  rw [this]
theorem miss5:missG endsM (exF 5 false) = ([],7):=by
 obtain ⟨c1,c2⟩:=cert_x5
 have hchk:chkB (exF 5 false) = 0:=by kernel_rfl
 unfold missG
 rw [if_neg (by rw [hchk]; simp),if_neg (by rw [c2]; simp),c1]
 have s1:soundF (exF 5 false) (viewF (exF 5 false) [7,0,0,0] [[7],[]]) = true:=by kernel_rfl
 have s2:soundF (exF 5 false) (viewF (exF 5 false) [7,0,0,1] [[7],[]]) = true:=by kernel_rfl
 have s3:soundF (exF 5 false) (viewF (exF 5 false) [7,1,0,0] [[7],[]]) = true:=by kernel_rfl
 show missN _ [_,_,_] false [] = _
 rw [missN,if_pos s1,missN,if_pos s2,missN,if_pos s3,missN,if_neg (by simp)]
theorem picksN_len (l:List MtD):∀ (f n:Nat),(picksN l f n).length≤f
 | 0,n=>by unfold picksN; exact Nat.le_refl _
 | f + 1,n=>by
   unfold picksN
   split
   ·exact Nat.zero_le _
   ·split
    ·exact Nat.zero_le _
    ·rw [List.length_cons]; exact Nat.succ_le_succ (picksN_len l f _)
theorem wayG_len (p:WkD) (e:EnD):(wayG p e).1.length≤20001:=by
 unfold wayG
 split
 ·exact Nat.zero_le _
 ·split
  ·exact Nat.zero_le _
  ·split
   ·exact Nat.zero_le _
   ·show (List.reverse _).length≤_
    rw [List.length_reverse]; exact picksN_len _ _ _
end Go.Proofs.Tryz
namespace Go.Proofs.Tryz
open Go Go.VM
def LN:VM.Spec:=⟨[],[.bool],fun _=>True,fun _=>(true,())⟩
noncomputable def oNm:List (Nat × FT):=[(23,.spec SbT)]
def ab15 (L:Lv) (I:Ds [.sl It,.bool,It]→Prop) (mu:Ds [.sl It,.bool,It]→Nat):Nat→LAnn
 | 0=>anH L [2,4,5,8,32,33,34] [(2,none,1000000,It)] [.s 2 (.sl It),.s 8 .bool,.s 34 It] I mu
 | _=>.no
def nb68 (L:Lv) (F:BxF) (M:BeF) (a c:List Int)  : VC :=
 let z1:=(L.take It [BeF.cmpN M (L.cast (L.llen It a)) (L.cast (L.llen It c)),BxF.cmpL F a c] 2); .obl True (.obl (BxF.bl F a) (.obl (BxF.bl F z1) (.br
  (L.cmp .lss (BxF.or1 F z1) 0) (.ok ((true,()) = (BeF.before M a c,()))) (.ok ((false,()) = (BeF.before M a c,()))))))
theorem nb68_go (L:Lv) (F:BxF) (M:BeF) (a c:List Int) (h:VC.holds (nb68 L F M a c)):Holds (vcE L F M [] [122,123,124] 3 (Db68 a0) (Sb68 F M) (a,c,())):=Holds.of_eq (by kernel_rfl) h
def nb15 (L:Lv) (F:BxF) (M:BeF) (I:Ds [.sl It,.bool,It]→Prop) (mu:Ds [.sl It,.bool,It]→Nat) (b:BlD)  : VC :=
 let z1:=b.2;
 let z2:=z1.2;
 let z3:=z2.2;
 let z4:=(Prod.fst b,z1.1,z2.1,z3.1,z3.2);
 let z5:=(Prod.fst (BeF.missed M b),Prod.snd (BeF.missed M b),());
 let z6:=Prod.snd (BeF.prg M z4);
 let z7:=(Prod.fst (BeF.prg M z4),z6.1,z6.2);
 let z8:=(BxF.ends F (z7,false));
 let z9:=z8.2;
 let z10:=z8.1;
 let z11:=L.llen En z10;
 let z12:=L.cast z11;
 let z13:=b.1;
 let z14:=z1.1;
 let z15:=z2.1;
 let z16:=z3.1;
 let z17:=z3.2;
 let z18:=Prod.fst (BeF.prg M z4);
 let z19:=z6.1;
 let z20:=z6.2; .obl (BeF.bB M z4) (.br (L.cmp .neq (BeF.chk M z4) 0) (.ok (([],BeF.chk M z4,()) = z5)) (.obl (BeF.pP M z4) (.obl (BxF.bw F z7) (.br
  (L.cmp .neq z9.2 0) (.ok (([],z9.2,()) = z5)) (.obl (St.mk 67 [(2,V.c (C.sl It [])),(4,V.c (C.ptr 2 0)),(5,V.c (C.ptr 3 0)),(8,V.c (C.sym
  false)),(32,V.c (C.sl En z10)),(33,V.c (C.int .i64 z12)),(34,V.c (C.int .i64 0))] [(0,Ob.amb),(1,Ob.box 28 [C.int .i64 z13,C.int .i64 z14,
  C.sym z15,C.sl It z16,C.sl (Ty.sl It) z17]),(2,Ob.box 106 [C.int .i64 z13,C.int .i64 z14,C.sym z15,C.sl It z16,C.sl (Ty.sl It) z17]),(3,Ob.box 50 [C.sl It
  z18,C.sl (Ty.sl In) z19,C.int .i64 z20])] 4 = St.mk 67 [(2,V.c (C.sl It [])),(4,V.c (C.ptr 2 0)),(5,V.c (C.ptr 3 0)),(8,V.c (C.sym false)),(32,V.c (C.sl En
  z10)),(33,V.c (C.int .i64 z12)),(34,V.c (C.int .i64 0))] [(0,Ob.amb),(1,Ob.box 28 [C.int .i64 z13,C.int .i64 z14,C.sym z15,C.sl It z16,C.sl
  (Ty.sl It) z17]),(2,Ob.box 106 [C.int .i64 z13,C.int .i64 z14,C.sym z15,C.sl It z16,C.sl (Ty.sl It) z17]),(3,Ob.box 50 [C.sl It z18,C.sl (Ty.sl In) z19,
  C.int .i64 z20])] 4) (.obl (I ([],false,0,())) (.all (List Int × Bool × Int × Unit) fun (v1:List Int × Bool × Int × Unit) =>
 let z21:=v1.2;
 let z22:=z21.2.1;
 let z23:=L.get En z10 (L.toN z22);
 let z24:=z23.1;
 let z25:=z23.2;
 let z26:=z25.1;
 let z27:=Prod.snd (BeF.view M z4 z24 z26);
 let z28:=(Prod.fst (BeF.view M z4 z24 z26),z27.1,z27.2);
 let z29:=v1.1;
 let z30:=z21.1;
 let z31:=L.ar .add .i64 z22 1;
 let z32:=(Prod.fst v1,z21.1,L.ar .add .i64 z22 1,());
 let z33:=(Prod.fst z23,z25.1,z25.2);
 let z34:=BxF.way F z7 z33;
 let z35:=z34.1;
 let z36:=(Prod.fst z34,true,L.ar .add .i64 z22 1,()); .imp (I v1) (.br (L.cmp .lss z22 z12) (.obl (L.inR z22 z11) (.obl (BeF.pV M z4 z24 z26)
  (.obl (BeF.pSnd M z4 z28) (.br (BeF.sound M z4 z28) (.ok (St.mk 67 [(2,V.c (C.sl It z29)),(4,V.c (C.ptr 2 0)),(5,V.c (C.ptr 3 0)),(8,V.c (C.sym z30)),(32,V.c (C.sl
  En z10)),(33,V.c (C.int .i64 z12)),(34,V.c (C.int .i64 z31))] [(0,Ob.amb),(1,Ob.box 28 [C.int .i64 z13,C.int .i64 z14,C.sym z15,C.sl It z16,
  C.sl (Ty.sl It) z17]),(2,Ob.box 106 [C.int .i64 z13,C.int .i64 z14,C.sym z15,C.sl It z16,C.sl (Ty.sl It) z17]),(3,Ob.box 50 [C.sl It z18,C.sl (Ty.sl In)
  z19,C.int .i64 z20])] 4 = St.mk 67 [(2,V.c (C.sl It z29)),(4,V.c (C.ptr 2 0)),(5,V.c (C.ptr 3 0)),(8,V.c (C.sym z30)),(32,V.c (C.sl En z10)),(33,V.c (C.int
  .i64 z12)),(34,V.c (C.int .i64 z31))] [(0,Ob.amb),(1,Ob.box 28 [C.int .i64 z13,C.int .i64 z14,C.sym z15,C.sl It z16,C.sl (Ty.sl It) z17]),
  (2,Ob.box 106 [C.int .i64 z13,C.int .i64 z14,C.sym z15,C.sl It z16,C.sl (Ty.sl It) z17]),(3,Ob.box 50 [C.sl It z18,C.sl (Ty.sl In) z19,C.int .i64
  z20])] 4∧I z32∧mu z32 < mu v1)) (.obl (BxF.pWay F z7 z33) (.br (L.cmp .neq z34.2 0) (.ok (([],z34.2,()) = z5)) (.br z30 (.obl (BxF.bl F
  z35∧BxF.bl F z29) (.br (BeF.before M z35 z29) (.ok (St.mk 67 [(2,V.c (C.sl It z35)),(4,V.c (C.ptr 2 0)),(5,V.c (C.ptr 3 0)),(8,V.c (C.sym true)),(32,V.c (C.sl En
  z10)),(33,V.c (C.int .i64 z12)),(34,V.c (C.int .i64 z31))] [(0,Ob.amb),(1,Ob.box 28 [C.int .i64 z13,C.int .i64 z14,C.sym z15,C.sl It z16,
  C.sl (Ty.sl It) z17]),(2,Ob.box 106 [C.int .i64 z13,C.int .i64 z14,C.sym z15,C.sl It z16,C.sl (Ty.sl It) z17]),(3,Ob.box 50 [C.sl It z18,C.sl (Ty.sl In)
  z19,C.int .i64 z20])] 4 = St.mk 67 [(2,V.c (C.sl It z35)),(4,V.c (C.ptr 2 0)),(5,V.c (C.ptr 3 0)),(8,V.c (C.sym true)),(32,V.c (C.sl En z10)),(33,V.c (C.int
  .i64 z12)),(34,V.c (C.int .i64 z31))] [(0,Ob.amb),(1,Ob.box 28 [C.int .i64 z13,C.int .i64 z14,C.sym z15,C.sl It z16,C.sl (Ty.sl It) z17]),
  (2,Ob.box 106 [C.int .i64 z13,C.int .i64 z14,C.sym z15,C.sl It z16,C.sl (Ty.sl It) z17]),(3,Ob.box 50 [C.sl It z18,C.sl (Ty.sl In) z19,C.int .i64
  z20])] 4∧I z36∧mu z36 < mu v1)) (.ok (St.mk 67 [(2,V.c (C.sl It z29)),(4,V.c (C.ptr 2 0)),(5,V.c (C.ptr 3 0)),(8,V.c (C.sym z30)),(32,V.c (C.sl En z10)),(33,V.c
  (C.int .i64 z12)),(34,V.c (C.int .i64 z31))] [(0,Ob.amb),(1,Ob.box 28 [C.int .i64 z13,C.int .i64 z14,C.sym z15,C.sl It z16,C.sl (Ty.sl It)
  z17]),(2,Ob.box 106 [C.int .i64 z13,C.int .i64 z14,C.sym z15,C.sl It z16,C.sl (Ty.sl It) z17]),(3,Ob.box 50 [C.sl It z18,C.sl (Ty.sl In) z19,C.int
  .i64 z20])] 4 = St.mk 67 [(2,V.c (C.sl It z29)),(4,V.c (C.ptr 2 0)),(5,V.c (C.ptr 3 0)),(8,V.c (C.sym z30)),(32,V.c (C.sl En z10)),(33,V.c (C.int .i64
  z12)),(34,V.c (C.int .i64 z31))] [(0,Ob.amb),(1,Ob.box 28 [C.int .i64 z13,C.int .i64 z14,C.sym z15,C.sl It z16,C.sl (Ty.sl It) z17]),(2,Ob.box 106
  [C.int .i64 z13,C.int .i64 z14,C.sym z15,C.sl It z16,C.sl (Ty.sl It) z17]),(3,Ob.box 50 [C.sl It z18,C.sl (Ty.sl In) z19,C.int .i64 z20])] 4∧I z32
  ∧ mu z32 < mu v1)))) (.ok (St.mk 67 [(2,V.c (C.sl It z35)),(4,V.c (C.ptr 2 0)),(5,V.c (C.ptr 3 0)),(8,V.c (C.sym true)),(32,V.c (C.sl En z10)),(33,V.c (C.int
  .i64 z12)),(34,V.c (C.int .i64 z31))] [(0,Ob.amb),(1,Ob.box 28 [C.int .i64 z13,C.int .i64 z14,C.sym z15,C.sl It z16,C.sl (Ty.sl It) z17]),
  (2,Ob.box 106 [C.int .i64 z13,C.int .i64 z14,C.sym z15,C.sl It z16,C.sl (Ty.sl It) z17]),(3,Ob.box 50 [C.sl It z18,C.sl (Ty.sl In) z19,C.int .i64
  z20])] 4 = St.mk 67 [(2,V.c (C.sl It z35)),(4,V.c (C.ptr 2 0)),(5,V.c (C.ptr 3 0)),(8,V.c (C.sym true)),(32,V.c (C.sl En z10)),(33,V.c (C.int .i64 z12)),(34,
  V.c (C.int .i64 z31))] [(0,Ob.amb),(1,Ob.box 28 [C.int .i64 z13,C.int .i64 z14,C.sym z15,C.sl It z16,C.sl (Ty.sl It) z17]),(2,Ob.box 106 [C.int
  .i64 z13,C.int .i64 z14,C.sym z15,C.sl It z16,C.sl (Ty.sl It) z17]),(3,Ob.box 50 [C.sl It z18,C.sl (Ty.sl In) z19,C.int .i64 z20])] 4∧I z36∧mu
  z36 < mu v1))))))))) (.br z30 (.ok ((Prod.fst v1,0,()) = z5)) (.ok (([],7,()) = z5)))))))))))
theorem nb15_go (L:Lv) (F:BxF) (M:BeF) (I:Ds [.sl It,.bool,It]→Prop) (mu:Ds [.sl It,.bool,It]→Nat) (b:BlD) (h:VC.holds (nb15 L F M I mu b)):Holds (vcE L F M [] [62,63,64,66,65,67,68] 3 (Db15 (ab15 L I mu)) (Sb15 M) (b,())):=Holds.of_eq (by kernel_rfl) h
def nb3 (L:Lv) (F:BxF) (M:BeF)  : VC :=
 let z1:=Prod.snd (BeF.ex M 5 true);
 let z2:=z1.2;
 let z3:=z2.2;
 let z4:=(Prod.fst (BeF.ex M 5 true),z1.1,z2.1,z3.1,z3.2);
 let z5:=Prod.snd (BeF.ex M 5 false);
 let z6:=z5.2;
 let z7:=z6.2;
 let z8:=(Prod.fst (BeF.ex M 5 false),z5.1,z6.1,z7.1,z7.2);
 let z9:=Prod.fst (BeF.missed M z4);
 let z10:=Prod.snd (BeF.run M z4 z9);
 let z11:=Prod.fst (BeF.run M z4 z9);
 let z12:=z11.2;
 let z13:=(Prod.fst z11,z12.1,z12.2);
 let z14:=L.take It [0] 1;
 let z15:=Prod.snd (BeF.en M 7 [] z14);
 let z16:=(Prod.fst (BeF.en M 7 [] z14),z15.1,z15.2);
 let z17:=Prod.snd (BeF.ex M 1000000001 true);
 let z18:=z17.2;
 let z19:=z18.2;
 let z20:=(Prod.fst (BeF.ex M 1000000001 true),z17.1,z18.1,z19.1,z19.2);
 let z21:=(Prod.fst (BeF.ex M 1000000001 true),z17.1,z18.1,z19.1,L.take (Ty.sl It) (L.rep (Ty.sl It) (L.toN 4) []) (L.toN 4)); .obl True
  (.obl (BeF.bB M z4) (.obl True (.obl (BeF.bB M z8) (.br (L.cmp .neq (Prod.snd (BeF.missed M z4)) 0) (.ok ((false,()) = (true,()))) (.br (L.cmp .neq
  (Prod.snd (BeF.missed M z8)) 7) (.ok ((false,()) = (true,()))) (.obl True (.obl (BeF.pRun M z4 z9) (.br (L.cmp .neq z10.2 0) (.ok ((false,()) =
  (true,()))) (.br (L.cmp .neq z10.1 (L.cast (L.llen It z9))) (.ok ((false,()) = (true,()))) (.obl True (.obl (BeF.bE M z13∧BeF.bE M z16) (.br
  (BeF.same M z13 z16) (.obl True (.obl (BeF.bB M z4) (.obl True (.obl (BeF.bB M z4) (.obl True (.obl (BeF.bB M z20) (.obl (L.mkOk 4 4 24) (.obl (BeF.bB M z21)
  (.br (L.cmp .eql (Prod.snd (BeF.wtrE M z4 1)) 7) (.br (L.cmp .eql (Prod.snd (BeF.wrtE M z4 (Int.negSucc 0))) 7) (.br (L.cmp .eql (BeF.chk M z20) 3)
  (.br (L.cmp .eql (BeF.chk M z21) 5) (.obl (BeF.bB M (0,0,false,[],[])) (.br (L.cmp .eql (BeF.chk M (0,0,false,[],[])) 3) (.obl (BeF.bB M (0,1,
  false,[],[])) (.br (L.cmp .eql (BeF.chk M (0,1,false,[],[])) 4) (.obl True (.br true (.ok ((true,()) = (true,()))) (.ok ((false,()) = (true,())))))
  (.ok ((false,()) = (true,()))))) (.ok ((false,()) = (true,()))))) (.ok ((false,()) = (true,())))) (.ok ((false,()) = (true,())))) (.ok ((false,()) = (true,
  ())))) (.ok ((false,()) = (true,())))))))))))) (.ok ((false,()) = (true,())))))))))))))))
theorem nb3_go (L:Lv) (F:BxF) (M:BeF) (h:VC.holds (nb3 L F M)):Holds (vcE L F M oNm [16,15,17,18,19,20,21,22,23] 3 (Db3 a0) LN ()):=Holds.of_eq (by kernel_rfl) h
theorem okb68 (F:BxF) (M:BeF) (h:M.before = befF) (h1:M.cmpN = cmpI) (h2:F.cmpL = cmpLF) (h3:F.or1 = orF3) (q:F.bl = bL) (k1:SpecOk prog 122 (S111 F)) (k2:SpecOk prog 123 (Sb123 M)) (k3:SpecOk prog 124 (S112 F)):SpecOk prog 68 (Sb68 F M):=by
 refine Zc hm hE Db68 fnokb68 _ fun (z:List Int × List Int × Unit) hpre=>?_
 obtain ⟨a,c,⟨⟩⟩:=z
 have hpre':F.bl a∧F.bl c:=hpre
 rw [q] at hpre'
 refine Yp _ 3 a0 (Zs (T:=tabO [] (eT F M)) (l:=[122,123,124]) (Za (Yh k1 (by kernel_rfl)) (Za (Yh k2 (by kernel_rfl)) (Za (Yh k3 (by kernel_rfl)) Z4)))) ?_
 refine nb68_go Lv.std F M a c ?_
 simp only [nb68,VC.holds,ZJ,ZO,Zb,Zh,Zm,Yj,Ym,Z5,ZM,Yl,Yk,Yf,ZX,ZY,ZT,ZR,Ye,ZN,Zz,ZD,Zr,Z1,ZS,Z2,ZK,ZW,Yb,ZV,ZP,ZQ,Zt,ZH,Ya,Z3,ZI,Yd,Yc,Z6,Z7,Zg,ZC,ZL,ZU,Z8,Z9,Zd,Ze,ZA,ZB,Zu,Zv,Zx,Zy,Zk,Zl,Zp,Zq,Zi,Zj,Zn,Zo,ZG,ZF,ZZ,Yg,ZE,h,h1,h2,h3,q,Prod.mk.injEq,and_true,true_and]
 have e:List.take 2 [cmpI (a.length:Int) (c.length:Int),cmpLF a c] = [cmpI (a.length:Int) (c.length:Int),cmpLF a c]:=rfl
 rw [e]
 refine ⟨hpre'.1,by show (2:Nat)≤_; omega,fun hc=>?_,fun hc=>?_⟩
 ·exact (decide_eq_true hc).symm
 ·exact (decide_eq_false (by omega)).symm
theorem okb15 (F:BxF) (M:BeF) (h:M.missed = missG F.ends) (h1:M.chk = chkB) (h2:M.prg = prgF) (h3:M.view = viewF) (h4:M.sound = soundF) (h5:F.way = wayG) (h6:M.before = befF) (hF:F.ends = endsG F.sort compL) (hs:∀ l,(F.sort l).Perm l) (q1:M.bB = bBF) (q2:M.pP = bBF) (q3:F.bw = bW) (q5:M.pV = pVF) (q6:M.pSnd = pSndF) (q7:F.pWay = fun p _=>bW p) (q8:F.bl = bL)
  (k1:SpecOk prog 62 (Sb62 M)) (k2:SpecOk prog 63 (Sb63 M)) (k3:SpecOk prog 64 (S19 F)) (k4:SpecOk prog 66 (Sb66 M)) (k5:SpecOk prog 65 (Sb65 M)) (k6:SpecOk prog 67 (S24 F)) (k7:SpecOk prog 68 (Sb68 F M)):SpecOk prog 15 (Sb15 M):=by
 refine Zc hm hE Db15 fnokb15 _ fun (z:BlD × Unit) hpre=>?_
 obtain ⟨b,⟨⟩⟩:=z
 have hpre':M.bB b:=hpre
 rw [q1] at hpre'
 obtain ⟨E,hEd⟩:∃ E,E = (F.ends (prgF b,false)).1:=⟨_,rfl⟩
 let I:List Int × Bool × Int × Unit→Prop:=fun x=>(0≤x.2.2.1∧x.2.2.1≤E.length)∧x.1.length≤20001∧missN b (E.drop x.2.2.1.toNat) x.2.1 x.1 = missN b E false []
 let mu:List Int × Bool × Int × Unit→Nat:=fun x=>(E.length - x.2.2.1).toNat
 refine Yp _ 3 (ab15 Lv.std I mu) (Zs (T:=tabO [] (eT F M)) (l:=[62,63,64,66,65,67,68]) (Za (Yh k1 (by kernel_rfl)) (Za (Yh k2 (by kernel_rfl)) (Za (Yh k3 (by kernel_rfl)) (Za (Yh k4 (by kernel_rfl)) (Za (Yh k5 (by kernel_rfl)) (Za (Yh k6 (by kernel_rfl)) (Za (Yh k7 (by kernel_rfl)) Z4)))))))) ?_
 refine nb15_go Lv.std F M I mu b ?_
 simp only [nb15,VC.holds,ZJ,ZO,Zb,Zh,Zm,Yj,Ym,Z5,ZM,Yl,Yk,Yf,ZX,ZY,ZT,ZR,Ye,ZN,Zz,ZD,Zr,Z1,ZS,Z2,ZK,ZW,Yb,ZV,ZP,ZQ,Zt,ZH,Ya,Z3,ZI,Yd,Yc,Z6,Z7,Zg,ZC,ZL,ZU,Z8,Z9,Zd,Ze,ZA,ZB,Zu,Zv,Zx,Zy,Zk,Zl,Zp,Zq,Zi,Zj,Zn,Zo,ZG,ZF,ZZ,Yg,ZE,h,h1,h2,h3,h4,h5,h6,q1,q2,q3,q5,q6,q7,q8,pe5,← hEd,missG,Prod.mk.injEq,and_true,true_and]
 have eE:E.length≤20000:=by rw [hEd,hF]; exact endsG_len hs
 have pv:∀ e ∈ E,pVF b e.1 e.2.1:=fun e he=>by
  rw [hEd,hF] at he
  obtain ⟨s,h1,rfl⟩:=endsG_mem hs he
  exact end_view hpre' h1
 refine ⟨hpre',fun c=>by rw [if_pos c]; exact ⟨rfl,rfl⟩,fun c=>⟨hpre',prg_bW hpre',fun d=>by rw [if_neg (by omega),if_pos d]; exact ⟨rfl,rfl⟩,fun d=>?_⟩⟩
 rw [if_neg (by omega),if_neg (by omega)]
 refine ⟨⟨⟨Int.le_refl 0,by show (0:Int)≤E.length; omega⟩,Nat.zero_le _,rfl⟩,?_⟩
 rintro ⟨best,f,x,⟨⟩⟩ ⟨⟨i1,i2⟩,i3,i4⟩
 simp only at i1 i2 i3 i4 ⊢
 obtain ⟨j,rfl⟩:=Yq i1
 rw [Int.toNat_natCast] at i4 ⊢
 refine ⟨fun hlt=>?_,fun hge=>?_⟩
 ·have hj:j < E.length:=by omega
  rw [wr hlt (by omega),List.getElem?_eq_getElem hj,Option.getD_some]
  rw [List.drop_eq_getElem_cons hj] at i4
  have pe:=pv _ (List.getElem_mem hj)
  have dec:((E.length:Int) - ((j + 1:Nat):Int)).toNat < ((E.length:Int) - j).toNat:=by omega
  have rng:(0:Int)≤((j + 1:Nat):Int)∧((j + 1:Nat):Int)≤E.length:=by omega
  have hw:=wayG_len (prgF b) E[j]
  rw [missN] at i4
  refine ⟨⟨by omega,hlt⟩,pe,⟨hpre',view_bE pe⟩,fun g=>?_,fun g=>⟨prg_bW hpre',fun g1=>?_,fun g1=>⟨fun g2=>⟨⟨by show _≤(1000000:Nat); omega,by show _≤(1000000:Nat); omega⟩,fun g3=>?_,fun g3=>?_⟩,fun g2=>?_⟩⟩⟩
  ·rw [if_pos g] at i4
   exact ⟨⟨rng,i3,i4⟩,dec⟩
  ·rw [if_neg (by rw [g]; simp),if_pos g1] at i4
   rw [← i4]; exact ⟨rfl,rfl⟩
  ·rw [if_neg (by rw [g]; simp),if_neg (by omega),if_pos (.inr g3)] at i4
   exact ⟨⟨rng,hw,i4⟩,dec⟩
  ·rw [if_neg (by rw [g]; simp),if_neg (by omega),if_neg (by rw [g2,g3]; simp)] at i4
   exact ⟨⟨rng,i3,i4⟩,dec⟩
  ·rw [if_neg (by rw [g]; simp),if_neg (by omega),if_pos (.inl g2)] at i4
   exact ⟨⟨rng,hw,i4⟩,dec⟩
 ·rw [List.drop_eq_nil_of_le (by omega),missN] at i4
  refine ⟨fun g=>?_,fun g=>?_⟩
  ·rw [if_pos g] at i4; rw [← i4]; exact ⟨rfl,rfl⟩
  ·rw [if_neg (by rw [g]; simp)] at i4; rw [← i4]; exact ⟨rfl,rfl⟩
theorem okb3 (F:BxF) (M:BeF) (g:M.aw = true) (h1:M.ex = exF) (h2:M.en = enF) (h4:M.run = runBF) (h5:M.same = fun a b=>decide (a = b)) (h6:M.chk = chkB) (h7:M.wtrE = wtrEF) (h8:M.wrtE = wrtEF) (m1:∃ w,M.missed (exF 5 true) = (w,0)∧runBF (exF 5 true) w = ((7,[[]],[0]),(w.length:Int),0)∧w.length≤20000) (m2:M.missed (exF 5 false) = ([],7))
  (q1:M.bB = bBF) (q2:M.pRun = fun b l=>bBF b∧l.length≤1000000) (q3:M.bE = bEF)
  (k1:SpecOk prog 16 (Sb16 M)) (k2:SpecOk prog 15 (Sb15 M)) (k3:SpecOk prog 17 (Sb17 M)) (k4:SpecOk prog 18 (Sb18 M)) (k5:SpecOk prog 19 (Sb19 M)) (k6:SpecOk prog 20 (Sb20 M)) (k7:SpecOk prog 21 (Sb21 M)) (k8:SpecOk prog 22 (Sb22 M)) (k9:SpecOk prog 23 (Sb23 M)):SpecOk prog 3 LN:=by
 refine Zc hm hE Db3 fnokb3 _ fun (z:Unit) hpre=>?_
 obtain ⟨⟩:=z
 refine Yp _ 3 a0 (Zs (T:=tabO oNm (eT F M)) (l:=[16,15,17,18,19,20,21,22,23]) (Za (Yh k1 (by kernel_rfl)) (Za (Yh k2 (by kernel_rfl)) (Za (Yh k3 (by kernel_rfl)) (Za (Yh k4 (by kernel_rfl)) (Za (Yh k5 (by kernel_rfl)) (Za (Yh k6 (by kernel_rfl)) (Za (Yh k7 (by kernel_rfl)) (Za (Yh k8 (by kernel_rfl)) (Za (Yh (okSbT M g k9) (by kernel_rfl)) Z4)))))))))) ?_
 refine nb3_go Lv.std F M ?_
 obtain ⟨w,m1,m3,m4⟩:=m1
 simp only [nb3,VC.holds,ZJ,ZO,Zb,Zh,Zm,Yj,Ym,Z5,ZM,Yl,Yk,Yf,ZX,ZY,ZT,ZR,Ye,ZN,Zz,ZD,Zr,Z1,ZS,Z2,ZK,ZW,Yb,ZV,ZP,ZQ,Zt,ZH,Ya,Z3,ZI,Yd,Yc,Z6,Z7,Zg,ZC,ZL,ZU,Z8,Z9,Zd,Ze,ZA,ZB,Zu,Zv,Zx,Zy,Zk,Zl,Zp,Zq,Zi,Zj,Zn,Zo,ZG,ZF,ZZ,Yg,ZE,h1,h2,h4,h5,h6,h7,h8,m1,m2,m3,q1,q2,q3,pe5,Prod.mk.injEq,and_true,true_and]
 have e3:enF 7 [] (List.take 1 [0]) = (7,[[]],[0]):=rfl
 have x4:List.take (Int.toNat 4) (List.replicate (Int.toNat 4) ([]:List Int)) = [[],[],[],[]]:=rfl
 have n1:Int.negSucc 0 = -1:=rfl
 rw [e3,x4,n1]
 have b5:bBF (exF 5 true):=by unfold bBF exF; simp
 have b5':bBF (exF 5 false):=by unfold bBF exF; simp
 have b6:bBF (exF 1000000001 true):=by unfold bBF exF; simp
 have b7:bBF ((exF 1000000001 true).1,(exF 1000000001 true).2.1,(exF 1000000001 true).2.2.1,(exF 1000000001 true).2.2.2.1,[[],[],[],[]]):=by unfold bBF exF; simp
 have b8:bBF (0,0,false,[],[]):=by unfold bBF; simp
 have b9:bBF (0,1,false,[],[]):=by unfold bBF; simp
 have f3:bEF (7,[[]],[0]):=by unfold bEF; simp
 have c1:(wtrEF (exF 5 true) 1).2 = 7:=by kernel_rfl
 have c2:(wrtEF (exF 5 true) (-1)).2 = 7:=by kernel_rfl
 have c3:chkB (exF 1000000001 true) = 3:=by kernel_rfl
 have c4:chkB ((exF 1000000001 true).1,(exF 1000000001 true).2.1,(exF 1000000001 true).2.2.1,(exF 1000000001 true).2.2.2.1,[[],[],[],[]]) = 5:=by kernel_rfl
 have c5:chkB (0,0,false,[],[]) = 3:=by kernel_rfl
 have c6:chkB (0,1,false,[],[]) = 4:=by kernel_rfl
 have m5:w.length≤1000000:=by omega
 simp [b5,b5',b6,b7,b8,b9,f3,c1,c2,c3,c4,c5,c6,m5]
end Go.Proofs.Tryz
namespace Go.Proofs.Tryz
open Go Go.VM
noncomputable def MM:BeF where
 bB:=bBF
 bT:=fun _=>True
 bE:=bEF
 bEs:=bEsF
 bI:=fun _=>True
 bLL:=bLLF
 ex:=exF
 en:=enF
 chk:=chkB
 same:=fun a b=>decide (a = b)
 wk:=wkF
 sames:=fun a b=>decide (a = b)
 pWt:=pWtF
 wtr:=wtrF
 pWr:=pWrF
 wrt:=wrtF
 prg:=prgF
 pP:=bBF
 prgE:=fun _=>(([],[],0),0)
 sum:=sumF
 sumE:=sumEF
 pV:=pVF
 view:=viewF
 pIt:=pItF
 lst:=lstF
 told:=toldF
 pRun:=fun b l=>bBF b∧l.length≤1000000
 run:=runBF
 ends:=endsBG endsM srtB compBL
 cmpB:=cmpBF
 sortB:=fun l=>List.mergeSort (α:=BeD) l fun x y=>!(Go.Proofs.ltOf cmpBF) y x
 compB:=compBL
 thin:=fun _=>false
 pMax:=pMaxF
 max:=maxF
 cat:=List.flatten
 nums:=fun _=>[]
 pSeen:=pSeenF
 seen:=seenF
 pSnd:=pSndF
 sound:=soundF
 soundE:=fun _ _=>(false,0)
 has:=hasIF
 pIsL:=fun _ _=>True
 isList:=fun _ _=>false
 pVE:=fun _ _=>True
 viewE:=fun _ _=>((0,[],[]),0)
 pVR:=fun _ _=>True
 viewR:=fun _ _=>(0,[],[])
 wtrE:=wtrEF
 wrtE:=wrtEF
 sameL:=fun _ _=>false
 missed:=missG endsM
 before:=befF
 aw:=true
 cmpN:=cmpI
 iset:=fun a n=>(1,a,0,0,0,n)
 ilod:=fun a n=>(8,a,0,0,0,n)
 icalc:=fun o a b c=>(o,a,b,c,0,0)
 isto:=fun a n=>(9,a,0,0,0,n)
 iswap:=fun a b c=>(10,5,0,b,c,a)
 bef:=fun i=>2 + 2 * i
 bel:=fun i=>2 + 2 * i + 1
 pBf:=pBfF
 i3:=fun _ _ _ _ _=>(0,0,0,0,0,0)
 izero:=fun _ _=>(0,0,0,0,0,0)
 iswR:=fun _ _ _=>(0,0,0,0,0,0)
 ijmp:=fun _=>(0,0,0,0,0,0)
noncomputable def JJ:IxF:=⟨pMaxF,ixF⟩
theorem hb16:SpecOk prog 16 (Sb16 MM):=okb16 FF MM rfl
theorem hb80:SpecOk prog 80 (S92 FF):=okb80 FF MM rfl
theorem hb22:SpecOk prog 22 (Sb22 MM):=okb22 FF MM rfl rfl rfl hb80
theorem hb62:SpecOk prog 62 (Sb62 MM):=okb62 FF MM hb22
theorem hb128:SpecOk prog 128 (Sb128 MM):=okb128 FF MM rfl
theorem hb129:SpecOk prog 129 (Sb129 MM):=okb129 FF MM rfl
theorem hb130:SpecOk prog 130 (Sb130 MM):=okb130 FF MM rfl
theorem hb132:SpecOk prog 132 (Sb132 MM):=okb132 FF MM rfl
theorem hb133:SpecOk prog 133 (Sb133 MM):=okb133 FF MM rfl rfl
theorem hb134:SpecOk prog 134 (Sb134 MM):=okb134 FF MM rfl
theorem hb135:SpecOk prog 135 (Sb135 MM):=okb135 FF MM rfl rfl rfl hb133
theorem hb75:SpecOk prog 75 (Sb75 MM):=okb75 FF MM rfl rfl rfl rfl rfl rfl rfl rfl rfl rfl hb128 hb129 hb130 okZero hb132 hb133 hb134 hb135
theorem hb77:SpecOk prog 77 (Sb77 MM):=okb77 FF MM rfl rfl rfl rfl rfl rfl hb128 hb129 hb130 okZero hb134
theorem hb63:SpecOk prog 63 (Sb63 MM):=okb63 FF MM rfl rfl rfl rfl rfl rfl hb75 hb77
theorem hb176:ItOk prog 176 (Ib176 MM):=okb176 FF MM rfl rfl rfl rfl hb133
theorem hb66:SpecOk prog 66 (Sb66 MM):=okb66 FF MM rfl rfl rfl rfl rfl h76 hb176
theorem hb147:SpecOk prog 147 (Sb147 MM):=okb147 FF MM rfl rfl
theorem hb148:XOk prog 148 (Rb148 MM).x:=okb148 FF MM rfl rfl okGrow
theorem hb88:SpecOk prog 88 (Sb88 MM):=okb88 FF MM rfl rfl rfl rfl rfl rfl hb147 hb148
theorem hb210:SpecOk prog 210 (Sb210 JJ):=okb210 FF MM JJ rfl rfl
theorem hb175:SpecOk prog 175 (Sb175 MM):=okb175 FF MM JJ rfl rfl rfl rfl hb210
theorem hb112:SpecOk prog 112 (Sb112 MM):=okb112 FF MM rfl rfl rfl rfl rfl rfl rfl rfl hb88 hb148 hb175
theorem hb65:SpecOk prog 65 (Sb65 MM):=okb65 FF MM rfl rfl rfl rfl rfl rfl hb88 hb112
theorem hb123:SpecOk prog 123 (Sb123 MM):=okb123 FF MM rfl
theorem hb68:SpecOk prog 68 (Sb68 FF MM):=okb68 FF MM rfl rfl rfl rfl rfl h111 hb123 h112
theorem hb15:SpecOk prog 15 (Sb15 MM):=okb15 FF MM rfl rfl rfl rfl rfl rfl rfl rfl (fun l=>List.mergeSort_perm l _) rfl rfl rfl rfl rfl rfl rfl hb62 hb63 h19 hb66 hb65 h24 hb68
theorem hb70:SpecOk prog 70 (Sb70 FF MM):=okb70 FF MM rfl rfl
theorem hb17:SpecOk prog 17 (Sb17 MM):=okb17 FF MM rfl rfl rfl rfl rfl rfl rfl rfl rfl rfl rfl rfl hb62 hb63 hb66 h51 hb70
theorem hb72:SpecOk prog 72 (Sb72 MM):=okb72 FF MM rfl rfl
theorem hb18:SpecOk prog 18 (Sb18 MM):=okb18 FF MM rfl rfl rfl rfl rfl hb72 h46
theorem hb19:SpecOk prog 19 (Sb19 MM):=okb19 FF MM rfl
theorem hb20:SpecOk prog 20 (Sb20 MM):=okb20 FF MM rfl rfl rfl rfl rfl hb75 hb62
theorem hb21:SpecOk prog 21 (Sb21 MM):=okb21 FF MM rfl rfl rfl rfl rfl hb77 hb62
theorem hb34:SpecOk prog 34 (Sb34 MM):=okb34 FF MM rfl rfl rfl hb62 hb88
theorem hb105:SpecOk prog 105 (Sb105 MM):=okb105 FF MM rfl rfl rfl rfl rfl rfl rfl rfl h111 hb123 h112 h113
theorem hb104:XOk prog 104 (Rb104 MM).u:=okb104 MM rfl rfl rfl rfl hb105
theorem hb107:SpecOk prog 107 (Sb107 MM):=okb107 FF MM rfl rfl hb105
theorem hb106:XOk prog 106 (Rb106 MM).x:=okb106 FF MM rfl rfl rfl rfl hb107
theorem hb55:SpecOk prog 55 (Sb55 MM):=okb55 FF MM rfl rfl rfl rfl rfl (fun l=>List.mergeSort_perm l _) (fun l=>List.mergeSort_perm l _) rfl rfl rfl rfl rfl hb62 hb63 h19 hb66 hb104 hb105 hb106 hb107
theorem hb59:SpecOk prog 59 (Sb59 MM):=okb59 FF MM rfl rfl rfl rfl hb18
theorem hb23:SpecOk prog 23 (Sb23 MM):=okb23 FF MM rfl rfl rfl rfl rfl rfl rfl run5 sum5 (Eq.trans (congrFun (show MM.ends = endsBG endsM srtB compBL from rfl) _) ends5) (Eq.trans (congrFun (show MM.ends = endsBG endsM srtB compBL from rfl) _) ends8) rfl rfl rfl rfl hb16 hb34 hb17 hb55 hb18 hb19 hb59
theorem hb3:SpecOk prog 3 LN:=okb3 FF MM rfl rfl rfl rfl rfl rfl rfl rfl (by obtain ⟨w,a,b,c⟩:=miss5r; exact ⟨w,(congrFun (show MM.missed = missG endsM from rfl) _).trans a,b,c⟩) ((congrFun (show MM.missed = missG endsM from rfl) _).trans miss5) rfl rfl rfl hb16 hb15 hb17 hb18 hb19 hb20 hb21 hb22 hb23
end Go.Proofs.Tryz
