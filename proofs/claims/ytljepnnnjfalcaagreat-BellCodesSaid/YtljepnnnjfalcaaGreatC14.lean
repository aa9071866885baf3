/- What functions of the weak memory compute, proved through the condition generator, and plain facts of it. Conditions: none of ours. -/
import Derived.Test.YtljepnnnjfalcaaGreatC13
set_option autoImplicit false
set_option maxRecDepth 100000
set_option linter.all false
namespace Go.Proofs.Tryz
open Go Go.VM
def a84 (L:Lv) (I:Int × List Int × Bool × Unit→Ds [.bool,It]→Prop) (mu:Ds [.bool,It]→Nat):Nat→LAnn
 | 0=>anE L [1,2,5,6,24,25,26] [] [.h (.s 5 U16),.h (.r 24 It),.h (.s 6 .bool)] [.s 6 .bool,.s 26 It] I (fun _=>mu)
 | _=>.no
def a64 (L:Lv) (I:ByteArray × Unit→Ds [It]→Prop) (mu:Ds [It]→Nat):Nat→LAnn
 | 0=>anE L [1,2,5,6,7] [] [.h (.s 5 .str)] [.s 7 It] I (fun _=>mu)
 | _=>.no
def n84 (L:Lv) (F:BxF) (I:Int × List Int × Bool × Unit→Ds [.bool,It]→Prop) (mu:Ds [.bool,It]→Nat) (i:InD) (many:Int)  : VC :=
 let z1:=i.1;
 let z2:=BxF.shape F z1;
 let z3:=z2.1;
 let z4:=L.cast 4;
 let z5:=i.2;
 let z6:=z5.1;
 let z7:=z5.2;
 let z8:=z7.1;
 let z9:=z7.2;
 let z10:=z9.1;
 let z11:=z9.2;
 let z12:=z11.1;
 let z13:=z11.2;
 let z14:=(Prod.fst z2,[Prod.fst z5,z7.1,z9.1,Prod.fst z11],true,());
 let z15:=(L.llen It [Prod.fst z5,z7.1,z9.1,Prod.fst z11]);
 let z16:=L.cmp .neq (L.ar .and .u16 z3 16) 0;
 let z17:=BxF.isNum F z13;
 let z18:=(BxF.isIns F i many,());
 let z19:=L.cmp .neq (L.ar .and .u16 z3 32) 0;
 let z20:=BxF.within F z13 0 63;
 let z21:=L.cmp .neq (L.ar .and .u16 z3 64) 0;
 let z22:=BxF.within F z13 0 many;
 let z23:=L.cmp .eql z13 0;
 let z24:=(Prod.fst z2,[Prod.fst z5,z7.1,z9.1,Prod.fst z11],false,()); .obl True (.br z2.2 (.obl (St.mk 80 [(1,V.c (C.int .i64 many)),
  (2,V.c (C.ptr 1 0)),(5,V.c (C.int .u16 z3)),(6,V.c (C.sym true)),(24,V.c (C.own 2 4)),(25,V.c (C.int .i64 z4)),(26,V.c (C.int .i64 0))] [(0,
  Ob.amb),(1,Ob.box 140 [C.int .u8 z1,C.int .i64 z6,C.int .i64 z8,C.int .i64 z10,C.int .i64 z12,C.int .i64 z13]),(2,Ob.row 3 It
  [Prod.fst z5,z7.1,z9.1,Prod.fst z11])] 3 = St.mk 80 [(1,V.c (C.int .i64 many)),(2,V.c (C.ptr 1 0)),(5,V.c (C.int .u16 z3)),(6,V.c (C.sym
  true)),(24,V.c (C.own 2 4)),(25,V.c (C.int .i64 z4)),(26,V.c (C.int .i64 0))] [(0,Ob.amb),(1,Ob.box 140 [C.int .u8 z1,C.int .i64 z6,C.int
  .i64 z8,C.int .i64 z10,C.int .i64 z12,C.int .i64 z13]),(2,Ob.row 3 It [Prod.fst z5,z7.1,z9.1,Prod.fst z11])] 3) (.obl (I z14
  (true,0,())) (.all (Bool × Int × Unit) fun (v1:Bool × Int × Unit) =>
 let z25:=v1.2.1;
 let z26:=L.toN z25;
 let z27:=v1.1;
 let z28:=(L.get It [Prod.fst z5,z7.1,z9.1,Prod.fst z11] z26);
 let z29:=L.ar .add .i64 z25 1; .imp (I z14 v1) (.br (L.cmp .lss z25 z4) (.obl (L.inR z25 4) (.obl (L.ltN z26 z15) (.obl (L.nonneg z25)
  (.br (L.cmp .neq (L.ar .and .u16 z3 (L.shf .shl .u16 1 z25)) 0) (.br z27 (.obl True (.br (BxF.within F z28 0 9) (.ok (St.mk 80
  [(1,V.c (C.int .i64 many)),(2,V.c (C.ptr 1 0)),(5,V.c (C.int .u16 z3)),(6,V.c (C.sym true)),(24,V.c (C.own 2 4)),(25,V.c (C.int .i64 z4)),(26,
  V.c (C.int .i64 z29))] [(0,Ob.amb),(1,Ob.box 140 [C.int .u8 z1,C.int .i64 z6,C.int .i64 z8,C.int .i64 z10,C.int .i64 z12,C.int
  .i64 z13]),(2,Ob.row 3 It [Prod.fst z5,z7.1,z9.1,Prod.fst z11])] 3 = St.mk 80 [(1,V.c (C.int .i64 many)),(2,V.c (C.ptr 1 0)),(5,V.c (C.int
  .u16 z3)),(6,V.c (C.sym true)),(24,V.c (C.own 2 4)),(25,V.c (C.int .i64 z4)),(26,V.c (C.int .i64 z29))] [(0,Ob.amb),(1,Ob.box 140 [C.int .u8
  z1,C.int .i64 z6,C.int .i64 z8,C.int .i64 z10,C.int .i64 z12,C.int .i64 z13]),(2,Ob.row 3 It [Prod.fst z5,z7.1,z9.1,
  Prod.fst z11])] 3∧I z14 (true,L.ar .add .i64 z25 1,())∧mu (true,L.ar .add .i64 z25 1,()) < mu v1)) (.ok (St.mk 80 [(1,V.c (C.int
  .i64 many)),(2,V.c (C.ptr 1 0)),(5,V.c (C.int .u16 z3)),(6,V.c (C.sym false)),(24,V.c (C.own 2 4)),(25,V.c (C.int .i64 z4)),(26,V.c (C.int
  .i64 z29))] [(0,Ob.amb),(1,Ob.box 140 [C.int .u8 z1,C.int .i64 z6,C.int .i64 z8,C.int .i64 z10,C.int .i64 z12,C.int .i64
  z13]),(2,Ob.row 3 It [Prod.fst z5,z7.1,z9.1,Prod.fst z11])] 3 = St.mk 80 [(1,V.c (C.int .i64 many)),(2,V.c (C.ptr 1 0)),(5,V.c (C.int .u16
  z3)),(6,V.c (C.sym false)),(24,V.c (C.own 2 4)),(25,V.c (C.int .i64 z4)),(26,V.c (C.int .i64 z29))] [(0,Ob.amb),(1,Ob.box 140 [C.int .u8 z1,C.int
  .i64 z6,C.int .i64 z8,C.int .i64 z10,C.int .i64 z12,C.int .i64 z13]),(2,Ob.row 3 It [Prod.fst z5,z7.1,z9.1,Prod.fst
  z11])] 3∧I z14 (false,L.ar .add .i64 z25 1,())∧mu (false,L.ar .add .i64 z25 1,()) < mu v1)))) (.ok (St.mk 80 [(1,V.c (C.int .i64
  many)),(2,V.c (C.ptr 1 0)),(5,V.c (C.int .u16 z3)),(6,V.c (C.sym false)),(24,V.c (C.own 2 4)),(25,V.c (C.int .i64 z4)),(26,V.c (C.int .i64 z29))]
  [(0,Ob.amb),(1,Ob.box 140 [C.int .u8 z1,C.int .i64 z6,C.int .i64 z8,C.int .i64 z10,C.int .i64 z12,C.int .i64 z13]),(2,Ob.row 3
  It [Prod.fst z5,z7.1,z9.1,Prod.fst z11])] 3 = St.mk 80 [(1,V.c (C.int .i64 many)),(2,V.c (C.ptr 1 0)),(5,V.c (C.int .u16 z3)),(6,V.c (C.sym
  false)),(24,V.c (C.own 2 4)),(25,V.c (C.int .i64 z4)),(26,V.c (C.int .i64 z29))] [(0,Ob.amb),(1,Ob.box 140 [C.int .u8 z1,C.int .i64 z6,C.int
  .i64 z8,C.int .i64 z10,C.int .i64 z12,C.int .i64 z13]),(2,Ob.row 3 It [Prod.fst z5,z7.1,z9.1,Prod.fst z11])] 3∧I z14 (false,
  L.ar .add .i64 z25 1,())∧mu (false,L.ar .add .i64 z25 1,()) < mu v1))) (.br z27 (.obl True (.br (BxF.within F z28 0 0) (.ok (St.mk 80
  [(1,V.c (C.int .i64 many)),(2,V.c (C.ptr 1 0)),(5,V.c (C.int .u16 z3)),(6,V.c (C.sym true)),(24,V.c (C.own 2 4)),(25,V.c (C.int .i64 z4)),(26,
  V.c (C.int .i64 z29))] [(0,Ob.amb),(1,Ob.box 140 [C.int .u8 z1,C.int .i64 z6,C.int .i64 z8,C.int .i64 z10,C.int .i64 z12,C.int
  .i64 z13]),(2,Ob.row 3 It [Prod.fst z5,z7.1,z9.1,Prod.fst z11])] 3 = St.mk 80 [(1,V.c (C.int .i64 many)),(2,V.c (C.ptr 1 0)),(5,V.c (C.int
  .u16 z3)),(6,V.c (C.sym true)),(24,V.c (C.own 2 4)),(25,V.c (C.int .i64 z4)),(26,V.c (C.int .i64 z29))] [(0,Ob.amb),(1,Ob.box 140 [C.int .u8
  z1,C.int .i64 z6,C.int .i64 z8,C.int .i64 z10,C.int .i64 z12,C.int .i64 z13]),(2,Ob.row 3 It [Prod.fst z5,z7.1,z9.1,
  Prod.fst z11])] 3∧I z14 (true,L.ar .add .i64 z25 1,())∧mu (true,L.ar .add .i64 z25 1,()) < mu v1)) (.ok (St.mk 80 [(1,V.c (C.int
  .i64 many)),(2,V.c (C.ptr 1 0)),(5,V.c (C.int .u16 z3)),(6,V.c (C.sym false)),(24,V.c (C.own 2 4)),(25,V.c (C.int .i64 z4)),(26,V.c (C.int
  .i64 z29))] [(0,Ob.amb),(1,Ob.box 140 [C.int .u8 z1,C.int .i64 z6,C.int .i64 z8,C.int .i64 z10,C.int .i64 z12,C.int .i64
  z13]),(2,Ob.row 3 It [Prod.fst z5,z7.1,z9.1,Prod.fst z11])] 3 = St.mk 80 [(1,V.c (C.int .i64 many)),(2,V.c (C.ptr 1 0)),(5,V.c (C.int .u16
  z3)),(6,V.c (C.sym false)),(24,V.c (C.own 2 4)),(25,V.c (C.int .i64 z4)),(26,V.c (C.int .i64 z29))] [(0,Ob.amb),(1,Ob.box 140 [C.int .u8 z1,C.int
  .i64 z6,C.int .i64 z8,C.int .i64 z10,C.int .i64 z12,C.int .i64 z13]),(2,Ob.row 3 It [Prod.fst z5,z7.1,z9.1,Prod.fst
  z11])] 3∧I z14 (false,L.ar .add .i64 z25 1,())∧mu (false,L.ar .add .i64 z25 1,()) < mu v1)))) (.ok (St.mk 80 [(1,V.c (C.int .i64
  many)),(2,V.c (C.ptr 1 0)),(5,V.c (C.int .u16 z3)),(6,V.c (C.sym false)),(24,V.c (C.own 2 4)),(25,V.c (C.int .i64 z4)),(26,V.c (C.int .i64 z29))]
  [(0,Ob.amb),(1,Ob.box 140 [C.int .u8 z1,C.int .i64 z6,C.int .i64 z8,C.int .i64 z10,C.int .i64 z12,C.int .i64 z13]),(2,Ob.row 3
  It [Prod.fst z5,z7.1,z9.1,Prod.fst z11])] 3 = St.mk 80 [(1,V.c (C.int .i64 many)),(2,V.c (C.ptr 1 0)),(5,V.c (C.int .u16 z3)),(6,V.c (C.sym
  false)),(24,V.c (C.own 2 4)),(25,V.c (C.int .i64 z4)),(26,V.c (C.int .i64 z29))] [(0,Ob.amb),(1,Ob.box 140 [C.int .u8 z1,C.int .i64 z6,C.int
  .i64 z8,C.int .i64 z10,C.int .i64 z12,C.int .i64 z13]),(2,Ob.row 3 It [Prod.fst z5,z7.1,z9.1,Prod.fst z11])] 3∧I z14 (false,
  L.ar .add .i64 z25 1,())∧mu (false,L.ar .add .i64 z25 1,()) < mu v1))))))) (.br z16 (.br z27 (.obl True (.br z17 (.ok ((true,()) =
  z18)) (.ok ((false,()) = z18)))) (.ok ((false,()) = z18))) (.br z19 (.br z27 (.obl True (.br z20 (.ok ((true,()) = z18)) (.ok ((false,()) = z18)))) (.ok
  ((false,()) = z18))) (.br z21 (.br z27 (.obl True (.br z22 (.ok ((true,()) = z18)) (.ok ((false,()) = z18)))) (.ok ((false,()) = z18))) (.br z27 (.br z23
  (.ok ((true,()) = z18)) (.ok ((false,()) = z18))) (.ok ((false,()) = z18)))))))))) (.obl (St.mk 80 [(1,V.c (C.int .i64 many)),(2,V.c (C.ptr 1 0)),(5,V.c
  (C.int .u16 z3)),(6,V.c (C.sym false)),(24,V.c (C.own 2 4)),(25,V.c (C.int .i64 z4)),(26,V.c (C.int .i64 0))] [(0,Ob.amb),(1,Ob.box 140 [C.int
  .u8 z1,C.int .i64 z6,C.int .i64 z8,C.int .i64 z10,C.int .i64 z12,C.int .i64 z13]),(2,Ob.row 3 It [Prod.fst z5,z7.1,
  Prod.fst z9,Prod.fst z11])] 3 = St.mk 80 [(1,V.c (C.int .i64 many)),(2,V.c (C.ptr 1 0)),(5,V.c (C.int .u16 z3)),(6,V.c (C.sym false)),(24,V.c (C.own 2
  4)),(25,V.c (C.int .i64 z4)),(26,V.c (C.int .i64 0))] [(0,Ob.amb),(1,Ob.box 140 [C.int .u8 z1,C.int .i64 z6,C.int .i64 z8,C.int
  .i64 z10,C.int .i64 z12,C.int .i64 z13]),(2,Ob.row 3 It [Prod.fst z5,z7.1,z9.1,Prod.fst z11])] 3) (.obl (I z24 (false,0,())) (.all
  (Bool × Int × Unit) fun (v2:Bool × Int × Unit) =>
 let z30:=v2.2.1;
 let z31:=L.toN z30;
 let z32:=v2.1;
 let z33:=(L.get It [Prod.fst z5,z7.1,z9.1,Prod.fst z11] z31);
 let z34:=L.ar .add .i64 z30 1; .imp (I z24 v2) (.br (L.cmp .lss z30 z4) (.obl (L.inR z30 4) (.obl (L.ltN z31 z15) (.obl (L.nonneg z30)
  (.br (L.cmp .neq (L.ar .and .u16 z3 (L.shf .shl .u16 1 z30)) 0) (.br z32 (.obl True (.br (BxF.within F z33 0 9) (.ok (St.mk 80
  [(1,V.c (C.int .i64 many)),(2,V.c (C.ptr 1 0)),(5,V.c (C.int .u16 z3)),(6,V.c (C.sym true)),(24,V.c (C.own 2 4)),(25,V.c (C.int .i64 z4)),(26,
  V.c (C.int .i64 z34))] [(0,Ob.amb),(1,Ob.box 140 [C.int .u8 z1,C.int .i64 z6,C.int .i64 z8,C.int .i64 z10,C.int .i64 z12,C.int
  .i64 z13]),(2,Ob.row 3 It [Prod.fst z5,z7.1,z9.1,Prod.fst z11])] 3 = St.mk 80 [(1,V.c (C.int .i64 many)),(2,V.c (C.ptr 1 0)),(5,V.c (C.int
  .u16 z3)),(6,V.c (C.sym true)),(24,V.c (C.own 2 4)),(25,V.c (C.int .i64 z4)),(26,V.c (C.int .i64 z34))] [(0,Ob.amb),(1,Ob.box 140 [C.int .u8
  z1,C.int .i64 z6,C.int .i64 z8,C.int .i64 z10,C.int .i64 z12,C.int .i64 z13]),(2,Ob.row 3 It [Prod.fst z5,z7.1,z9.1,
  Prod.fst z11])] 3∧I z24 (true,L.ar .add .i64 z30 1,())∧mu (true,L.ar .add .i64 z30 1,()) < mu v2)) (.ok (St.mk 80 [(1,V.c (C.int
  .i64 many)),(2,V.c (C.ptr 1 0)),(5,V.c (C.int .u16 z3)),(6,V.c (C.sym false)),(24,V.c (C.own 2 4)),(25,V.c (C.int .i64 z4)),(26,V.c (C.int
  .i64 z34))] [(0,Ob.amb),(1,Ob.box 140 [C.int .u8 z1,C.int .i64 z6,C.int .i64 z8,C.int .i64 z10,C.int .i64 z12,C.int .i64
  z13]),(2,Ob.row 3 It [Prod.fst z5,z7.1,z9.1,Prod.fst z11])] 3 = St.mk 80 [(1,V.c (C.int .i64 many)),(2,V.c (C.ptr 1 0)),(5,V.c (C.int .u16
  z3)),(6,V.c (C.sym false)),(24,V.c (C.own 2 4)),(25,V.c (C.int .i64 z4)),(26,V.c (C.int .i64 z34))] [(0,Ob.amb),(1,Ob.box 140 [C.int .u8 z1,C.int
  .i64 z6,C.int .i64 z8,C.int .i64 z10,C.int .i64 z12,C.int .i64 z13]),(2,Ob.row 3 It [Prod.fst z5,z7.1,z9.1,Prod.fst
  z11])] 3∧I z24 (false,L.ar .add .i64 z30 1,())∧mu (false,L.ar .add .i64 z30 1,()) < mu v2)))) (.ok (St.mk 80 [(1,V.c (C.int .i64
  many)),(2,V.c (C.ptr 1 0)),(5,V.c (C.int .u16 z3)),(6,V.c (C.sym false)),(24,V.c (C.own 2 4)),(25,V.c (C.int .i64 z4)),(26,V.c (C.int .i64 z34))]
  [(0,Ob.amb),(1,Ob.box 140 [C.int .u8 z1,C.int .i64 z6,C.int .i64 z8,C.int .i64 z10,C.int .i64 z12,C.int .i64 z13]),(2,Ob.row 3
  It [Prod.fst z5,z7.1,z9.1,Prod.fst z11])] 3 = St.mk 80 [(1,V.c (C.int .i64 many)),(2,V.c (C.ptr 1 0)),(5,V.c (C.int .u16 z3)),(6,V.c (C.sym
  false)),(24,V.c (C.own 2 4)),(25,V.c (C.int .i64 z4)),(26,V.c (C.int .i64 z34))] [(0,Ob.amb),(1,Ob.box 140 [C.int .u8 z1,C.int .i64 z6,C.int
  .i64 z8,C.int .i64 z10,C.int .i64 z12,C.int .i64 z13]),(2,Ob.row 3 It [Prod.fst z5,z7.1,z9.1,Prod.fst z11])] 3∧I z24 (false,
  L.ar .add .i64 z30 1,())∧mu (false,L.ar .add .i64 z30 1,()) < mu v2))) (.br z32 (.obl True (.br (BxF.within F z33 0 0) (.ok (St.mk 80
  [(1,V.c (C.int .i64 many)),(2,V.c (C.ptr 1 0)),(5,V.c (C.int .u16 z3)),(6,V.c (C.sym true)),(24,V.c (C.own 2 4)),(25,V.c (C.int .i64 z4)),(26,
  V.c (C.int .i64 z34))] [(0,Ob.amb),(1,Ob.box 140 [C.int .u8 z1,C.int .i64 z6,C.int .i64 z8,C.int .i64 z10,C.int .i64 z12,C.int
  .i64 z13]),(2,Ob.row 3 It [Prod.fst z5,z7.1,z9.1,Prod.fst z11])] 3 = St.mk 80 [(1,V.c (C.int .i64 many)),(2,V.c (C.ptr 1 0)),(5,V.c (C.int
  .u16 z3)),(6,V.c (C.sym true)),(24,V.c (C.own 2 4)),(25,V.c (C.int .i64 z4)),(26,V.c (C.int .i64 z34))] [(0,Ob.amb),(1,Ob.box 140 [C.int .u8
  z1,C.int .i64 z6,C.int .i64 z8,C.int .i64 z10,C.int .i64 z12,C.int .i64 z13]),(2,Ob.row 3 It [Prod.fst z5,z7.1,z9.1,
  Prod.fst z11])] 3∧I z24 (true,L.ar .add .i64 z30 1,())∧mu (true,L.ar .add .i64 z30 1,()) < mu v2)) (.ok (St.mk 80 [(1,V.c (C.int
  .i64 many)),(2,V.c (C.ptr 1 0)),(5,V.c (C.int .u16 z3)),(6,V.c (C.sym false)),(24,V.c (C.own 2 4)),(25,V.c (C.int .i64 z4)),(26,V.c (C.int
  .i64 z34))] [(0,Ob.amb),(1,Ob.box 140 [C.int .u8 z1,C.int .i64 z6,C.int .i64 z8,C.int .i64 z10,C.int .i64 z12,C.int .i64
  z13]),(2,Ob.row 3 It [Prod.fst z5,z7.1,z9.1,Prod.fst z11])] 3 = St.mk 80 [(1,V.c (C.int .i64 many)),(2,V.c (C.ptr 1 0)),(5,V.c (C.int .u16
  z3)),(6,V.c (C.sym false)),(24,V.c (C.own 2 4)),(25,V.c (C.int .i64 z4)),(26,V.c (C.int .i64 z34))] [(0,Ob.amb),(1,Ob.box 140 [C.int .u8 z1,C.int
  .i64 z6,C.int .i64 z8,C.int .i64 z10,C.int .i64 z12,C.int .i64 z13]),(2,Ob.row 3 It [Prod.fst z5,z7.1,z9.1,Prod.fst
  z11])] 3∧I z24 (false,L.ar .add .i64 z30 1,())∧mu (false,L.ar .add .i64 z30 1,()) < mu v2)))) (.ok (St.mk 80 [(1,V.c (C.int .i64
  many)),(2,V.c (C.ptr 1 0)),(5,V.c (C.int .u16 z3)),(6,V.c (C.sym false)),(24,V.c (C.own 2 4)),(25,V.c (C.int .i64 z4)),(26,V.c (C.int .i64 z34))]
  [(0,Ob.amb),(1,Ob.box 140 [C.int .u8 z1,C.int .i64 z6,C.int .i64 z8,C.int .i64 z10,C.int .i64 z12,C.int .i64 z13]),(2,Ob.row 3
  It [Prod.fst z5,z7.1,z9.1,Prod.fst z11])] 3 = St.mk 80 [(1,V.c (C.int .i64 many)),(2,V.c (C.ptr 1 0)),(5,V.c (C.int .u16 z3)),(6,V.c (C.sym
  false)),(24,V.c (C.own 2 4)),(25,V.c (C.int .i64 z4)),(26,V.c (C.int .i64 z34))] [(0,Ob.amb),(1,Ob.box 140 [C.int .u8 z1,C.int .i64 z6,C.int
  .i64 z8,C.int .i64 z10,C.int .i64 z12,C.int .i64 z13]),(2,Ob.row 3 It [Prod.fst z5,z7.1,z9.1,Prod.fst z11])] 3∧I z24 (false,
  L.ar .add .i64 z30 1,())∧mu (false,L.ar .add .i64 z30 1,()) < mu v2))))))) (.br z16 (.br z32 (.obl True (.br z17 (.ok ((true,()) =
  z18)) (.ok ((false,()) = z18)))) (.ok ((false,()) = z18))) (.br z19 (.br z32 (.obl True (.br z20 (.ok ((true,()) = z18)) (.ok ((false,()) = z18)))) (.ok
  ((false,()) = z18))) (.br z21 (.br z32 (.obl True (.br z22 (.ok ((true,()) = z18)) (.ok ((false,()) = z18)))) (.ok ((false,()) = z18))) (.br z32 (.br z23
  (.ok ((true,()) = z18)) (.ok ((false,()) = z18))) (.ok ((false,()) = z18)))))))))))
theorem n84_go (L:Lv) (F:BxF) (I:Int × List Int × Bool × Unit→Ds [.bool,It]→Prop) (mu:Ds [.bool,It]→Nat) (i:InD) (many:Int) (h:VC.holds (n84 L F I mu i many)):Holds (vcC L F [151,152,188] (D84 (a84 L I mu)) (S84 F) (i,many,())):=Holds.of_eq (by kernel_rfl) h
def n64 (L:Lv) (F:BxF) (I:ByteArray × Unit→Ds [It]→Prop) (mu:Ds [It]→Nat) (i:InD) (many:Int)  : VC :=
 let z1:=i.1;
 let z2:=BxF.fields F z1;
 let z3:=i.2.1;
 let z4:=i.2.2;
 let z5:=z4.1;
 let z6:=z4.2;
 let z7:=z6.1;
 let z8:=z6.2;
 let z9:=z8.1;
 let z10:=z8.2;
 let z11:=(BxF.fields F z1,());
 let z12:=(L.slen (ByteArray.mk #[65,66,67,68]));
 let z13:=BxF.pHas F z2;
 let z14:=L.cmp .neq z3 0;
 let z15:=(BxF.isIns F i many,());
 let z16:=L.cmp .neq z5 0;
 let z17:=L.cmp .neq z7 0;
 let z18:=L.cmp .neq z9 0; .obl True (.obl (St.mk 67 [(1,V.c (C.int .i64 many)),(2,V.c (C.ptr 1 0)),(5,V.c (C.str z2)),(6,V.c (C.ptr 2 0)),(7,V.c
  (C.int .i64 0))] [(0,Ob.amb),(1,Ob.box 140 [C.int .u8 z1,C.int .i64 z3,C.int .i64 z5,C.int .i64 z7,C.int .i64 z9,C.int
  .i64 z10]),(2,Ob.box 201 [C.int .i64 z3,C.int .i64 z5,C.int .i64 z7,C.int .i64 z9])] 3 = St.mk 67 [(1,V.c (C.int .i64 many)),(2,
  V.c (C.ptr 1 0)),(5,V.c (C.str z2)),(6,V.c (C.ptr 2 0)),(7,V.c (C.int .i64 0))] [(0,Ob.amb),(1,Ob.box 140 [C.int .u8 z1,C.int .i64 z3,C.int
  .i64 z5,C.int .i64 z7,C.int .i64 z9,C.int .i64 z10]),(2,Ob.box 201 [C.int .i64 z3,C.int .i64 z5,C.int .i64 z7,C.int
  .i64 z9])] 3) (.obl (I z11 (0,())) (.all (Int × Unit) fun (v1:Int × Unit) =>
 let z19:=v1.1;
 let z20:=L.inR z19 4;
 let z21:=L.cmp .eql z19 0;
 let z22:=L.inR z19 z12;
 let z23:=(BxF.has F z2 (L.byte (ByteArray.mk #[65,66,67,68]) z19));
 let z24:=L.ar .add .i64 z19 1;
 let z25:=(L.ar .add .i64 z19 1,());
 let z26:=L.cmp .eql z19 1;
 let z27:=L.cmp .eql z19 2;
 let z28:=L.cmp .eql z19 3; .imp (I z11 v1) (.br (L.cmp .lss z19 4) (.obl z20 (.br z21 (.obl True (.br (BxF.within F z3 0 9) (.obl z22 (.obl z13
  (.br z23 (.ok (St.mk 67 [(1,V.c (C.int .i64 many)),(2,V.c (C.ptr 1 0)),(5,V.c (C.str z2)),(6,V.c (C.ptr 2 0)),(7,V.c (C.int .i64 z24))] [(0,Ob.amb),
  (1,Ob.box 140 [C.int .u8 z1,C.int .i64 z3,C.int .i64 z5,C.int .i64 z7,C.int .i64 z9,C.int .i64 z10]),(2,Ob.box 201 [C.int
  .i64 z3,C.int .i64 z5,C.int .i64 z7,C.int .i64 z9])] 3 = St.mk 67 [(1,V.c (C.int .i64 many)),(2,V.c (C.ptr 1 0)),(5,V.c (C.str z2)),
  (6,V.c (C.ptr 2 0)),(7,V.c (C.int .i64 z24))] [(0,Ob.amb),(1,Ob.box 140 [C.int .u8 z1,C.int .i64 z3,C.int .i64 z5,C.int .i64 z7,C.int
  .i64 z9,C.int .i64 z10]),(2,Ob.box 201 [C.int .i64 z3,C.int .i64 z5,C.int .i64 z7,C.int .i64 z9])] 3∧I z11 z25∧mu z25 < mu
  v1)) (.obl z20 (.br z21 (.br z14 (.ok ((false,()) = z15)) (.ok (St.mk 67 [(1,V.c (C.int .i64 many)),(2,V.c (C.ptr 1 0)),(5,V.c (C.str z2)),(6,V.c (C.ptr
  2 0)),(7,V.c (C.int .i64 z24))] [(0,Ob.amb),(1,Ob.box 140 [C.int .u8 z1,C.int .i64 z3,C.int .i64 z5,C.int .i64 z7,C.int .i64 z9,
  C.int .i64 z10]),(2,Ob.box 201 [C.int .i64 z3,C.int .i64 z5,C.int .i64 z7,C.int .i64 z9])] 3 = St.mk 67 [(1,V.c (C.int .i64
  many)),(2,V.c (C.ptr 1 0)),(5,V.c (C.str z2)),(6,V.c (C.ptr 2 0)),(7,V.c (C.int .i64 z24))] [(0,Ob.amb),(1,Ob.box 140 [C.int .u8 z1,C.int .i64 z3,
  C.int .i64 z5,C.int .i64 z7,C.int .i64 z9,C.int .i64 z10]),(2,Ob.box 201 [C.int .i64 z3,C.int .i64 z5,C.int .i64 z7,C.int
  .i64 z9])] 3∧I z11 z25∧mu z25 < mu v1))) (.br z26 (.br z16 (.ok ((false,()) = z15)) (.ok (St.mk 67 [(1,V.c (C.int .i64 many)),(2,V.c (C.ptr 1 0)),
  (5,V.c (C.str z2)),(6,V.c (C.ptr 2 0)),(7,V.c (C.int .i64 z24))] [(0,Ob.amb),(1,Ob.box 140 [C.int .u8 z1,C.int .i64 z3,C.int .i64 z5,C.int
  .i64 z7,C.int .i64 z9,C.int .i64 z10]),(2,Ob.box 201 [C.int .i64 z3,C.int .i64 z5,C.int .i64 z7,C.int .i64 z9])] 3 = St.mk
  67 [(1,V.c (C.int .i64 many)),(2,V.c (C.ptr 1 0)),(5,V.c (C.str z2)),(6,V.c (C.ptr 2 0)),(7,V.c (C.int .i64 z24))] [(0,Ob.amb),(1,Ob.box 140 [C.int
  .u8 z1,C.int .i64 z3,C.int .i64 z5,C.int .i64 z7,C.int .i64 z9,C.int .i64 z10]),(2,Ob.box 201 [C.int .i64 z3,C.int
  .i64 z5,C.int .i64 z7,C.int .i64 z9])] 3∧I z11 z25∧mu z25 < mu v1))) (.br z27 (.br z17 (.ok ((false,()) = z15)) (.ok (St.mk 67 [(1,V.c (C.int
  .i64 many)),(2,V.c (C.ptr 1 0)),(5,V.c (C.str z2)),(6,V.c (C.ptr 2 0)),(7,V.c (C.int .i64 z24))] [(0,Ob.amb),(1,Ob.box 140 [C.int .u8 z1,C.int
  .i64 z3,C.int .i64 z5,C.int .i64 z7,C.int .i64 z9,C.int .i64 z10]),(2,Ob.box 201 [C.int .i64 z3,C.int .i64 z5,C.int
  .i64 z7,C.int .i64 z9])] 3 = St.mk 67 [(1,V.c (C.int .i64 many)),(2,V.c (C.ptr 1 0)),(5,V.c (C.str z2)),(6,V.c (C.ptr 2 0)),(7,V.c (C.int
  .i64 z24))] [(0,Ob.amb),(1,Ob.box 140 [C.int .u8 z1,C.int .i64 z3,C.int .i64 z5,C.int .i64 z7,C.int .i64 z9,C.int .i64
  z10]),(2,Ob.box 201 [C.int .i64 z3,C.int .i64 z5,C.int .i64 z7,C.int .i64 z9])] 3∧I z11 z25∧mu z25 < mu v1))) (.br z28 (.br z18 (.ok
  ((false,()) = z15)) (.ok (St.mk 67 [(1,V.c (C.int .i64 many)),(2,V.c (C.ptr 1 0)),(5,V.c (C.str z2)),(6,V.c (C.ptr 2 0)),(7,V.c (C.int .i64 z24))] [(0,
  Ob.amb),(1,Ob.box 140 [C.int .u8 z1,C.int .i64 z3,C.int .i64 z5,C.int .i64 z7,C.int .i64 z9,C.int .i64 z10]),(2,Ob.box 201
  [C.int .i64 z3,C.int .i64 z5,C.int .i64 z7,C.int .i64 z9])] 3 = St.mk 67 [(1,V.c (C.int .i64 many)),(2,V.c (C.ptr 1 0)),(5,V.c (C.str
  z2)),(6,V.c (C.ptr 2 0)),(7,V.c (C.int .i64 z24))] [(0,Ob.amb),(1,Ob.box 140 [C.int .u8 z1,C.int .i64 z3,C.int .i64 z5,C.int .i64 z7,
  C.int .i64 z9,C.int .i64 z10]),(2,Ob.box 201 [C.int .i64 z3,C.int .i64 z5,C.int .i64 z7,C.int .i64 z9])] 3∧I z11 z25∧mu z25 <
  mu v1))) .bad)))))))) (.ok ((false,()) = z15)))) (.br z26 (.obl True (.br (BxF.within F z5 0 9) (.obl z22 (.obl z13 (.br z23 (.ok (St.mk 67 [(1,V.c (C.int
  .i64 many)),(2,V.c (C.ptr 1 0)),(5,V.c (C.str z2)),(6,V.c (C.ptr 2 0)),(7,V.c (C.int .i64 z24))] [(0,Ob.amb),(1,Ob.box 140 [C.int .u8 z1,C.int
  .i64 z3,C.int .i64 z5,C.int .i64 z7,C.int .i64 z9,C.int .i64 z10]),(2,Ob.box 201 [C.int .i64 z3,C.int .i64 z5,C.int
  .i64 z7,C.int .i64 z9])] 3 = St.mk 67 [(1,V.c (C.int .i64 many)),(2,V.c (C.ptr 1 0)),(5,V.c (C.str z2)),(6,V.c (C.ptr 2 0)),(7,V.c (C.int
  .i64 z24))] [(0,Ob.amb),(1,Ob.box 140 [C.int .u8 z1,C.int .i64 z3,C.int .i64 z5,C.int .i64 z7,C.int .i64 z9,C.int .i64
  z10]),(2,Ob.box 201 [C.int .i64 z3,C.int .i64 z5,C.int .i64 z7,C.int .i64 z9])] 3∧I z11 z25∧mu z25 < mu v1)) (.obl z20 (.br z21 (.br
  z14 (.ok ((false,()) = z15)) (.ok (St.mk 67 [(1,V.c (C.int .i64 many)),(2,V.c (C.ptr 1 0)),(5,V.c (C.str z2)),(6,V.c (C.ptr 2 0)),(7,V.c (C.int .i64
  z24))] [(0,Ob.amb),(1,Ob.box 140 [C.int .u8 z1,C.int .i64 z3,C.int .i64 z5,C.int .i64 z7,C.int .i64 z9,C.int .i64 z10]),(2,
  Ob.box 201 [C.int .i64 z3,C.int .i64 z5,C.int .i64 z7,C.int .i64 z9])] 3 = St.mk 67 [(1,V.c (C.int .i64 many)),(2,V.c (C.ptr 1 0)),(5,
  V.c (C.str z2)),(6,V.c (C.ptr 2 0)),(7,V.c (C.int .i64 z24))] [(0,Ob.amb),(1,Ob.box 140 [C.int .u8 z1,C.int .i64 z3,C.int .i64 z5,C.int
  .i64 z7,C.int .i64 z9,C.int .i64 z10]),(2,Ob.box 201 [C.int .i64 z3,C.int .i64 z5,C.int .i64 z7,C.int .i64 z9])] 3∧I z11
  z25∧mu z25 < mu v1))) (.br z26 (.br z16 (.ok ((false,()) = z15)) (.ok (St.mk 67 [(1,V.c (C.int .i64 many)),(2,V.c (C.ptr 1 0)),(5,V.c (C.str z2)),(6,V.c
  (C.ptr 2 0)),(7,V.c (C.int .i64 z24))] [(0,Ob.amb),(1,Ob.box 140 [C.int .u8 z1,C.int .i64 z3,C.int .i64 z5,C.int .i64 z7,C.int
  .i64 z9,C.int .i64 z10]),(2,Ob.box 201 [C.int .i64 z3,C.int .i64 z5,C.int .i64 z7,C.int .i64 z9])] 3 = St.mk 67 [(1,V.c (C.int
  .i64 many)),(2,V.c (C.ptr 1 0)),(5,V.c (C.str z2)),(6,V.c (C.ptr 2 0)),(7,V.c (C.int .i64 z24))] [(0,Ob.amb),(1,Ob.box 140 [C.int .u8 z1,C.int
  .i64 z3,C.int .i64 z5,C.int .i64 z7,C.int .i64 z9,C.int .i64 z10]),(2,Ob.box 201 [C.int .i64 z3,C.int .i64 z5,C.int
  .i64 z7,C.int .i64 z9])] 3∧I z11 z25∧mu z25 < mu v1))) (.br z27 (.br z17 (.ok ((false,()) = z15)) (.ok (St.mk 67 [(1,V.c (C.int .i64 many)),
  (2,V.c (C.ptr 1 0)),(5,V.c (C.str z2)),(6,V.c (C.ptr 2 0)),(7,V.c (C.int .i64 z24))] [(0,Ob.amb),(1,Ob.box 140 [C.int .u8 z1,C.int .i64 z3,C.int
  .i64 z5,C.int .i64 z7,C.int .i64 z9,C.int .i64 z10]),(2,Ob.box 201 [C.int .i64 z3,C.int .i64 z5,C.int .i64 z7,C.int
  .i64 z9])] 3 = St.mk 67 [(1,V.c (C.int .i64 many)),(2,V.c (C.ptr 1 0)),(5,V.c (C.str z2)),(6,V.c (C.ptr 2 0)),(7,V.c (C.int .i64 z24))] [(0,
  Ob.amb),(1,Ob.box 140 [C.int .u8 z1,C.int .i64 z3,C.int .i64 z5,C.int .i64 z7,C.int .i64 z9,C.int .i64 z10]),(2,Ob.box 201
  [C.int .i64 z3,C.int .i64 z5,C.int .i64 z7,C.int .i64 z9])] 3∧I z11 z25∧mu z25 < mu v1))) (.br z28 (.br z18 (.ok ((false,()) = z15))
  (.ok (St.mk 67 [(1,V.c (C.int .i64 many)),(2,V.c (C.ptr 1 0)),(5,V.c (C.str z2)),(6,V.c (C.ptr 2 0)),(7,V.c (C.int .i64 z24))] [(0,Ob.amb),(1,Ob.box
  140 [C.int .u8 z1,C.int .i64 z3,C.int .i64 z5,C.int .i64 z7,C.int .i64 z9,C.int .i64 z10]),(2,Ob.box 201 [C.int .i64 z3,
  C.int .i64 z5,C.int .i64 z7,C.int .i64 z9])] 3 = St.mk 67 [(1,V.c (C.int .i64 many)),(2,V.c (C.ptr 1 0)),(5,V.c (C.str z2)),(6,V.c (C.ptr 2
  0)),(7,V.c (C.int .i64 z24))] [(0,Ob.amb),(1,Ob.box 140 [C.int .u8 z1,C.int .i64 z3,C.int .i64 z5,C.int .i64 z7,C.int .i64 z9,
  C.int .i64 z10]),(2,Ob.box 201 [C.int .i64 z3,C.int .i64 z5,C.int .i64 z7,C.int .i64 z9])] 3∧I z11 z25∧mu z25 < mu v1)))
  .bad)))))))) (.ok ((false,()) = z15)))) (.br z27 (.obl True (.br (BxF.within F z7 0 9) (.obl z22 (.obl z13 (.br z23 (.ok (St.mk 67 [(1,V.c (C.int .i64
  many)),(2,V.c (C.ptr 1 0)),(5,V.c (C.str z2)),(6,V.c (C.ptr 2 0)),(7,V.c (C.int .i64 z24))] [(0,Ob.amb),(1,Ob.box 140 [C.int .u8 z1,C.int .i64 z3,
  C.int .i64 z5,C.int .i64 z7,C.int .i64 z9,C.int .i64 z10]),(2,Ob.box 201 [C.int .i64 z3,C.int .i64 z5,C.int .i64 z7,C.int
  .i64 z9])] 3 = St.mk 67 [(1,V.c (C.int .i64 many)),(2,V.c (C.ptr 1 0)),(5,V.c (C.str z2)),(6,V.c (C.ptr 2 0)),(7,V.c (C.int .i64 z24))] [(0,
  Ob.amb),(1,Ob.box 140 [C.int .u8 z1,C.int .i64 z3,C.int .i64 z5,C.int .i64 z7,C.int .i64 z9,C.int .i64 z10]),(2,Ob.box 201
  [C.int .i64 z3,C.int .i64 z5,C.int .i64 z7,C.int .i64 z9])] 3∧I z11 z25∧mu z25 < mu v1)) (.obl z20 (.br z21 (.br z14 (.ok ((false,())
  = z15)) (.ok (St.mk 67 [(1,V.c (C.int .i64 many)),(2,V.c (C.ptr 1 0)),(5,V.c (C.str z2)),(6,V.c (C.ptr 2 0)),(7,V.c (C.int .i64 z24))] [(0,Ob.amb),(1,
  Ob.box 140 [C.int .u8 z1,C.int .i64 z3,C.int .i64 z5,C.int .i64 z7,C.int .i64 z9,C.int .i64 z10]),(2,Ob.box 201 [C.int .i64
  z3,C.int .i64 z5,C.int .i64 z7,C.int .i64 z9])] 3 = St.mk 67 [(1,V.c (C.int .i64 many)),(2,V.c (C.ptr 1 0)),(5,V.c (C.str z2)),(6,V.c (C.ptr
  2 0)),(7,V.c (C.int .i64 z24))] [(0,Ob.amb),(1,Ob.box 140 [C.int .u8 z1,C.int .i64 z3,C.int .i64 z5,C.int .i64 z7,C.int .i64 z9,
  C.int .i64 z10]),(2,Ob.box 201 [C.int .i64 z3,C.int .i64 z5,C.int .i64 z7,C.int .i64 z9])] 3∧I z11 z25∧mu z25 < mu v1))) (.br z26
  (.br z16 (.ok ((false,()) = z15)) (.ok (St.mk 67 [(1,V.c (C.int .i64 many)),(2,V.c (C.ptr 1 0)),(5,V.c (C.str z2)),(6,V.c (C.ptr 2 0)),(7,V.c (C.int
  .i64 z24))] [(0,Ob.amb),(1,Ob.box 140 [C.int .u8 z1,C.int .i64 z3,C.int .i64 z5,C.int .i64 z7,C.int .i64 z9,C.int .i64
  z10]),(2,Ob.box 201 [C.int .i64 z3,C.int .i64 z5,C.int .i64 z7,C.int .i64 z9])] 3 = St.mk 67 [(1,V.c (C.int .i64 many)),(2,V.c (C.ptr 1
  0)),(5,V.c (C.str z2)),(6,V.c (C.ptr 2 0)),(7,V.c (C.int .i64 z24))] [(0,Ob.amb),(1,Ob.box 140 [C.int .u8 z1,C.int .i64 z3,C.int .i64 z5,
  C.int .i64 z7,C.int .i64 z9,C.int .i64 z10]),(2,Ob.box 201 [C.int .i64 z3,C.int .i64 z5,C.int .i64 z7,C.int .i64 z9])] 3 ∧
  I z11 z25∧mu z25 < mu v1))) (.br z27 (.br z17 (.ok ((false,()) = z15)) (.ok (St.mk 67 [(1,V.c (C.int .i64 many)),(2,V.c (C.ptr 1 0)),(5,V.c (C.str z2)),
  (6,V.c (C.ptr 2 0)),(7,V.c (C.int .i64 z24))] [(0,Ob.amb),(1,Ob.box 140 [C.int .u8 z1,C.int .i64 z3,C.int .i64 z5,C.int .i64 z7,C.int
  .i64 z9,C.int .i64 z10]),(2,Ob.box 201 [C.int .i64 z3,C.int .i64 z5,C.int .i64 z7,C.int .i64 z9])] 3 = St.mk 67 [(1,V.c (C.int
  .i64 many)),(2,V.c (C.ptr 1 0)),(5,V.c (C.str z2)),(6,V.c (C.ptr 2 0)),(7,V.c (C.int .i64 z24))] [(0,Ob.amb),(1,Ob.box 140 [C.int .u8 z1,C.int
  .i64 z3,C.int .i64 z5,C.int .i64 z7,C.int .i64 z9,C.int .i64 z10]),(2,Ob.box 201 [C.int .i64 z3,C.int .i64 z5,C.int
  .i64 z7,C.int .i64 z9])] 3∧I z11 z25∧mu z25 < mu v1))) (.br z28 (.br z18 (.ok ((false,()) = z15)) (.ok (St.mk 67 [(1,V.c (C.int .i64 many)),
  (2,V.c (C.ptr 1 0)),(5,V.c (C.str z2)),(6,V.c (C.ptr 2 0)),(7,V.c (C.int .i64 z24))] [(0,Ob.amb),(1,Ob.box 140 [C.int .u8 z1,C.int .i64 z3,C.int
  .i64 z5,C.int .i64 z7,C.int .i64 z9,C.int .i64 z10]),(2,Ob.box 201 [C.int .i64 z3,C.int .i64 z5,C.int .i64 z7,C.int
  .i64 z9])] 3 = St.mk 67 [(1,V.c (C.int .i64 many)),(2,V.c (C.ptr 1 0)),(5,V.c (C.str z2)),(6,V.c (C.ptr 2 0)),(7,V.c (C.int .i64 z24))] [(0,
  Ob.amb),(1,Ob.box 140 [C.int .u8 z1,C.int .i64 z3,C.int .i64 z5,C.int .i64 z7,C.int .i64 z9,C.int .i64 z10]),(2,Ob.box 201
  [C.int .i64 z3,C.int .i64 z5,C.int .i64 z7,C.int .i64 z9])] 3∧I z11 z25∧mu z25 < mu v1))) .bad)))))))) (.ok ((false,()) = z15)))) (.br
  z28 (.obl True (.br (BxF.within F z9 0 9) (.obl z22 (.obl z13 (.br z23 (.ok (St.mk 67 [(1,V.c (C.int .i64 many)),(2,V.c (C.ptr 1 0)),(5,V.c (C.str z2)),
  (6,V.c (C.ptr 2 0)),(7,V.c (C.int .i64 z24))] [(0,Ob.amb),(1,Ob.box 140 [C.int .u8 z1,C.int .i64 z3,C.int .i64 z5,C.int .i64 z7,C.int
  .i64 z9,C.int .i64 z10]),(2,Ob.box 201 [C.int .i64 z3,C.int .i64 z5,C.int .i64 z7,C.int .i64 z9])] 3 = St.mk 67 [(1,V.c (C.int
  .i64 many)),(2,V.c (C.ptr 1 0)),(5,V.c (C.str z2)),(6,V.c (C.ptr 2 0)),(7,V.c (C.int .i64 z24))] [(0,Ob.amb),(1,Ob.box 140 [C.int .u8 z1,C.int
  .i64 z3,C.int .i64 z5,C.int .i64 z7,C.int .i64 z9,C.int .i64 z10]),(2,Ob.box 201 [C.int .i64 z3,C.int .i64 z5,C.int
  .i64 z7,C.int .i64 z9])] 3∧I z11 z25∧mu z25 < mu v1)) (.obl z20 (.br z21 (.br z14 (.ok ((false,()) = z15)) (.ok (St.mk 67 [(1,V.c (C.int
  .i64 many)),(2,V.c (C.ptr 1 0)),(5,V.c (C.str z2)),(6,V.c (C.ptr 2 0)),(7,V.c (C.int .i64 z24))] [(0,Ob.amb),(1,Ob.box 140 [C.int .u8 z1,C.int
  .i64 z3,C.int .i64 z5,C.int .i64 z7,C.int .i64 z9,C.int .i64 z10]),(2,Ob.box 201 [C.int .i64 z3,C.int .i64 z5,C.int
  .i64 z7,C.int .i64 z9])] 3 = St.mk 67 [(1,V.c (C.int .i64 many)),(2,V.c (C.ptr 1 0)),(5,V.c (C.str z2)),(6,V.c (C.ptr 2 0)),(7,V.c (C.int
  .i64 z24))] [(0,Ob.amb),(1,Ob.box 140 [C.int .u8 z1,C.int .i64 z3,C.int .i64 z5,C.int .i64 z7,C.int .i64 z9,C.int .i64
  z10]),(2,Ob.box 201 [C.int .i64 z3,C.int .i64 z5,C.int .i64 z7,C.int .i64 z9])] 3∧I z11 z25∧mu z25 < mu v1))) (.br z26 (.br z16 (.ok
  ((false,()) = z15)) (.ok (St.mk 67 [(1,V.c (C.int .i64 many)),(2,V.c (C.ptr 1 0)),(5,V.c (C.str z2)),(6,V.c (C.ptr 2 0)),(7,V.c (C.int .i64 z24))] [(0,
  Ob.amb),(1,Ob.box 140 [C.int .u8 z1,C.int .i64 z3,C.int .i64 z5,C.int .i64 z7,C.int .i64 z9,C.int .i64 z10]),(2,Ob.box 201
  [C.int .i64 z3,C.int .i64 z5,C.int .i64 z7,C.int .i64 z9])] 3 = St.mk 67 [(1,V.c (C.int .i64 many)),(2,V.c (C.ptr 1 0)),(5,V.c (C.str
  z2)),(6,V.c (C.ptr 2 0)),(7,V.c (C.int .i64 z24))] [(0,Ob.amb),(1,Ob.box 140 [C.int .u8 z1,C.int .i64 z3,C.int .i64 z5,C.int .i64 z7,
  C.int .i64 z9,C.int .i64 z10]),(2,Ob.box 201 [C.int .i64 z3,C.int .i64 z5,C.int .i64 z7,C.int .i64 z9])] 3∧I z11 z25∧mu z25 <
  mu v1))) (.br z27 (.br z17 (.ok ((false,()) = z15)) (.ok (St.mk 67 [(1,V.c (C.int .i64 many)),(2,V.c (C.ptr 1 0)),(5,V.c (C.str z2)),(6,V.c (C.ptr 2 0)),
  (7,V.c (C.int .i64 z24))] [(0,Ob.amb),(1,Ob.box 140 [C.int .u8 z1,C.int .i64 z3,C.int .i64 z5,C.int .i64 z7,C.int .i64 z9,C.int
  .i64 z10]),(2,Ob.box 201 [C.int .i64 z3,C.int .i64 z5,C.int .i64 z7,C.int .i64 z9])] 3 = St.mk 67 [(1,V.c (C.int .i64 many)),(2,
  V.c (C.ptr 1 0)),(5,V.c (C.str z2)),(6,V.c (C.ptr 2 0)),(7,V.c (C.int .i64 z24))] [(0,Ob.amb),(1,Ob.box 140 [C.int .u8 z1,C.int .i64 z3,C.int
  .i64 z5,C.int .i64 z7,C.int .i64 z9,C.int .i64 z10]),(2,Ob.box 201 [C.int .i64 z3,C.int .i64 z5,C.int .i64 z7,C.int
  .i64 z9])] 3∧I z11 z25∧mu z25 < mu v1))) (.br z28 (.br z18 (.ok ((false,()) = z15)) (.ok (St.mk 67 [(1,V.c (C.int .i64 many)),(2,V.c (C.ptr 1 0)),
  (5,V.c (C.str z2)),(6,V.c (C.ptr 2 0)),(7,V.c (C.int .i64 z24))] [(0,Ob.amb),(1,Ob.box 140 [C.int .u8 z1,C.int .i64 z3,C.int .i64 z5,C.int
  .i64 z7,C.int .i64 z9,C.int .i64 z10]),(2,Ob.box 201 [C.int .i64 z3,C.int .i64 z5,C.int .i64 z7,C.int .i64 z9])] 3 = St.mk
  67 [(1,V.c (C.int .i64 many)),(2,V.c (C.ptr 1 0)),(5,V.c (C.str z2)),(6,V.c (C.ptr 2 0)),(7,V.c (C.int .i64 z24))] [(0,Ob.amb),(1,Ob.box 140 [C.int
  .u8 z1,C.int .i64 z3,C.int .i64 z5,C.int .i64 z7,C.int .i64 z9,C.int .i64 z10]),(2,Ob.box 201 [C.int .i64 z3,C.int
  .i64 z5,C.int .i64 z7,C.int .i64 z9])] 3∧I z11 z25∧mu z25 < mu v1))) .bad)))))))) (.ok ((false,()) = z15)))) .bad))))) (.br (L.scmp
  .eql z2 (ByteArray.mk #[])) (.ok ((false,()) = z15)) (.obl z13 (.br (BxF.has F z2 80) (.obl True (.br (BxF.within F z10 0 63) (.ok ((true,()) = z15)) (.ok
  ((false,()) = z15)))) (.obl z13 (.br (BxF.has F z2 74) (.obl True (.br (BxF.within F z10 0 many) (.ok ((true,()) = z15)) (.ok ((false,()) = z15)))) (.obl z13
  (.br (BxF.has F z2 78) (.obl True (.br (BxF.isNum F z10) (.ok ((true,()) = z15)) (.ok ((false,()) = z15)))) (.br (L.cmp .eql z10 0) (.ok ((true,()) =
  z15)) (.ok ((false,()) = z15))))))))))))))
theorem n64_go (L:Lv) (F:BxF) (I:ByteArray × Unit→Ds [It]→Prop) (mu:Ds [It]→Nat) (i:InD) (many:Int) (h:VC.holds (n64 L F I mu i many)):Holds (vcC L F [37,84,143,144] (D64 (a64 L I mu)) (S84 F) (i,many,())):=Holds.of_eq (by kernel_rfl) h
def bitF (f:Int) (k:Nat):Bool:=decide (arith .and .u16 f (shift .shl .u16 1 (k:Int)) ≠ 0)
def rN (f:Int) (l:List Int):Nat→Bool
 | 0=>true
 | k + 1=>rN f l k && withinF ((l[k]?).getD 0) 0 (if bitF f k then 9 else 0)
theorem w00 (r:Int):withinF r 0 0 = decide (r = 0):=by
 unfold withinF
 by_cases h:r = 0
 ·subst h; rfl
 ·rw [decide_eq_false h]
  by_cases h1:0≤r
  ·rw [decide_eq_false (by omega:¬ r≤0),Bool.and_false]
  ·rw [decide_eq_false h1,Bool.false_and]
def bitsF (f:Int):Bool × Bool × Bool × Bool × Bool × Bool × Bool:=(bitF f 0,bitF f 1,bitF f 2,bitF f 3,decide (arith .and .u16 f 16 ≠ 0),decide (arith .and .u16 f 32 ≠ 0),decide (arith .and .u16 f 64 ≠ 0))
def endB (b:Bool × Bool × Bool × Bool × Bool × Bool × Bool) (i:InD) (many:Int):Bool :=
 ((((withinF i.2.1 0 (if b.1 then 9 else 0)) && withinF i.2.2.1 0 (if b.2.1 then 9 else 0)) && withinF i.2.2.2.1 0 (if b.2.2.1 then 9 else 0)) && withinF i.2.2.2.2.1 0 (if b.2.2.2.1 then 9 else 0)) &&
 (if b.2.2.2.2.1 then isNumF i.2.2.2.2.2 else if b.2.2.2.2.2.1 then withinF i.2.2.2.2.2 0 63 else if b.2.2.2.2.2.2 then withinF i.2.2.2.2.2 0 many else decide (i.2.2.2.2.2 = 0))
theorem shape_cases (op:Int) (h:(shapeF op).2 = true):op = 1∨op = 2∨op = 3∨op = 4∨op = 5∨op = 6∨op = 7∨op = 8∨op = 9∨op = 10∨op = 11∨op = 12∨op = 13∨op = 14∨op = 15:=by
 unfold shapeF at h
 repeat' split at h
 all_goals first | omega | cases h
theorem insOk_eq (i:InD) (many:Int) (h:(shapeF i.1).2 = true):insOkF i many = endB (bitsF (shapeF i.1).1) i many:=by
 obtain ⟨op,a,b,c,d,n⟩:=i
 have h17:bitsF 17 = (true,false,false,false,true,false,false):=by decide +kernel
 have h7:bitsF 7 = (true,true,true,false,false,false,false):=by decide +kernel
 have h35:bitsF 35 = (true,true,false,false,false,true,false):=by decide +kernel
 have h47:bitsF 47 = (true,true,true,true,false,true,false):=by decide +kernel
 have h0:bitsF 0 = (false,false,false,false,false,false,false):=by decide +kernel
 have h34:bitsF 34 = (false,true,false,false,false,true,false):=by decide +kernel
 have h64:bitsF 64 = (false,false,false,false,false,false,true):=by decide +kernel
 have h65:bitsF 65 = (true,false,false,false,false,false,true):=by decide +kernel
 have h1:bitsF 1 = (true,false,false,false,false,false,false):=by decide +kernel
 simp only at h ⊢
 rcases shape_cases op h with rfl | rfl | rfl | rfl | rfl | rfl | rfl | rfl | rfl | rfl | rfl | rfl | rfl | rfl | rfl
 ·show _ = endB (bitsF 17) _ _; rw [h17]; simp [insOkF,endB,regOk,w00]
 ·show _ = endB (bitsF 7) _ _; rw [h7]; simp [insOkF,endB,regOk,w00]
 ·show _ = endB (bitsF 7) _ _; rw [h7]; simp [insOkF,endB,regOk,w00]
 ·show _ = endB (bitsF 7) _ _; rw [h7]; simp [insOkF,endB,regOk,w00]
 ·show _ = endB (bitsF 7) _ _; rw [h7]; simp [insOkF,endB,regOk,w00]
 ·show _ = endB (bitsF 7) _ _; rw [h7]; simp [insOkF,endB,regOk,w00]
 ·show _ = endB (bitsF 7) _ _; rw [h7]; simp [insOkF,endB,regOk,w00]
 ·show _ = endB (bitsF 35) _ _; rw [h35]; simp [insOkF,endB,regOk,w00]
 ·show _ = endB (bitsF 35) _ _; rw [h35]; simp [insOkF,endB,regOk,w00]
 ·show _ = endB (bitsF 47) _ _; rw [h47]; simp [insOkF,endB,regOk,w00]
 ·show _ = endB (bitsF 0) _ _; rw [h0]; simp [insOkF,endB,regOk,w00]
 ·show _ = endB (bitsF 34) _ _; rw [h34]; simp [insOkF,endB,regOk,w00]
 ·show _ = endB (bitsF 64) _ _; rw [h64]; simp [insOkF,endB,regOk,w00]
 ·show _ = endB (bitsF 65) _ _; rw [h65]; simp [insOkF,endB,regOk,w00]
 ·show _ = endB (bitsF 1) _ _; rw [h1]; simp [insOkF,endB,regOk,w00]
theorem insOk_bad (i:InD) (many:Int) (h:(shapeF i.1).2 = false):insOkF i many = false:=by
 unfold shapeF at h
 unfold insOkF
 repeat' split at h
 all_goals first | cases h | skip
 simp_all
theorem ok84 (F:BxF) (h:F.isIns = insOkF) (h1:F.within = withinF) (h2:F.isNum = isNumF) (h3:F.shape = shapeF) (k1:SpecOk prog 151 (S86 F)) (k2:SpecOk prog 152 (S92 F)) (k3:SpecOk prog 188 (S120 F)):SpecOk prog 158 (S84 F):=by
 refine Zc hm hE D84 fnok84 _ fun (z:InD × Int × Unit) hpre=>?_
 obtain ⟨i,many,⟨⟩⟩:=z
 let I:Int × List Int × Bool × Unit→Bool × Int × Unit→Prop:=fun e x=>(0≤x.2.1∧x.2.1≤4)∧x.1 = (e.2.2.1 && rN e.1 e.2.1 x.2.1.toNat)
 let mu:Bool × Int × Unit→Nat:=fun x=>(4 - x.2.1).toNat
 refine Yp _ 3 (a84 Lv.std I mu) (Zs (T:=cT F) (l:=[151,152,188]) (Za (Yh k1 (by kernel_rfl)) (Za (Yh k2 (by kernel_rfl)) (Za (Yh k3 (by kernel_rfl)) Z4)))) ?_
 refine n84_go Lv.std F I mu i many ?_
 have e1:∀ (l:List Int) (k:Int),Lv.std.get It l k.toNat = (l[k.toNat]?).getD 0:=fun _ _=>rfl
 simp only [n84,VC.holds,ZJ,Zt,Zr,ZH,e1,ZI,Z6,Zg,Yj,Z5,Zd,Ze,Zp,Zq,Zk,Zl,h,h1,h2,h3,Prod.mk.injEq,and_true,true_and]
 refine ⟨fun hs=>⟨⟨⟨Int.le_refl 0,by decide⟩,rfl⟩,?_⟩,fun hs=>?_⟩
 ·have e0:insOkF i many = (true && endB (bitsF (shapeF i.1).1) i many):=insOk_eq i many hs
  generalize hf:(shapeF i.1).1 = f at *
  rintro ⟨b,x,⟨⟩⟩ ⟨⟨i1,i2⟩,i3⟩
  simp only [Bool.true_and] at i1 i2 i3 ⊢
  obtain ⟨k,rfl⟩:=Yq i1
  rw [Int.toNat_natCast] at i3
  have l4:([i.2.1,i.2.2.1,i.2.2.2.1,i.2.2.2.2.1]:List Int).length = 4:=rfl
  refine ⟨fun hlt=>?_,fun hge=>?_⟩
  ·have ea:arith .add .i64 (k:Int) 1 = ((k + 1:Nat):Int):=wr (n:=4) (by omega) (by omega)
   have stp:∀ c:Bool,(b && withinF (([i.2.1,i.2.2.1,i.2.2.2.1,i.2.2.2.2.1][k]?).getD 0) 0 (if bitF f k then 9 else 0)) = c→I (f,[i.2.1,i.2.2.1,i.2.2.2.1,i.2.2.2.2.1],true,()) (c,((k + 1:Nat):Int),())∧mu (c,((k + 1:Nat):Int),()) < mu (b,(k:Int),()):=fun c hc=>by
    refine ⟨⟨⟨by show (0:Int)≤((k + 1:Nat):Int); omega,by show ((k + 1:Nat):Int)≤4; omega⟩,?_⟩,by show ((4:Int) - ((k + 1:Nat):Int)).toNat < ((4:Int) - (k:Int)).toNat; omega⟩
    show c = (true && rN f _ ((k + 1:Nat):Int).toNat)
    rw [Int.toNat_natCast,rN,← i3,Bool.true_and]; exact hc.symm
   rw [ea]
   refine ⟨⟨i1,hlt⟩,by rw [Int.toNat_natCast,l4]; omega,i1,fun hm=>?_,fun hm=>?_⟩
   ·have hb:bitF f k = true:=decide_eq_true hm
    rw [hb] at stp
    exact ⟨fun q1=>⟨fun q2=>stp true (by rw [q1,Bool.true_and]; exact q2),fun q2=>stp false (by rw [q1,Bool.true_and]; exact q2)⟩,fun q1=>stp false (by rw [q1,Bool.false_and])⟩
   ·have hb:bitF f k = false:=decide_eq_false (fun h=>h hm)
    rw [hb] at stp
    exact ⟨fun q1=>⟨fun q2=>stp true (by rw [q1,Bool.true_and]; exact q2),fun q2=>stp false (by rw [q1,Bool.true_and]; exact q2)⟩,fun q1=>stp false (by rw [q1,Bool.false_and])⟩
  ·have hk:k = 4:=by omega
   subst hk
   have e2:(true && endB (bitsF f) i many) = (b && (if arith .and .u16 f 16 ≠ 0 then isNumF i.2.2.2.2.2 else if arith .and .u16 f 32 ≠ 0 then withinF i.2.2.2.2.2 0 63 else if arith .and .u16 f 64 ≠ 0 then withinF i.2.2.2.2.2 0 many else decide (i.2.2.2.2.2 = 0))):=by
    rw [i3,Bool.true_and]
    simp only [endB,bitsF,decide_eq_true_eq]
    rfl
   rw [e0,e2]
   refine ⟨fun c1=>?_,fun c1=>⟨fun c2=>?_,fun c2=>⟨fun c3=>?_,fun c3=>?_⟩⟩⟩
   ·rw [if_pos c1]
    exact ⟨fun q1=>⟨fun q2=>by rw [q1,q2]; rfl,fun q2=>by rw [q1,q2]; rfl⟩,fun q1=>by rw [q1]; rfl⟩
   ·rw [if_neg (fun h=>h c1),if_pos c2]
    exact ⟨fun q1=>⟨fun q2=>by rw [q1,q2]; rfl,fun q2=>by rw [q1,q2]; rfl⟩,fun q1=>by rw [q1]; rfl⟩
   ·rw [if_neg (fun h=>h c1),if_neg (fun h=>h c2),if_pos c3]
    exact ⟨fun q1=>⟨fun q2=>by rw [q1,q2]; rfl,fun q2=>by rw [q1,q2]; rfl⟩,fun q1=>by rw [q1]; rfl⟩
   ·rw [if_neg (fun h=>h c1),if_neg (fun h=>h c2),if_neg (fun h=>h c3)]
    exact ⟨fun q1=>⟨fun q2=>by rw [q1,decide_eq_true q2]; rfl,fun q2=>by rw [q1,decide_eq_false q2]; rfl⟩,fun q1=>by rw [q1]; rfl⟩
 ·have e0:insOkF i many = (false && endB (bitsF (shapeF i.1).1) i many):=by rw [insOk_bad i many hs]; rfl
  generalize hf:(shapeF i.1).1 = f at *
  refine ⟨⟨⟨Int.le_refl 0,by decide⟩,rfl⟩,?_⟩
  rintro ⟨b,x,⟨⟩⟩ ⟨⟨i1,i2⟩,i3⟩
  simp only [Bool.false_and] at i1 i2 i3 ⊢
  obtain ⟨k,rfl⟩:=Yq i1
  have l4:([i.2.1,i.2.2.1,i.2.2.2.1,i.2.2.2.2.1]:List Int).length = 4:=rfl
  refine ⟨fun hlt=>?_,fun hge=>?_⟩
  ·have ea:arith .add .i64 (k:Int) 1 = ((k + 1:Nat):Int):=wr (n:=4) (by omega) (by omega)
   have stp:∀ c:Bool,(b && withinF (([i.2.1,i.2.2.1,i.2.2.2.1,i.2.2.2.2.1][k]?).getD 0) 0 (if bitF f k then 9 else 0)) = c→I (f,[i.2.1,i.2.2.1,i.2.2.2.1,i.2.2.2.2.1],false,()) (c,((k + 1:Nat):Int),())∧mu (c,((k + 1:Nat):Int),()) < mu (b,(k:Int),()):=fun c hc=>by
    refine ⟨⟨⟨by show (0:Int)≤((k + 1:Nat):Int); omega,by show ((k + 1:Nat):Int)≤4; omega⟩,?_⟩,by show ((4:Int) - ((k + 1:Nat):Int)).toNat < ((4:Int) - (k:Int)).toNat; omega⟩
    show c = (false && rN f _ ((k + 1:Nat):Int).toNat)
    rw [Bool.false_and,← hc,i3,Bool.false_and]
   rw [ea]
   refine ⟨⟨i1,hlt⟩,by rw [Int.toNat_natCast,l4]; omega,i1,fun hm=>?_,fun hm=>?_⟩
   ·have hb:bitF f k = true:=decide_eq_true hm
    rw [hb] at stp
    exact ⟨fun q1=>⟨fun q2=>stp true (by rw [q1,Bool.true_and]; exact q2),fun q2=>stp false (by rw [q1,Bool.true_and]; exact q2)⟩,fun q1=>stp false (by rw [q1,Bool.false_and])⟩
   ·have hb:bitF f k = false:=decide_eq_false (fun h=>h hm)
    rw [hb] at stp
    exact ⟨fun q1=>⟨fun q2=>stp true (by rw [q1,Bool.true_and]; exact q2),fun q2=>stp false (by rw [q1,Bool.true_and]; exact q2)⟩,fun q1=>stp false (by rw [q1,Bool.false_and])⟩
  ·have hk:k = 4:=by omega
   subst hk
   have e2:(false && endB (bitsF f) i many) = (b && (if arith .and .u16 f 16 ≠ 0 then isNumF i.2.2.2.2.2 else if arith .and .u16 f 32 ≠ 0 then withinF i.2.2.2.2.2 0 63 else if arith .and .u16 f 64 ≠ 0 then withinF i.2.2.2.2.2 0 many else decide (i.2.2.2.2.2 = 0))):=by
    rw [i3,Bool.false_and,Bool.false_and]
   rw [e0,e2]
   refine ⟨fun c1=>?_,fun c1=>⟨fun c2=>?_,fun c2=>⟨fun c3=>?_,fun c3=>?_⟩⟩⟩
   ·rw [if_pos c1]
    exact ⟨fun q1=>⟨fun q2=>by rw [q1,q2]; rfl,fun q2=>by rw [q1,q2]; rfl⟩,fun q1=>by rw [q1]; rfl⟩
   ·rw [if_neg (fun h=>h c1),if_pos c2]
    exact ⟨fun q1=>⟨fun q2=>by rw [q1,q2]; rfl,fun q2=>by rw [q1,q2]; rfl⟩,fun q1=>by rw [q1]; rfl⟩
   ·rw [if_neg (fun h=>h c1),if_neg (fun h=>h c2),if_pos c3]
    exact ⟨fun q1=>⟨fun q2=>by rw [q1,q2]; rfl,fun q2=>by rw [q1,q2]; rfl⟩,fun q1=>by rw [q1]; rfl⟩
   ·rw [if_neg (fun h=>h c1),if_neg (fun h=>h c2),if_neg (fun h=>h c3)]
    exact ⟨fun q1=>⟨fun q2=>by rw [q1,decide_eq_true q2]; rfl,fun q2=>by rw [q1,decide_eq_false q2]; rfl⟩,fun q1=>by rw [q1]; rfl⟩
def letB (f:ByteArray):Bool × Bool × Bool × Bool × Bool × Bool × Bool × Bool:=(hasF f 65,hasF f 66,hasF f 67,hasF f 68,decide (f = ⟨#[]⟩),hasF f 80,hasF f 74,hasF f 78)
def regR (has:Bool) (r:Int):Bool:=withinF r 0 9 && (has || decide (r = 0))
def endC (b:Bool × Bool × Bool × Bool × Bool × Bool × Bool × Bool) (i:InD) (many:Int):Bool :=
 (((regR b.1 i.2.1 && regR b.2.1 i.2.2.1) && regR b.2.2.1 i.2.2.2.1) && regR b.2.2.2.1 i.2.2.2.2.1) &&
 (if b.2.2.2.2.1 then false else if b.2.2.2.2.2.1 then withinF i.2.2.2.2.2 0 63 else if b.2.2.2.2.2.2.1 then withinF i.2.2.2.2.2 0 many else if b.2.2.2.2.2.2.2 then isNumF i.2.2.2.2.2 else decide (i.2.2.2.2.2 = 0))
theorem YY (r:Int):regR true r = withinF r 0 9:=by simp [regR]
theorem YZ (r:Int):regR false r = decide (r = 0):=by
 unfold regR withinF
 by_cases h:r = 0
 ·subst h; rfl
 ·rw [decide_eq_false h]; simp
theorem insOk_eq2 (i:InD) (many:Int):insOkF i many = endC (letB (fieldsF i.1)) i many:=by
 obtain ⟨op,a,b,c,d,n⟩:=i
 simp only
 by_cases h:(shapeF op).2 = true
 ·have h1:letB (fieldsF 1) = (true,false,false,false,false,false,false,true):=by kernel_rfl
  have h2:letB ⟨#[65,66,67]⟩ = (true,true,true,false,false,false,false,false):=by kernel_rfl
  have h8:letB ⟨#[65,66,80]⟩ = (true,true,false,false,false,true,false,false):=by kernel_rfl
  have h10:letB (fieldsF 10) = (true,true,true,true,false,true,false,false):=by kernel_rfl
  have h11:letB (fieldsF 11) = (false,false,false,false,false,false,false,false):=by kernel_rfl
  have h12:letB (fieldsF 12) = (false,true,false,false,false,true,false,false):=by kernel_rfl
  have h13:letB (fieldsF 13) = (false,false,false,false,false,false,true,false):=by kernel_rfl
  have h14:letB (fieldsF 14) = (true,false,false,false,false,false,true,false):=by kernel_rfl
  have h15:letB (fieldsF 15) = (true,false,false,false,false,false,false,false):=by kernel_rfl
  rcases shape_cases op h with rfl | rfl | rfl | rfl | rfl | rfl | rfl | rfl | rfl | rfl | rfl | rfl | rfl | rfl | rfl
  ·rw [h1]; simp [insOkF,endC,regOk,YY,YZ]
  ·show _ = endC (letB ⟨#[65,66,67]⟩) _ _; rw [h2]; simp [insOkF,endC,regOk,YY,YZ]
  ·show _ = endC (letB ⟨#[65,66,67]⟩) _ _; rw [h2]; simp [insOkF,endC,regOk,YY,YZ]
  ·show _ = endC (letB ⟨#[65,66,67]⟩) _ _; rw [h2]; simp [insOkF,endC,regOk,YY,YZ]
  ·show _ = endC (letB ⟨#[65,66,67]⟩) _ _; rw [h2]; simp [insOkF,endC,regOk,YY,YZ]
  ·show _ = endC (letB ⟨#[65,66,67]⟩) _ _; rw [h2]; simp [insOkF,endC,regOk,YY,YZ]
  ·show _ = endC (letB ⟨#[65,66,67]⟩) _ _; rw [h2]; simp [insOkF,endC,regOk,YY,YZ]
  ·show _ = endC (letB ⟨#[65,66,80]⟩) _ _; rw [h8]; simp [insOkF,endC,regOk,YY,YZ]
  ·show _ = endC (letB ⟨#[65,66,80]⟩) _ _; rw [h8]; simp [insOkF,endC,regOk,YY,YZ]
  ·rw [h10]; simp [insOkF,endC,regOk,YY,YZ]
  ·rw [h11]; simp [insOkF,endC,regOk,YY,YZ]
  ·rw [h12]; simp [insOkF,endC,regOk,YY,YZ]
  ·rw [h13]; simp [insOkF,endC,regOk,YY,YZ]
  ·rw [h14]; simp [insOkF,endC,regOk,YY,YZ]
  ·rw [h15]; simp [insOkF,endC,regOk,YY,YZ]
 ·rw [insOk_bad _ _ (by simpa using h)]
  have:fieldsF op = ByteArray.empty:=by
   unfold shapeF at h
   unfold fieldsF
   repeat' split at h
   all_goals first | (exfalso; exact h rfl) | skip
   simp_all
  rw [this,show letB ByteArray.empty = (false,false,false,false,true,false,false,false) by kernel_rfl]
  simp [endC]
theorem ok64 (F:BxF) (h:F.isIns = insOkF) (h1:F.within = withinF) (h2:F.isNum = isNumF) (h3:F.has = hasF) (h4:F.fields = fieldsF) (hp:F.pHas = fun s=>s.size≤1000000) (k1:SpecOk prog 37 (S86 F)) (k2:SpecOk prog 84 (S92 F)) (k3:SpecOk prog 143 (S77 F)) (k4:SpecOk prog 144 (S78 F)):SpecOk prog 97 (S84 F):=by
 refine Zc hm hE D64 fnok64 _ fun (z:InD × Int × Unit) hpre=>?_
 obtain ⟨i,many,⟨⟩⟩:=z
 let lr:List Int:=[i.2.1,i.2.2.1,i.2.2.2.1,i.2.2.2.2.1]
 let I:ByteArray × Unit→Int × Unit→Prop:=fun e=>Iv 4 fun k=>(0 < k→regR (letB (fieldsF i.1)).1 i.2.1 = true)∧(1 < k→regR (letB (fieldsF i.1)).2.1 i.2.2.1 = true)∧(2 < k→regR (letB (fieldsF i.1)).2.2.1 i.2.2.2.1 = true)∧(3 < k→regR (letB (fieldsF i.1)).2.2.2.1 i.2.2.2.2.1 = true)
 refine Yp _ 3 (a64 Lv.std I (Mu 4)) (Zs (T:=cT F) (l:=[37,84,143,144]) (Za (Yh k1 (by kernel_rfl)) (Za (Yh k2 (by kernel_rfl)) (Za (Yh k3 (by kernel_rfl)) (Za (Yh k4 (by kernel_rfl)) Z4))))) ?_
 refine n64_go Lv.std F I (Mu 4) i many ?_
 simp only [n64,VC.holds,ZJ,ZO,Zt,Zr,ZN,ZR,ZH,ZI,Z6,Zg,Zb,Zd,Ze,Zp,Zq,Zk,Zl,Zi,Zj,h,h1,h2,h3,h4,hp,Prod.mk.injEq,and_true,true_and]
 have bt0:byteAt ⟨#[65,66,67,68]⟩ 0 = 65:=by decide
 have bt1:byteAt ⟨#[65,66,67,68]⟩ 1 = 66:=by decide
 have bt2:byteAt ⟨#[65,66,67,68]⟩ 2 = 67:=by decide
 have bt3:byteAt ⟨#[65,66,67,68]⟩ 3 = 68:=by decide
 have fs:(fieldsF i.1).size≤1000000:=by
  unfold fieldsF
  repeat' split
  all_goals decide
 have e0:=insOk_eq2 i many
 refine ⟨Iv.zero ⟨fun h=>by omega,fun h=>by omega,fun h=>by omega,fun h=>by omega⟩,fun x hx=>?_⟩
 obtain ⟨k,rfl,hk,i1,i2,i3,i4⟩:=Iv.elim hx
 refine ⟨fun hlt=>?_,fun hge=>?_⟩
 ·have no0:regR (letB (fieldsF i.1)).1 i.2.1 = false→false = insOkF i many:=fun e=>by rw [e0,endC,e]; simp
  have no1:regR (letB (fieldsF i.1)).2.1 i.2.2.1 = false→false = insOkF i many:=fun e=>by rw [e0,endC,e]; simp
  have no2:regR (letB (fieldsF i.1)).2.2.1 i.2.2.2.1 = false→false = insOkF i many:=fun e=>by rw [e0,endC,e]; simp
  have no3:regR (letB (fieldsF i.1)).2.2.2.1 i.2.2.2.2.1 = false→false = insOkF i many:=fun e=>by rw [e0,endC,e]; simp
  have rt:∀ b r,withinF r 0 9 = true→b = true→regR b r = true:=fun b r h1 h2=>by rw [regR,h1,h2]; rfl
  have rz:∀ b r,withinF r 0 9 = true→r = 0→regR b r = true:=fun b r h1 h2=>by rw [regR,h1,h2]; simp
  have rn:∀ b r,withinF r 0 9 = false→regR b r = false:=fun b r h1=>by rw [regR,h1]; rfl
  have rm:∀ b r,b = false→r ≠ 0→regR b r = false:=fun b r h1 h2=>by rw [regR,h1,decide_eq_false h2]; simp
  have l0:(letB (fieldsF i.1)).1 = hasF (fieldsF i.1) 65:=rfl
  have l1:(letB (fieldsF i.1)).2.1 = hasF (fieldsF i.1) 66:=rfl
  have l2:(letB (fieldsF i.1)).2.2.1 = hasF (fieldsF i.1) 67:=rfl
  have l3:(letB (fieldsF i.1)).2.2.2.1 = hasF (fieldsF i.1) 68:=rfl
  have ea:IntKind.i64.wrap ((k:Int) + 1) = ((k + 1:Nat):Int):=wr (n:=4) (by omega) (by omega)
  rw [ea]
  have ml:=Mu.lt (n:=4) (k:=k) (by omega)
  have q0:((0:Nat):Int) = 0:=rfl
  have q1:((1:Nat):Int) = 1:=rfl
  have q2:((2:Nat):Int) = 2:=rfl
  have q3:((3:Nat):Int) = 3:=rfl
  have sz:((⟨#[65,66,67,68]⟩:ByteArray).size:Int) = 4:=rfl
  obtain rfl | rfl | rfl | rfl:k = 0∨k = 1∨k = 2∨k = 3:=by omega
  ·rw [q0,bt0,sz]
   have st:regR (letB (fieldsF i.1)).1 i.2.1 = true→I (fieldsF i.1,()) (((0 + 1:Nat):Int),()):=fun e=>Iv.mk (by omega) ⟨fun _=>e,fun h=>by omega,fun h=>by omega,fun h=>by omega⟩
   refine ⟨by decide,fun _=>⟨fun w1=>⟨by decide,fs,fun h1=>⟨st (rt _ _ w1 h1),ml⟩,fun h1=>⟨by decide,fun _=>⟨fun z=>no0 (rm _ _ h1 z),fun z=>⟨st (rz _ _ w1 z),ml⟩⟩,fun h=>absurd rfl h⟩⟩,fun w1=>no0 (rn _ _ w1)⟩,fun h=>absurd rfl h⟩
  ·rw [q1,bt1,sz]
   have st:regR (letB (fieldsF i.1)).2.1 i.2.2.1 = true→I (fieldsF i.1,()) (((1 + 1:Nat):Int),()):=fun e=>Iv.mk (by omega) ⟨fun _=>i1 (by omega),fun _=>e,fun h=>by omega,fun h=>by omega⟩
   refine ⟨by decide,fun h=>absurd h (by decide),fun _=>⟨fun _=>⟨fun w1=>⟨by decide,fs,fun h1=>⟨st (rt _ _ w1 h1),ml⟩,fun h1=>⟨by decide,fun h=>absurd h (by decide),fun _=>⟨fun _=>⟨fun z=>no1 (rm _ _ h1 z),fun z=>⟨st (rz _ _ w1 z),ml⟩⟩,fun h=>absurd rfl h⟩⟩⟩,fun w1=>no1 (rn _ _ w1)⟩,fun h=>absurd rfl h⟩⟩
  ·rw [q2,bt2,sz]
   have st:regR (letB (fieldsF i.1)).2.2.1 i.2.2.2.1 = true→I (fieldsF i.1,()) (((2 + 1:Nat):Int),()):=fun e=>Iv.mk (by omega) ⟨fun _=>i1 (by omega),fun _=>i2 (by omega),fun _=>e,fun h=>by omega⟩
   refine ⟨by decide,fun h=>absurd h (by decide),fun _=>⟨fun h=>absurd h (by decide),fun _=>⟨fun _=>⟨fun w1=>⟨by decide,fs,fun h1=>⟨st (rt _ _ w1 h1),ml⟩,fun h1=>⟨by decide,fun h=>absurd h (by decide),fun _=>⟨fun h=>absurd h (by decide),fun _=>⟨fun _=>⟨fun z=>no2 (rm _ _ h1 z),fun z=>⟨st (rz _ _ w1 z),ml⟩⟩,fun h=>absurd rfl h⟩⟩⟩⟩,fun w1=>no2 (rn _ _ w1)⟩,fun h=>absurd rfl h⟩⟩⟩
  ·rw [q3,bt3,sz]
   have st:regR (letB (fieldsF i.1)).2.2.2.1 i.2.2.2.2.1 = true→I (fieldsF i.1,()) (((3 + 1:Nat):Int),()):=fun e=>Iv.mk (by omega) ⟨fun _=>i1 (by omega),fun _=>i2 (by omega),fun _=>i3 (by omega),fun _=>e⟩
   refine ⟨by decide,fun h=>absurd h (by decide),fun _=>⟨fun h=>absurd h (by decide),fun _=>⟨fun h=>absurd h (by decide),fun _=>⟨fun _=>⟨fun w1=>⟨by decide,fs,fun h1=>⟨st (rt _ _ w1 h1),ml⟩,fun h1=>⟨by decide,fun h=>absurd h (by decide),fun _=>⟨fun h=>absurd h (by decide),fun _=>⟨fun h=>absurd h (by decide),fun _=>⟨fun _=>⟨fun z=>no3 (rm _ _ h1 z),fun z=>⟨st (rz _ _ w1 z),ml⟩⟩,fun h=>absurd rfl h⟩⟩⟩⟩⟩,fun w1=>no3 (rn _ _ w1)⟩,fun h=>absurd rfl h⟩⟩⟩⟩
 ·have e1:insOkF i many = (if fieldsF i.1 = ⟨#[]⟩ then false else if hasF (fieldsF i.1) 80 then withinF i.2.2.2.2.2 0 63 else if hasF (fieldsF i.1) 74 then withinF i.2.2.2.2.2 0 many else if hasF (fieldsF i.1) 78 then isNumF i.2.2.2.2.2 else decide (i.2.2.2.2.2 = 0)):=by
   rw [e0,endC,i1 (by omega),i2 (by omega),i3 (by omega),i4 (by omega)]
   simp only [letB,decide_eq_true_eq,Bool.and_self,Bool.true_and]
   by_cases hc:fieldsF i.1 = ⟨#[]⟩
   ·rw [if_pos hc,if_pos hc]
   ·rw [if_neg hc,if_neg hc]; rfl
  rw [e1]
  refine ⟨fun c1=>by rw [if_pos c1],fun c1=>⟨fs,fun c2=>?_,fun c2=>⟨fs,fun c3=>?_,fun c3=>⟨fs,fun c4=>?_,fun c4=>?_⟩⟩⟩⟩
  ·rw [if_neg c1,if_pos c2]; exact ⟨fun h=>h.symm,fun h=>h.symm⟩
  ·rw [if_neg c1,if_neg (by rw [c2]; simp),if_pos c3]; exact ⟨fun h=>h.symm,fun h=>h.symm⟩
  ·rw [if_neg c1,if_neg (by rw [c2]; simp),if_neg (by rw [c3]; simp),if_pos c4]; exact ⟨fun h=>h.symm,fun h=>h.symm⟩
  ·rw [if_neg c1,if_neg (by rw [c2]; simp),if_neg (by rw [c3]; simp),if_neg (by rw [c4]; simp)]; exact ⟨fun h=>(decide_eq_true h).symm,fun h=>(decide_eq_false h).symm⟩
end Go.Proofs.Tryz
