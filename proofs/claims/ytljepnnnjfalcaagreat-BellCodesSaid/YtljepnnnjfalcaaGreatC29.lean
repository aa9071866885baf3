/- What functions of the weak memory compute, proved through the condition generator, and plain facts of it. Conditions: none of ours. -/
import Derived.Test.YtljepnnnjfalcaaGreatC27
set_option autoImplicit false
set_option maxRecDepth 100000
set_option linter.all false
namespace Go.Proofs.Tryz
open Go Go.VM
def aJ1 (L:Lv) (I:List Int × Unit→Ds [It]→Prop) (mu:List Int × Unit→Ds [It]→Nat):Nat→LAnn
 | 0=>anB L [0,1,7,8] [] [.h (.s 0 (.sl It))] [.s 8 It] I mu
 | _=>.no
def aJ2 (L:Lv) (I:Int × List (List Int) × Unit→Ds [It]→Prop) (mu:Int × List (List Int) × Unit→Ds [It]→Nat):Nat→LAnn
 | 0=>anB L [0,1,7,8] [] [.fb 1,.h (.s 0 (.sl (.sl It)))] [.s 8 It] I mu
 | _=>.no
noncomputable def ob22 (L:Lv) (I1:List Int × Unit→Ds [It]→Prop) (mu1:List Int × Unit→Ds [It]→Nat) (I2:Int × List (List Int) × Unit→Ds [It]→Prop) (mu2:Int × List (List Int) × Unit→Ds [It]→Nat):List (Nat × FT) :=
 [(78,.inl (Db78 a0)),(79,.inl (Db79 a0)),(81,.inl (Db81 a0)),(82,.inl (Db82 a0)),(125,.inl (Db125 a0)),(138,.inl (Db138 a0)),(139,.inl (Db139 a0)),(140,.inl (Db140 a0)),(180,.inl (Db180 (aJ1 L I1 mu1))),(181,.inl (Db181 (aJ2 L I2 mu2)))]
def nb22 (L:Lv) (F:BxF) (M:BeF) (I1:List Int × Unit→Ds [It]→Prop) (mu1:List Int × Unit→Ds [It]→Nat) (I2:Int × List (List Int) × Unit→Ds [It]→Prop) (mu2:Int × List (List Int) × Unit→Ds [It]→Nat) (b:BlD)  : VC :=
 let z1:=b.2.2;
 let z2:=z1.2;
 let z3:=z2.1;
 let z4:=L.llen It z3;
 let z5:=L.cast z4;
 let z6:=z2.2;
 let z7:=L.llen (Ty.sl It) z6;
 let z8:=L.cast z7;
 let z9:=L.ar .add .i64 z5 z8;
 let z10:=b.1;
 let z11:=b.2.1;
 let z12:=z1.1;
 let z13:=Int × Unit;
 let z14:=L.cmp .lss z11 1;
 let z15:=L.cmp .gtr z11 8;
 let z16:=BxF.isNum F z10;
 let z17:=(Prod.fst z2,());
 let z18:=L.cmp .eql z9 0;
 let z19:=L.cmp .geq (Int.negSucc 0) 0; .br (L.cmp .gtr z9 4) (.ok ((5,()) = (BeF.chk M b,()))) (.obl (St.mk 19 [(0,V.c (C.sl (Ty.sl It) z6)),(1,V.c
  (C.fn 139 [2])),(7,V.c (C.int .i64 z8)),(8,V.c (C.int .i64 0))] [(0,Ob.amb),(1,Ob.box 28 [C.int .i64 z10,C.int .i64 z11,C.sym z12,C.sl It
  z3,C.sl (Ty.sl It) z6]),(2,Ob.box 128 [C.fn 79 []])] 3 = St.mk 19 [(0,V.c (C.sl (Ty.sl It) z6)),(1,V.c (C.fn 139 [2])),(7,V.c (C.int .i64 z8)),(8,V.c (C.int
  .i64 0))] [(0,Ob.amb),(1,Ob.box 28 [C.int .i64 z10,C.int .i64 z11,C.sym z12,C.sl It z3,C.sl (Ty.sl It) z6]),(2,Ob.box 128 [C.fn 79 []])] 3) (.obl
  (I2 (79,z2.2,()) (0,())) (.all z13 fun (v1:Int × Unit) =>
 let z20:=v1.1;
 let z21:=L.ar .add .i64 z20 1;
 let z22:=(L.ar .add .i64 z20 1,()); .imp (I2 (79,z2.2,()) v1) (.br (L.cmp .lss z20 z8) (.obl (L.inR z20 z7) (.br (L.cmp .leq
  (L.cast (L.llen It (L.get (Ty.sl It) z6 (L.toN z20)))) 4) (.ok (St.mk 19 [(0,V.c (C.sl (Ty.sl It) z6)),(1,V.c (C.fn 139 [2])),(7,V.c (C.int .i64 z8)),
  (8,V.c (C.int .i64 z21))] [(0,Ob.amb),(1,Ob.box 28 [C.int .i64 z10,C.int .i64 z11,C.sym z12,C.sl It z3,C.sl (Ty.sl It) z6]),(2,Ob.box 128 [C.fn 79
  []])] 3 = St.mk 19 [(0,V.c (C.sl (Ty.sl It) z6)),(1,V.c (C.fn 139 [2])),(7,V.c (C.int .i64 z8)),(8,V.c (C.int .i64 z21))] [(0,Ob.amb),(1,Ob.box 28 [C.int
  .i64 z10,C.int .i64 z11,C.sym z12,C.sl It z3,C.sl (Ty.sl It) z6]),(2,Ob.box 128 [C.fn 79 []])] 3∧I2 (79,z2.2,()) z22∧mu2 (79,z2.2,())
  z22 < mu2 (79,z2.2,()) v1)) (.br (L.cmp .geq z20 0) (.ok ((5,()) = (BeF.chk M b,()))) (.br z14 (.ok ((3,()) = (BeF.chk M b,()))) (.br z15 (.ok
  ((3,()) = (BeF.chk M b,()))) (.obl True (.br z16 (.obl (St.mk 19 [(0,V.c (C.sl It z3)),(1,V.c (C.fn 140 [3])),(7,V.c (C.int .i64 z5)),(8,V.c (C.int
  .i64 0))] [(0,Ob.amb),(1,Ob.box 28 [C.int .i64 z10,C.int .i64 z11,C.sym z12,C.sl It z3,C.sl (Ty.sl It) z6]),(2,Ob.box 128 [C.fn 79 []]),(3,Ob.box
  129 [C.fn 80 []])] 4 = St.mk 19 [(0,V.c (C.sl It z3)),(1,V.c (C.fn 140 [3])),(7,V.c (C.int .i64 z5)),(8,V.c (C.int .i64 0))] [(0,Ob.amb),(1,Ob.box 28
  [C.int .i64 z10,C.int .i64 z11,C.sym z12,C.sl It z3,C.sl (Ty.sl It) z6]),(2,Ob.box 128 [C.fn 79 []]),(3,Ob.box 129 [C.fn 80 []])] 4) (.obl (I1 z17 (0,
  ())) (.all z13 fun (v2:Int × Unit) =>
 let z23:=v2.1;
 let z24:=L.ar .add .i64 z23 1;
 let z25:=(L.ar .add .i64 z23 1,()); .imp (I1 z17 v2) (.br (L.cmp .lss z23 z5) (.obl (L.inR z23 z4) (.obl True (.br (BxF.isNum F (L.get It
  z3 (L.toN z23))) (.ok (St.mk 19 [(0,V.c (C.sl It z3)),(1,V.c (C.fn 140 [3])),(7,V.c (C.int .i64 z5)),(8,V.c (C.int .i64 z24))] [(0,Ob.amb),(1,Ob.box
  28 [C.int .i64 z10,C.int .i64 z11,C.sym z12,C.sl It z3,C.sl (Ty.sl It) z6]),(2,Ob.box 128 [C.fn 79 []]),(3,Ob.box 129 [C.fn 80 []])] 4 = St.mk 19 [(0,V.c
  (C.sl It z3)),(1,V.c (C.fn 140 [3])),(7,V.c (C.int .i64 z5)),(8,V.c (C.int .i64 z24))] [(0,Ob.amb),(1,Ob.box 28 [C.int .i64 z10,C.int .i64
  z11,C.sym z12,C.sl It z3,C.sl (Ty.sl It) z6]),(2,Ob.box 128 [C.fn 79 []]),(3,Ob.box 129 [C.fn 80 []])] 4∧I1 z17 z25∧mu1 z17 z25 < mu1 z17 v2)) (.br (L.cmp
  .geq z23 0) (.ok ((3,()) = (BeF.chk M b,()))) (.obl (St.mk 19 [(0,V.c (C.sl (Ty.sl It) z6)),(1,V.c (C.fn 139 [4])),(7,V.c (C.int .i64 z8)),(8,V.c (C.int
  .i64 0))] [(0,Ob.amb),(1,Ob.box 28 [C.int .i64 z10,C.int .i64 z11,C.sym z12,C.sl It z3,C.sl (Ty.sl It) z6]),(2,Ob.box 128 [C.fn 79 []]),(3,Ob.box
  129 [C.fn 80 []]),(4,Ob.box 128 [C.fn 82 []])] 5 = St.mk 19 [(0,V.c (C.sl (Ty.sl It) z6)),(1,V.c (C.fn 139 [4])),(7,V.c (C.int .i64 z8)),(8,V.c (C.int .i64
  0))] [(0,Ob.amb),(1,Ob.box 28 [C.int .i64 z10,C.int .i64 z11,C.sym z12,C.sl It z3,C.sl (Ty.sl It) z6]),(2,Ob.box 128 [C.fn 79 []]),(3,Ob.box 129 [C.fn 80
  []]),(4,Ob.box 128 [C.fn 82 []])] 5) (.obl (I2 (82,z2.2,()) (0,())) (.all z13 fun (v3:Int × Unit) =>
 let z26:=v3.1;
 let z27:=L.toN z26;
 let z28:=L.get (Ty.sl It) z6 z27;
 let z29:=L.llen It z28;
 let z30:=L.cast z29;
 let z31:=(L.get (Ty.sl It) z6 z27,());
 let z32:=L.cmp .geq z26 0;
 let z33:=L.ar .add .i64 z26 1;
 let z34:=(L.ar .add .i64 z26 1,()); .imp (I2 (82,z2.2,()) v3) (.br (L.cmp .lss z26 z8) (.obl (L.inR z26 z7) (.obl (St.mk 19 [(0,V.c
  (C.sl It z28)),(1,V.c (C.fn 140 [5])),(7,V.c (C.int .i64 z30)),(8,V.c (C.int .i64 0))] [(0,Ob.amb),(1,Ob.box 28 [C.int .i64 z10,C.int .i64
  z11,C.sym z12,C.sl It z3,C.sl (Ty.sl It) z6]),(2,Ob.box 128 [C.fn 79 []]),(3,Ob.box 129 [C.fn 80 []]),(4,Ob.box 128 [C.fn 82 []]),(5,Ob.box 129 [C.fn 80 []])] 6 =
  St.mk 19 [(0,V.c (C.sl It z28)),(1,V.c (C.fn 140 [5])),(7,V.c (C.int .i64 z30)),(8,V.c (C.int .i64 0))] [(0,Ob.amb),(1,Ob.box 28 [C.int .i64 z10,
  C.int .i64 z11,C.sym z12,C.sl It z3,C.sl (Ty.sl It) z6]),(2,Ob.box 128 [C.fn 79 []]),(3,Ob.box 129 [C.fn 80 []]),(4,Ob.box 128 [C.fn 82 []]),(5,Ob.box 129 [C.fn
  80 []])] 6) (.obl (I1 z31 (0,())) (.all z13 fun (v4:Int × Unit) =>
 let z35:=v4.1;
 let z36:=L.ar .add .i64 z35 1;
 let z37:=(L.ar .add .i64 z35 1,()); .imp (I1 z31 v4) (.br (L.cmp .lss z35 z30) (.obl (L.inR z35 z29) (.obl True (.br (BxF.isNum F (L.get
  It z28 (L.toN z35))) (.ok (St.mk 19 [(0,V.c (C.sl It z28)),(1,V.c (C.fn 140 [5])),(7,V.c (C.int .i64 z30)),(8,V.c (C.int .i64 z36))] [(0,Ob.amb),(1,
  Ob.box 28 [C.int .i64 z10,C.int .i64 z11,C.sym z12,C.sl It z3,C.sl (Ty.sl It) z6]),(2,Ob.box 128 [C.fn 79 []]),(3,Ob.box 129 [C.fn 80 []]),(4,Ob.box 128
  [C.fn 82 []]),(5,Ob.box 129 [C.fn 80 []])] 6 = St.mk 19 [(0,V.c (C.sl It z28)),(1,V.c (C.fn 140 [5])),(7,V.c (C.int .i64 z30)),(8,V.c (C.int .i64 z36))]
  [(0,Ob.amb),(1,Ob.box 28 [C.int .i64 z10,C.int .i64 z11,C.sym z12,C.sl It z3,C.sl (Ty.sl It) z6]),(2,Ob.box 128 [C.fn 79 []]),(3,Ob.box 129 [C.fn 80
  []]),(4,Ob.box 128 [C.fn 82 []]),(5,Ob.box 129 [C.fn 80 []])] 6∧I1 z31 z37∧mu1 z31 z37 < mu1 z31 v4)) (.br (L.cmp .geq z35 0) (.br z32 (.ok ((3,()) =
  (BeF.chk M b,()))) (.br z18 (.ok ((4,()) = (BeF.chk M b,()))) (.ok ((0,()) = (BeF.chk M b,()))))) (.ok (St.mk 19 [(0,V.c (C.sl (Ty.sl It) z6)),(1,V.c (C.fn 139
  [4])),(7,V.c (C.int .i64 z8)),(8,V.c (C.int .i64 z33))] [(0,Ob.amb),(1,Ob.box 28 [C.int .i64 z10,C.int .i64 z11,C.sym z12,C.sl It z3,C.sl
  (Ty.sl It) z6]),(2,Ob.box 128 [C.fn 79 []]),(3,Ob.box 129 [C.fn 80 []]),(4,Ob.box 128 [C.fn 82 []])] 5 = St.mk 19 [(0,V.c (C.sl (Ty.sl It) z6)),(1,V.c (C.fn 139 [4])),
  (7,V.c (C.int .i64 z8)),(8,V.c (C.int .i64 z33))] [(0,Ob.amb),(1,Ob.box 28 [C.int .i64 z10,C.int .i64 z11,C.sym z12,C.sl It z3,C.sl (Ty.sl
  It) z6]),(2,Ob.box 128 [C.fn 79 []]),(3,Ob.box 129 [C.fn 80 []]),(4,Ob.box 128 [C.fn 82 []])] 5∧I2 (82,z2.2,()) z34∧mu2 (82,z2.2,()) z34 < mu2 (82,
  Prod.snd z2,()) v3)))))) (.br z19 (.br z32 (.ok ((3,()) = (BeF.chk M b,()))) (.br z18 (.ok ((4,()) = (BeF.chk M b,()))) (.ok ((0,()) = (BeF.chk M b,())))))
  (.ok (St.mk 19 [(0,V.c (C.sl (Ty.sl It) z6)),(1,V.c (C.fn 139 [4])),(7,V.c (C.int .i64 z8)),(8,V.c (C.int .i64 z33))] [(0,Ob.amb),(1,Ob.box 28 [C.int
  .i64 z10,C.int .i64 z11,C.sym z12,C.sl It z3,C.sl (Ty.sl It) z6]),(2,Ob.box 128 [C.fn 79 []]),(3,Ob.box 129 [C.fn 80 []]),(4,Ob.box 128 [C.fn 82 []])] 5 =
  St.mk 19 [(0,V.c (C.sl (Ty.sl It) z6)),(1,V.c (C.fn 139 [4])),(7,V.c (C.int .i64 z8)),(8,V.c (C.int .i64 z33))] [(0,Ob.amb),(1,Ob.box 28 [C.int
  .i64 z10,C.int .i64 z11,C.sym z12,C.sl It z3,C.sl (Ty.sl It) z6]),(2,Ob.box 128 [C.fn 79 []]),(3,Ob.box 129 [C.fn 80 []]),(4,Ob.box 128 [C.fn 82 []])] 5 ∧
  I2 (82,z2.2,()) z34∧mu2 (82,z2.2,()) z34 < mu2 (82,z2.2,()) v3)))))))) (.br z19 (.ok ((3,()) = (BeF.chk M b,()))) (.br z18 (.ok ((4,()) =
  (BeF.chk M b,()))) (.ok ((0,()) = (BeF.chk M b,()))))))))))))) (.br z19 (.ok ((3,()) = (BeF.chk M b,()))) (.obl (St.mk 19 [(0,V.c (C.sl (Ty.sl It) z6)),(1,V.c
  (C.fn 139 [4])),(7,V.c (C.int .i64 z8)),(8,V.c (C.int .i64 0))] [(0,Ob.amb),(1,Ob.box 28 [C.int .i64 z10,C.int .i64 z11,C.sym z12,C.sl It
  z3,C.sl (Ty.sl It) z6]),(2,Ob.box 128 [C.fn 79 []]),(3,Ob.box 129 [C.fn 80 []]),(4,Ob.box 128 [C.fn 82 []])] 5 = St.mk 19 [(0,V.c (C.sl (Ty.sl It) z6)),(1,V.c (C.fn 139
  [4])),(7,V.c (C.int .i64 z8)),(8,V.c (C.int .i64 0))] [(0,Ob.amb),(1,Ob.box 28 [C.int .i64 z10,C.int .i64 z11,C.sym z12,C.sl It z3,C.sl
  (Ty.sl It) z6]),(2,Ob.box 128 [C.fn 79 []]),(3,Ob.box 129 [C.fn 80 []]),(4,Ob.box 128 [C.fn 82 []])] 5) (.obl (I2 (82,z2.2,()) (0,())) (.all z13 fun (v5:Int
  × Unit) =>
 let z38:=v5.1;
 let z39:=L.toN z38;
 let z40:=L.get (Ty.sl It) z6 z39;
 let z41:=L.llen It z40;
 let z42:=L.cast z41;
 let z43:=(L.get (Ty.sl It) z6 z39,());
 let z44:=L.cmp .geq z38 0;
 let z45:=L.ar .add .i64 z38 1;
 let z46:=(L.ar .add .i64 z38 1,()); .imp (I2 (82,z2.2,()) v5) (.br (L.cmp .lss z38 z8) (.obl (L.inR z38 z7) (.obl (St.mk 19 [(0,V.c
  (C.sl It z40)),(1,V.c (C.fn 140 [5])),(7,V.c (C.int .i64 z42)),(8,V.c (C.int .i64 0))] [(0,Ob.amb),(1,Ob.box 28 [C.int .i64 z10,C.int .i64
  z11,C.sym z12,C.sl It z3,C.sl (Ty.sl It) z6]),(2,Ob.box 128 [C.fn 79 []]),(3,Ob.box 129 [C.fn 80 []]),(4,Ob.box 128 [C.fn 82 []]),(5,Ob.box 129 [C.fn 80 []])] 6 =
  St.mk 19 [(0,V.c (C.sl It z40)),(1,V.c (C.fn 140 [5])),(7,V.c (C.int .i64 z42)),(8,V.c (C.int .i64 0))] [(0,Ob.amb),(1,Ob.box 28 [C.int .i64 z10,
  C.int .i64 z11,C.sym z12,C.sl It z3,C.sl (Ty.sl It) z6]),(2,Ob.box 128 [C.fn 79 []]),(3,Ob.box 129 [C.fn 80 []]),(4,Ob.box 128 [C.fn 82 []]),(5,Ob.box 129 [C.fn
  80 []])] 6) (.obl (I1 z43 (0,())) (.all z13 fun (v6:Int × Unit) =>
 let z47:=v6.1;
 let z48:=L.ar .add .i64 z47 1;
 let z49:=(L.ar .add .i64 z47 1,()); .imp (I1 z43 v6) (.br (L.cmp .lss z47 z42) (.obl (L.inR z47 z41) (.obl True (.br (BxF.isNum F (L.get
  It z40 (L.toN z47))) (.ok (St.mk 19 [(0,V.c (C.sl It z40)),(1,V.c (C.fn 140 [5])),(7,V.c (C.int .i64 z42)),(8,V.c (C.int .i64 z48))] [(0,Ob.amb),(1,
  Ob.box 28 [C.int .i64 z10,C.int .i64 z11,C.sym z12,C.sl It z3,C.sl (Ty.sl It) z6]),(2,Ob.box 128 [C.fn 79 []]),(3,Ob.box 129 [C.fn 80 []]),(4,Ob.box 128
  [C.fn 82 []]),(5,Ob.box 129 [C.fn 80 []])] 6 = St.mk 19 [(0,V.c (C.sl It z40)),(1,V.c (C.fn 140 [5])),(7,V.c (C.int .i64 z42)),(8,V.c (C.int .i64 z48))]
  [(0,Ob.amb),(1,Ob.box 28 [C.int .i64 z10,C.int .i64 z11,C.sym z12,C.sl It z3,C.sl (Ty.sl It) z6]),(2,Ob.box 128 [C.fn 79 []]),(3,Ob.box 129 [C.fn 80
  []]),(4,Ob.box 128 [C.fn 82 []]),(5,Ob.box 129 [C.fn 80 []])] 6∧I1 z43 z49∧mu1 z43 z49 < mu1 z43 v6)) (.br (L.cmp .geq z47 0) (.br z44 (.ok ((3,()) =
  (BeF.chk M b,()))) (.br z18 (.ok ((4,()) = (BeF.chk M b,()))) (.ok ((0,()) = (BeF.chk M b,()))))) (.ok (St.mk 19 [(0,V.c (C.sl (Ty.sl It) z6)),(1,V.c (C.fn 139
  [4])),(7,V.c (C.int .i64 z8)),(8,V.c (C.int .i64 z45))] [(0,Ob.amb),(1,Ob.box 28 [C.int .i64 z10,C.int .i64 z11,C.sym z12,C.sl It z3,C.sl
  (Ty.sl It) z6]),(2,Ob.box 128 [C.fn 79 []]),(3,Ob.box 129 [C.fn 80 []]),(4,Ob.box 128 [C.fn 82 []])] 5 = St.mk 19 [(0,V.c (C.sl (Ty.sl It) z6)),(1,V.c (C.fn 139 [4])),
  (7,V.c (C.int .i64 z8)),(8,V.c (C.int .i64 z45))] [(0,Ob.amb),(1,Ob.box 28 [C.int .i64 z10,C.int .i64 z11,C.sym z12,C.sl It z3,C.sl (Ty.sl
  It) z6]),(2,Ob.box 128 [C.fn 79 []]),(3,Ob.box 129 [C.fn 80 []]),(4,Ob.box 128 [C.fn 82 []])] 5∧I2 (82,z2.2,()) z46∧mu2 (82,z2.2,()) z46 < mu2 (82,
  Prod.snd z2,()) v5)))))) (.br z19 (.br z44 (.ok ((3,()) = (BeF.chk M b,()))) (.br z18 (.ok ((4,()) = (BeF.chk M b,()))) (.ok ((0,()) = (BeF.chk M b,())))))
  (.ok (St.mk 19 [(0,V.c (C.sl (Ty.sl It) z6)),(1,V.c (C.fn 139 [4])),(7,V.c (C.int .i64 z8)),(8,V.c (C.int .i64 z45))] [(0,Ob.amb),(1,Ob.box 28 [C.int
  .i64 z10,C.int .i64 z11,C.sym z12,C.sl It z3,C.sl (Ty.sl It) z6]),(2,Ob.box 128 [C.fn 79 []]),(3,Ob.box 129 [C.fn 80 []]),(4,Ob.box 128 [C.fn 82 []])] 5 =
  St.mk 19 [(0,V.c (C.sl (Ty.sl It) z6)),(1,V.c (C.fn 139 [4])),(7,V.c (C.int .i64 z8)),(8,V.c (C.int .i64 z45))] [(0,Ob.amb),(1,Ob.box 28 [C.int
  .i64 z10,C.int .i64 z11,C.sym z12,C.sl It z3,C.sl (Ty.sl It) z6]),(2,Ob.box 128 [C.fn 79 []]),(3,Ob.box 129 [C.fn 80 []]),(4,Ob.box 128 [C.fn 82 []])] 5 ∧
  I2 (82,z2.2,()) z46∧mu2 (82,z2.2,()) z46 < mu2 (82,z2.2,()) v5)))))))) (.br z19 (.ok ((3,()) = (BeF.chk M b,()))) (.br z18 (.ok ((4,()) =
  (BeF.chk M b,()))) (.ok ((0,()) = (BeF.chk M b,())))))))))))))) (.ok ((3,()) = (BeF.chk M b,())))))))))) (.br z19 (.ok ((5,()) = (BeF.chk M b,()))) (.br z14
  (.ok ((3,()) = (BeF.chk M b,()))) (.br z15 (.ok ((3,()) = (BeF.chk M b,()))) (.obl True (.br z16 (.obl (St.mk 19 [(0,V.c (C.sl It z3)),(1,V.c (C.fn 140 [3])),
  (7,V.c (C.int .i64 z5)),(8,V.c (C.int .i64 0))] [(0,Ob.amb),(1,Ob.box 28 [C.int .i64 z10,C.int .i64 z11,C.sym z12,C.sl It z3,C.sl (Ty.sl It)
  z6]),(2,Ob.box 128 [C.fn 79 []]),(3,Ob.box 129 [C.fn 80 []])] 4 = St.mk 19 [(0,V.c (C.sl It z3)),(1,V.c (C.fn 140 [3])),(7,V.c (C.int .i64 z5)),(8,V.c (C.int
  .i64 0))] [(0,Ob.amb),(1,Ob.box 28 [C.int .i64 z10,C.int .i64 z11,C.sym z12,C.sl It z3,C.sl (Ty.sl It) z6]),(2,Ob.box 128 [C.fn 79 []]),(3,Ob.box
  129 [C.fn 80 []])] 4) (.obl (I1 z17 (0,())) (.all z13 fun (v7:Int × Unit) =>
 let z50:=v7.1;
 let z51:=L.ar .add .i64 z50 1;
 let z52:=(L.ar .add .i64 z50 1,()); .imp (I1 z17 v7) (.br (L.cmp .lss z50 z5) (.obl (L.inR z50 z4) (.obl True (.br (BxF.isNum F (L.get It
  z3 (L.toN z50))) (.ok (St.mk 19 [(0,V.c (C.sl It z3)),(1,V.c (C.fn 140 [3])),(7,V.c (C.int .i64 z5)),(8,V.c (C.int .i64 z51))] [(0,Ob.amb),(1,Ob.box
  28 [C.int .i64 z10,C.int .i64 z11,C.sym z12,C.sl It z3,C.sl (Ty.sl It) z6]),(2,Ob.box 128 [C.fn 79 []]),(3,Ob.box 129 [C.fn 80 []])] 4 = St.mk 19 [(0,V.c
  (C.sl It z3)),(1,V.c (C.fn 140 [3])),(7,V.c (C.int .i64 z5)),(8,V.c (C.int .i64 z51))] [(0,Ob.amb),(1,Ob.box 28 [C.int .i64 z10,C.int .i64
  z11,C.sym z12,C.sl It z3,C.sl (Ty.sl It) z6]),(2,Ob.box 128 [C.fn 79 []]),(3,Ob.box 129 [C.fn 80 []])] 4∧I1 z17 z52∧mu1 z17 z52 < mu1 z17 v7)) (.br (L.cmp
  .geq z50 0) (.ok ((3,()) = (BeF.chk M b,()))) (.obl (St.mk 19 [(0,V.c (C.sl (Ty.sl It) z6)),(1,V.c (C.fn 139 [4])),(7,V.c (C.int .i64 z8)),(8,V.c (C.int
  .i64 0))] [(0,Ob.amb),(1,Ob.box 28 [C.int .i64 z10,C.int .i64 z11,C.sym z12,C.sl It z3,C.sl (Ty.sl It) z6]),(2,Ob.box 128 [C.fn 79 []]),(3,Ob.box
  129 [C.fn 80 []]),(4,Ob.box 128 [C.fn 82 []])] 5 = St.mk 19 [(0,V.c (C.sl (Ty.sl It) z6)),(1,V.c (C.fn 139 [4])),(7,V.c (C.int .i64 z8)),(8,V.c (C.int .i64
  0))] [(0,Ob.amb),(1,Ob.box 28 [C.int .i64 z10,C.int .i64 z11,C.sym z12,C.sl It z3,C.sl (Ty.sl It) z6]),(2,Ob.box 128 [C.fn 79 []]),(3,Ob.box 129 [C.fn 80
  []]),(4,Ob.box 128 [C.fn 82 []])] 5) (.obl (I2 (82,z2.2,()) (0,())) (.all z13 fun (v8:Int × Unit) =>
 let z53:=v8.1;
 let z54:=L.toN z53;
 let z55:=L.get (Ty.sl It) z6 z54;
 let z56:=L.llen It z55;
 let z57:=L.cast z56;
 let z58:=(L.get (Ty.sl It) z6 z54,());
 let z59:=L.cmp .geq z53 0;
 let z60:=L.ar .add .i64 z53 1;
 let z61:=(L.ar .add .i64 z53 1,()); .imp (I2 (82,z2.2,()) v8) (.br (L.cmp .lss z53 z8) (.obl (L.inR z53 z7) (.obl (St.mk 19 [(0,V.c
  (C.sl It z55)),(1,V.c (C.fn 140 [5])),(7,V.c (C.int .i64 z57)),(8,V.c (C.int .i64 0))] [(0,Ob.amb),(1,Ob.box 28 [C.int .i64 z10,C.int .i64
  z11,C.sym z12,C.sl It z3,C.sl (Ty.sl It) z6]),(2,Ob.box 128 [C.fn 79 []]),(3,Ob.box 129 [C.fn 80 []]),(4,Ob.box 128 [C.fn 82 []]),(5,Ob.box 129 [C.fn 80 []])] 6 =
  St.mk 19 [(0,V.c (C.sl It z55)),(1,V.c (C.fn 140 [5])),(7,V.c (C.int .i64 z57)),(8,V.c (C.int .i64 0))] [(0,Ob.amb),(1,Ob.box 28 [C.int .i64 z10,
  C.int .i64 z11,C.sym z12,C.sl It z3,C.sl (Ty.sl It) z6]),(2,Ob.box 128 [C.fn 79 []]),(3,Ob.box 129 [C.fn 80 []]),(4,Ob.box 128 [C.fn 82 []]),(5,Ob.box 129 [C.fn
  80 []])] 6) (.obl (I1 z58 (0,())) (.all z13 fun (v9:Int × Unit) =>
 let z62:=v9.1;
 let z63:=L.ar .add .i64 z62 1;
 let z64:=(L.ar .add .i64 z62 1,()); .imp (I1 z58 v9) (.br (L.cmp .lss z62 z57) (.obl (L.inR z62 z56) (.obl True (.br (BxF.isNum F (L.get
  It z55 (L.toN z62))) (.ok (St.mk 19 [(0,V.c (C.sl It z55)),(1,V.c (C.fn 140 [5])),(7,V.c (C.int .i64 z57)),(8,V.c (C.int .i64 z63))] [(0,Ob.amb),(1,
  Ob.box 28 [C.int .i64 z10,C.int .i64 z11,C.sym z12,C.sl It z3,C.sl (Ty.sl It) z6]),(2,Ob.box 128 [C.fn 79 []]),(3,Ob.box 129 [C.fn 80 []]),(4,Ob.box 128
  [C.fn 82 []]),(5,Ob.box 129 [C.fn 80 []])] 6 = St.mk 19 [(0,V.c (C.sl It z55)),(1,V.c (C.fn 140 [5])),(7,V.c (C.int .i64 z57)),(8,V.c (C.int .i64 z63))]
  [(0,Ob.amb),(1,Ob.box 28 [C.int .i64 z10,C.int .i64 z11,C.sym z12,C.sl It z3,C.sl (Ty.sl It) z6]),(2,Ob.box 128 [C.fn 79 []]),(3,Ob.box 129 [C.fn 80
  []]),(4,Ob.box 128 [C.fn 82 []]),(5,Ob.box 129 [C.fn 80 []])] 6∧I1 z58 z64∧mu1 z58 z64 < mu1 z58 v9)) (.br (L.cmp .geq z62 0) (.br z59 (.ok ((3,()) =
  (BeF.chk M b,()))) (.br z18 (.ok ((4,()) = (BeF.chk M b,()))) (.ok ((0,()) = (BeF.chk M b,()))))) (.ok (St.mk 19 [(0,V.c (C.sl (Ty.sl It) z6)),(1,V.c (C.fn 139
  [4])),(7,V.c (C.int .i64 z8)),(8,V.c (C.int .i64 z60))] [(0,Ob.amb),(1,Ob.box 28 [C.int .i64 z10,C.int .i64 z11,C.sym z12,C.sl It z3,C.sl
  (Ty.sl It) z6]),(2,Ob.box 128 [C.fn 79 []]),(3,Ob.box 129 [C.fn 80 []]),(4,Ob.box 128 [C.fn 82 []])] 5 = St.mk 19 [(0,V.c (C.sl (Ty.sl It) z6)),(1,V.c (C.fn 139 [4])),
  (7,V.c (C.int .i64 z8)),(8,V.c (C.int .i64 z60))] [(0,Ob.amb),(1,Ob.box 28 [C.int .i64 z10,C.int .i64 z11,C.sym z12,C.sl It z3,C.sl (Ty.sl
  It) z6]),(2,Ob.box 128 [C.fn 79 []]),(3,Ob.box 129 [C.fn 80 []]),(4,Ob.box 128 [C.fn 82 []])] 5∧I2 (82,z2.2,()) z61∧mu2 (82,z2.2,()) z61 < mu2 (82,
  Prod.snd z2,()) v8)))))) (.br z19 (.br z59 (.ok ((3,()) = (BeF.chk M b,()))) (.br z18 (.ok ((4,()) = (BeF.chk M b,()))) (.ok ((0,()) = (BeF.chk M b,())))))
  (.ok (St.mk 19 [(0,V.c (C.sl (Ty.sl It) z6)),(1,V.c (C.fn 139 [4])),(7,V.c (C.int .i64 z8)),(8,V.c (C.int .i64 z60))] [(0,Ob.amb),(1,Ob.box 28 [C.int
  .i64 z10,C.int .i64 z11,C.sym z12,C.sl It z3,C.sl (Ty.sl It) z6]),(2,Ob.box 128 [C.fn 79 []]),(3,Ob.box 129 [C.fn 80 []]),(4,Ob.box 128 [C.fn 82 []])] 5 =
  St.mk 19 [(0,V.c (C.sl (Ty.sl It) z6)),(1,V.c (C.fn 139 [4])),(7,V.c (C.int .i64 z8)),(8,V.c (C.int .i64 z60))] [(0,Ob.amb),(1,Ob.box 28 [C.int
  .i64 z10,C.int .i64 z11,C.sym z12,C.sl It z3,C.sl (Ty.sl It) z6]),(2,Ob.box 128 [C.fn 79 []]),(3,Ob.box 129 [C.fn 80 []]),(4,Ob.box 128 [C.fn 82 []])] 5 ∧
  I2 (82,z2.2,()) z61∧mu2 (82,z2.2,()) z61 < mu2 (82,z2.2,()) v8)))))))) (.br z19 (.ok ((3,()) = (BeF.chk M b,()))) (.br z18 (.ok ((4,()) =
  (BeF.chk M b,()))) (.ok ((0,()) = (BeF.chk M b,()))))))))))))) (.br z19 (.ok ((3,()) = (BeF.chk M b,()))) (.obl (St.mk 19 [(0,V.c (C.sl (Ty.sl It) z6)),(1,V.c
  (C.fn 139 [4])),(7,V.c (C.int .i64 z8)),(8,V.c (C.int .i64 0))] [(0,Ob.amb),(1,Ob.box 28 [C.int .i64 z10,C.int .i64 z11,C.sym z12,C.sl It
  z3,C.sl (Ty.sl It) z6]),(2,Ob.box 128 [C.fn 79 []]),(3,Ob.box 129 [C.fn 80 []]),(4,Ob.box 128 [C.fn 82 []])] 5 = St.mk 19 [(0,V.c (C.sl (Ty.sl It) z6)),(1,V.c (C.fn 139
  [4])),(7,V.c (C.int .i64 z8)),(8,V.c (C.int .i64 0))] [(0,Ob.amb),(1,Ob.box 28 [C.int .i64 z10,C.int .i64 z11,C.sym z12,C.sl It z3,C.sl
  (Ty.sl It) z6]),(2,Ob.box 128 [C.fn 79 []]),(3,Ob.box 129 [C.fn 80 []]),(4,Ob.box 128 [C.fn 82 []])] 5) (.obl (I2 (82,z2.2,()) (0,())) (.all z13 fun (v10 :
  Int × Unit) =>
 let z65:=v10.1;
 let z66:=L.toN z65;
 let z67:=L.get (Ty.sl It) z6 z66;
 let z68:=L.llen It z67;
 let z69:=L.cast z68;
 let z70:=(L.get (Ty.sl It) z6 z66,());
 let z71:=L.cmp .geq z65 0;
 let z72:=L.ar .add .i64 z65 1;
 let z73:=(L.ar .add .i64 z65 1,()); .imp (I2 (82,z2.2,()) v10) (.br (L.cmp .lss z65 z8) (.obl (L.inR z65 z7) (.obl (St.mk 19 [(0,V.c
  (C.sl It z67)),(1,V.c (C.fn 140 [5])),(7,V.c (C.int .i64 z69)),(8,V.c (C.int .i64 0))] [(0,Ob.amb),(1,Ob.box 28 [C.int .i64 z10,C.int .i64
  z11,C.sym z12,C.sl It z3,C.sl (Ty.sl It) z6]),(2,Ob.box 128 [C.fn 79 []]),(3,Ob.box 129 [C.fn 80 []]),(4,Ob.box 128 [C.fn 82 []]),(5,Ob.box 129 [C.fn 80 []])] 6 =
  St.mk 19 [(0,V.c (C.sl It z67)),(1,V.c (C.fn 140 [5])),(7,V.c (C.int .i64 z69)),(8,V.c (C.int .i64 0))] [(0,Ob.amb),(1,Ob.box 28 [C.int .i64 z10,
  C.int .i64 z11,C.sym z12,C.sl It z3,C.sl (Ty.sl It) z6]),(2,Ob.box 128 [C.fn 79 []]),(3,Ob.box 129 [C.fn 80 []]),(4,Ob.box 128 [C.fn 82 []]),(5,Ob.box 129 [C.fn
  80 []])] 6) (.obl (I1 z70 (0,())) (.all z13 fun (v11:Int × Unit) =>
 let z74:=v11.1;
 let z75:=L.ar .add .i64 z74 1;
 let z76:=(L.ar .add .i64 z74 1,()); .imp (I1 z70 v11) (.br (L.cmp .lss z74 z69) (.obl (L.inR z74 z68) (.obl True (.br (BxF.isNum F (L.get
  It z67 (L.toN z74))) (.ok (St.mk 19 [(0,V.c (C.sl It z67)),(1,V.c (C.fn 140 [5])),(7,V.c (C.int .i64 z69)),(8,V.c (C.int .i64 z75))] [(0,Ob.amb),(1,
  Ob.box 28 [C.int .i64 z10,C.int .i64 z11,C.sym z12,C.sl It z3,C.sl (Ty.sl It) z6]),(2,Ob.box 128 [C.fn 79 []]),(3,Ob.box 129 [C.fn 80 []]),(4,Ob.box 128
  [C.fn 82 []]),(5,Ob.box 129 [C.fn 80 []])] 6 = St.mk 19 [(0,V.c (C.sl It z67)),(1,V.c (C.fn 140 [5])),(7,V.c (C.int .i64 z69)),(8,V.c (C.int .i64 z75))]
  [(0,Ob.amb),(1,Ob.box 28 [C.int .i64 z10,C.int .i64 z11,C.sym z12,C.sl It z3,C.sl (Ty.sl It) z6]),(2,Ob.box 128 [C.fn 79 []]),(3,Ob.box 129 [C.fn 80
  []]),(4,Ob.box 128 [C.fn 82 []]),(5,Ob.box 129 [C.fn 80 []])] 6∧I1 z70 z76∧mu1 z70 z76 < mu1 z70 v11)) (.br (L.cmp .geq z74 0) (.br z71 (.ok ((3,()) =
  (BeF.chk M b,()))) (.br z18 (.ok ((4,()) = (BeF.chk M b,()))) (.ok ((0,()) = (BeF.chk M b,()))))) (.ok (St.mk 19 [(0,V.c (C.sl (Ty.sl It) z6)),(1,V.c (C.fn 139
  [4])),(7,V.c (C.int .i64 z8)),(8,V.c (C.int .i64 z72))] [(0,Ob.amb),(1,Ob.box 28 [C.int .i64 z10,C.int .i64 z11,C.sym z12,C.sl It z3,C.sl
  (Ty.sl It) z6]),(2,Ob.box 128 [C.fn 79 []]),(3,Ob.box 129 [C.fn 80 []]),(4,Ob.box 128 [C.fn 82 []])] 5 = St.mk 19 [(0,V.c (C.sl (Ty.sl It) z6)),(1,V.c (C.fn 139 [4])),
  (7,V.c (C.int .i64 z8)),(8,V.c (C.int .i64 z72))] [(0,Ob.amb),(1,Ob.box 28 [C.int .i64 z10,C.int .i64 z11,C.sym z12,C.sl It z3,C.sl (Ty.sl
  It) z6]),(2,Ob.box 128 [C.fn 79 []]),(3,Ob.box 129 [C.fn 80 []]),(4,Ob.box 128 [C.fn 82 []])] 5∧I2 (82,z2.2,()) z73∧mu2 (82,z2.2,()) z73 < mu2 (82,
  Prod.snd z2,()) v10)))))) (.br z19 (.br z71 (.ok ((3,()) = (BeF.chk M b,()))) (.br z18 (.ok ((4,()) = (BeF.chk M b,()))) (.ok ((0,()) = (BeF.chk M b,())))))
  (.ok (St.mk 19 [(0,V.c (C.sl (Ty.sl It) z6)),(1,V.c (C.fn 139 [4])),(7,V.c (C.int .i64 z8)),(8,V.c (C.int .i64 z72))] [(0,Ob.amb),(1,Ob.box 28 [C.int
  .i64 z10,C.int .i64 z11,C.sym z12,C.sl It z3,C.sl (Ty.sl It) z6]),(2,Ob.box 128 [C.fn 79 []]),(3,Ob.box 129 [C.fn 80 []]),(4,Ob.box 128 [C.fn 82 []])] 5 =
  St.mk 19 [(0,V.c (C.sl (Ty.sl It) z6)),(1,V.c (C.fn 139 [4])),(7,V.c (C.int .i64 z8)),(8,V.c (C.int .i64 z72))] [(0,Ob.amb),(1,Ob.box 28 [C.int
  .i64 z10,C.int .i64 z11,C.sym z12,C.sl It z3,C.sl (Ty.sl It) z6]),(2,Ob.box 128 [C.fn 79 []]),(3,Ob.box 129 [C.fn 80 []]),(4,Ob.box 128 [C.fn 82 []])] 5 ∧
  I2 (82,z2.2,()) z73∧mu2 (82,z2.2,()) z73 < mu2 (82,z2.2,()) v10)))))))) (.br z19 (.ok ((3,()) = (BeF.chk M b,()))) (.br z18 (.ok ((4,()) =
  (BeF.chk M b,()))) (.ok ((0,()) = (BeF.chk M b,())))))))))))))) (.ok ((3,()) = (BeF.chk M b,()))))))))))))
theorem nb22_go (L:Lv) (F:BxF) (M:BeF) (I1:List Int × Unit→Ds [It]→Prop) (mu1:List Int × Unit→Ds [It]→Nat) (I2:Int × List (List Int) × Unit→Ds [It]→Prop) (mu2:Int × List (List Int) × Unit→Ds [It]→Nat) (b:BlD) (h:VC.holds (nb22 L F M I1 mu1 I2 mu2 b)):Holds (vcE L F M (ob22 L I1 mu1 I2 mu2) [78,79,80,81,82,125,138,139,140,180,181] 12 (Db22 a0) (Sb22 M) (b,())):=Holds.of_eq (by kernel_rfl) h
theorem okb22 (F:BxF) (M:BeF) (h:M.chk = chkB) (q:M.bB = bBF) (h1:F.isNum = isNumF) (k1:SpecOk prog 80 (S92 F)):SpecOk prog 22 (Sb22 M):=by
 refine Zc hm hE Db22 fnokb22 _ fun (z:BlD × Unit) hpre=>?_
 obtain ⟨b,⟨⟩⟩:=z
 have hpre':M.bB b:=hpre
 rw [q] at hpre'
 obtain ⟨g1,g2,g3⟩:=hpre'
 let I1:List Int × Unit→Int × Unit→Prop:=fun e=>Iv e.1.length fun k=>(e.1.drop k).all isNumF = e.1.all isNumF
 let mu1:List Int × Unit→Int × Unit→Nat:=fun e=>Mu e.1.length
 let I2:Int × List (List Int) × Unit→Int × Unit→Prop:=fun e=>Iv e.2.1.length fun k=>if e.1 = 79 then (e.2.1.drop k).all le4 = e.2.1.all le4 else (e.2.1.drop k).all allN = e.2.1.all allN
 let mu2:Int × List (List Int) × Unit→Int × Unit→Nat:=fun e=>Mu e.2.1.length
 refine Yp _ 12 a0 (Zs (T:=tabO (ob22 Lv.std I1 mu1 I2 mu2) (eT F M)) (l:=[78,79,80,81,82,125,138,139,140,180,181])
  (Za (Yy (fnokb78 a0) (by kernel_rfl)) (Za (Yy (fnokb79 a0) (by kernel_rfl)) (Za (Yh k1 (by kernel_rfl)) (Za (Yy (fnokb81 a0) (by kernel_rfl)) (Za (Yy (fnokb82 a0) (by kernel_rfl)) (Za (Yy (fnokb125 a0) (by kernel_rfl)) (Za (Yy (fnokb138 a0) (by kernel_rfl)) (Za (Yy (fnokb139 a0) (by kernel_rfl)) (Za (Yy (fnokb140 a0) (by kernel_rfl)) (Za (Yy (fnokb180 (aJ1 Lv.std I1 mu1)) (by kernel_rfl)) (Za (Yy (fnokb181 (aJ2 Lv.std I2 mu2)) (by kernel_rfl)) Z4)))))))))))) ?_
 refine nb22_go Lv.std F M I1 mu1 I2 mu2 b ?_
 have eI:∀ (l:List (List Int)) (k:Int),Lv.std.get (.sl It) l k.toNat = (l[k.toNat]?).getD []:=fun _ _=>rfl
 have eJ:∀ (l:List Int) (k:Int),Lv.std.get It l k.toNat = (l[k.toNat]?).getD 0:=fun _ _=>rfl
 have neg1:(Int.negSucc 0:Int) = -1:=rfl
 simp only [nb22,VC.holds,ZJ,Zt,Zr,ZH,eI,eJ,ZI,Zb,Zd,Ze,ZA,ZB,Zu,Zv,Zx,Zy,Zk,Zl,neg1,h,h1,Prod.mk.injEq,and_true,true_and]
 have wl:IntKind.i64.wrap ((b.2.2.2.1.length:Int) + b.2.2.2.2.length) = (b.2.2.2.1.length:Int) + b.2.2.2.2.length:=Yn (by omega) (by omega)
 rw [wl]
 refine ⟨fun c=>(cb5a c).symm,fun c=>⟨Iv.zero (by simp),fun x hx=>?_⟩⟩
 have n1:¬ 4 < (b.2.2.2.1.length:Int) + b.2.2.2.2.length:=by omega
 obtain ⟨k,rfl,hk,i3⟩:=Iv.elim hx
 have hk:k≤b.2.2.2.2.length:=hk
 simp only [if_true,Int.toNat_natCast] at i3 ⊢
 refine ⟨fun hlt=>⟨⟨by omega,hlt⟩,fun hl=>?_,fun hl=>⟨fun _=>?_,fun hc=>by omega⟩⟩,fun hge=>⟨fun hc=>by omega,fun _=>?_⟩⟩
 ·rw [YF le4 _ k [] (by omega),show le4 ((b.2.2.2.2[k]?).getD []) = true from decide_eq_true hl,Bool.true_and] at i3
  rw [wr hlt (by omega)]
  exact ⟨Iv.mk (by show k + 1≤b.2.2.2.2.length; omega) (by rw [if_pos rfl]; exact i3),Mu.lt (by show k < b.2.2.2.2.length; omega)⟩
 ·rw [YF le4 _ k [] (by omega),show le4 ((b.2.2.2.2[k]?).getD []) = false from decide_eq_false (by omega),Bool.false_and] at i3
  exact (cb5b n1 i3.symm).symm
 rw [show k = b.2.2.2.2.length by omega,List.drop_length] at i3
 have n2:b.2.2.2.2.all le4 = true:=i3.symm
 clear i3 hx
 refine ⟨fun r1=>(cb3a n1 n2 (.inl r1)).symm,fun r1=>⟨fun r2=>(cb3a n1 n2 (.inr (.inl r2))).symm,fun r2=>⟨fun r3=>⟨Iv.zero rfl,fun x hx=>?_⟩,fun r3=>(cb3a n1 n2 (.inr (.inr (.inl r3)))).symm⟩⟩⟩
 obtain ⟨j,rfl,hj,j3⟩:=Iv.elim hx
 have hj:j≤b.2.2.2.1.length:=hj
 simp only [Int.toNat_natCast] at j3 hj ⊢
 refine ⟨fun hlt=>⟨⟨by omega,hlt⟩,fun hl=>?_,fun hl=>⟨fun _=>?_,fun hc=>by omega⟩⟩,fun hge=>⟨fun hc=>by omega,fun _=>?_⟩⟩
 ·rw [YF isNumF _ j 0 (by omega),hl,Bool.true_and] at j3
  rw [wr hlt (by omega)]
  exact ⟨Iv.mk (by show j + 1≤b.2.2.2.1.length; omega) j3,Mu.lt (by show j < b.2.2.2.1.length; omega)⟩
 ·rw [YF isNumF _ j 0 (by omega),hl,Bool.false_and] at j3
  exact (cb3a n1 n2 (.inr (.inr (.inr j3.symm)))).symm
 rw [show j = b.2.2.2.1.length by omega,List.drop_length] at j3
 have n3:b.2.2.2.1.all isNumF = true:=j3.symm
 clear j3 hx
 have n4:¬ (b.2.1 < 1∨8 < b.2.1∨isNumF b.1 = false∨b.2.2.2.1.all isNumF = false):=by rw [r3,n3]; simp; omega
 refine ⟨Iv.zero (by rw [if_neg (show ¬ ((82:Int) = 79) by decide)]; rfl),fun x hx=>?_⟩
 obtain ⟨m,rfl,hm',m3⟩:=Iv.elim hx
 have hm':m≤b.2.2.2.2.length:=hm'
 rw [if_neg (show ¬ ((82:Int) = 79) by decide)] at m3
 simp only [Int.toNat_natCast] at m3 ⊢
 refine ⟨fun hlt=>⟨⟨by omega,hlt⟩,Iv.zero rfl,fun y hy=>?_⟩,fun hge=>⟨fun hc=>by omega,fun _=>?_⟩⟩
 ·have hmr:m < b.2.2.2.2.length:=by omega
  have hr:((b.2.2.2.2[m]?).getD []).length≤1000:=by rw [List.getElem?_eq_getElem hmr]; exact g3 _ (List.getElem_mem hmr)
  have nxt:allN ((b.2.2.2.2[m]?).getD []) = true→I2 (82,b.2.2.2.2,()) (IntKind.i64.wrap ((m:Int) + 1),())∧mu2 (82,b.2.2.2.2,()) (IntKind.i64.wrap ((m:Int) + 1),()) < mu2 (82,b.2.2.2.2,()) ((m:Int),()):=fun ha=>by
   rw [YF allN _ m [] hmr,ha,Bool.true_and] at m3
   rw [wr hlt (by omega)]
   exact ⟨Iv.mk (by show m + 1≤b.2.2.2.2.length; omega) (by rw [if_neg (show ¬ ((82:Int) = 79) by decide)]; exact m3),Mu.lt (by show m < b.2.2.2.2.length; omega)⟩
  obtain ⟨n,rfl,hn,q3⟩:=Iv.elim hy
  have hn:n≤((b.2.2.2.2[m]?).getD []).length:=hn
  simp only [Int.toNat_natCast] at q3 ⊢
  refine ⟨fun hlt2=>⟨⟨by omega,hlt2⟩,fun hi=>?_,fun hi=>⟨fun _=>⟨fun _=>?_,fun hc=>by omega⟩,fun hc=>by omega⟩⟩,fun hge2=>⟨fun hc=>by omega,fun _=>?_⟩⟩
  ·rw [YF isNumF _ n 0 (by omega),hi,Bool.true_and] at q3
   rw [wr hlt2 (by omega)]
   exact ⟨Iv.mk (by show n + 1≤((b.2.2.2.2[m]?).getD []).length; omega) q3,Mu.lt (by show n < ((b.2.2.2.2[m]?).getD []).length; omega)⟩
  ·rw [YF isNumF _ n 0 (by omega),hi,Bool.false_and] at q3
   rw [YF allN _ m [] hmr,show allN ((b.2.2.2.2[m]?).getD []) = false from q3.symm,Bool.false_and] at m3
   exact (cb3b n1 n2 n4 m3.symm).symm
  ·rw [show n = ((b.2.2.2.2[m]?).getD []).length by omega,List.drop_length] at q3
   exact nxt q3.symm
 ·rw [show m = b.2.2.2.2.length by omega,List.drop_length] at m3
  exact ⟨fun hz=>(cb4 n1 n2 n4 m3.symm hz).symm,fun hz=>(cb0 n1 n2 n4 m3.symm hz).symm⟩
end Go.Proofs.Tryz
