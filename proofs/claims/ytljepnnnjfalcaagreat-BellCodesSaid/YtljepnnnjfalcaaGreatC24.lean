/- What functions of the weak memory compute, proved through the condition generator, and plain facts of it. Conditions: none of ours. -/
import Derived.Test.YtljepnnnjfalcaaGreatC16
import Derived.Test.YtljepnnnjfalcaaGreatC11
import Derived.Test.YtljepnnnjfalcaaGreatC12
import Derived.Test.YtljepnnnjfalcaaGreatC14
import Derived.Test.YtljepnnnjfalcaaGreatC15
import Derived.Test.YtljepnnnjfalcaaGreatC13
import Derived.Test.YtljepnnnjfalcaaGreatC17
import Derived.Test.YtljepnnnjfalcaaGreatC18
import Derived.Test.YtljepnnnjfalcaaGreatC19
import Derived.Test.YtljepnnnjfalcaaGreatC22
import Derived.Test.YtljepnnnjfalcaaGreatC23
import Derived.Shelf.Spec.SlicesGrow
import Derived.Shelf.SlGeneric
import Derived.Ground.Names8Prog
import Derived.Test.YtljepnnnjfalcaaGreatProg
set_option autoImplicit false
set_option maxRecDepth 100000
set_option linter.all false
namespace Go.Proofs.Tryz
open Go Go.VM
def a51 (L:Lv) (I:Ds [.sl It,.sl Th,It]→Prop) (mu:Ds [.sl It,.sl Th,It]→Nat):Nat→LAnn
 | 0=>anH L [1,4,8,9,10] [] [.b 9 0 (.sl It),.b 9 1 (.sl Th),.s 10 It] I mu
 | _=>.no
def aIw (L:Lv) (I:Int × List Int × Unit→Ds [It]→Prop) (mu:Int × List Int × Unit→Ds [It]→Nat):Nat→LAnn
 | 0=>anE L [0,1,7,8] [] [.fn 1,.h (.s 0 (.sl It))] [.s 8 It] I mu
 | _=>.no
noncomputable def o51 (L:Lv) (I:Int × List Int × Unit→Ds [It]→Prop) (mu:Int × List Int × Unit→Ds [It]→Nat):List (Nat × FT):=[(125,.inl (D96 a0)),(126,.inl (D97 a0)),(180,.inl (D125 (aIw L I mu)))]
def n51 (L:Lv) (F:BxF) (I0:Ds [.sl It,.sl Th,It]→Prop) (mu0:Ds [.sl It,.sl Th,It]→Nat) (I:Int × List Int × Unit→Ds [It]→Prop) (mu:Int × List Int × Unit→Ds [It]→Nat) (p:WkD) (l:List Int)  : VC :=
 let z1:=p.2;
 let z2:=(Prod.fst p,z1.1,z1.2);
 let z3:=BxF.check F z2;
 let z4:=L.llen It l;
 let z5:=L.cast z4;
 let z6:=p.1;
 let z7:=z1.1;
 let z8:=z1.2;
 let z9:=L.cmp .neq 3 0;
 let z10:=Prod.snd (BxF.runE F p l);
 let z11:=(Prod.fst (BxF.runE F p l),z10.1,z10.2,());
 let z12:=BxF.pFirst F z2;
 let z13:=BxF.first F z2;
 let z14:=z13.1;
 let z15:=z13.2;
 let z16:=(Prod.fst z13,z13.2,0,());
 let z17:=Int × List Int × List (Int × Int) × List Int × Bool;
 let z18:=List Int × List z17 × Int × Unit;
 let z19:=L.toN 0;
 let z20:=L.cmp .neq z3 0; .obl (BxF.bw F z2) (.br (L.cmp .eql z3 0) (.obl (St.mk 19 [(0,V.c (C.sl It l)),(1,V.c (C.fn 126 [])),(7,V.c (C.int .i64
  z5)),(8,V.c (C.int .i64 0))] [(0,Ob.amb),(1,Ob.box 50 [C.sl It z6,C.sl (Ty.sl In) z7,C.int .i64 z8]),(2,Ob.box 45 [C.nils,C.nils])] 3 = St.mk 19 [(0,V.c
  (C.sl It l)),(1,V.c (C.fn 126 [])),(7,V.c (C.int .i64 z5)),(8,V.c (C.int .i64 0))] [(0,Ob.amb),(1,Ob.box 50 [C.sl It z6,C.sl (Ty.sl In) z7,C.int
  .i64 z8]),(2,Ob.box 45 [C.nils,C.nils])] 3) (.obl (I (126,l,()) (0,())) (.all (Int × Unit) fun (v1:Int × Unit) =>
 let z21:=v1.1;
 let z22:=L.ar .add .i64 z21 1;
 let z23:=(L.ar .add .i64 z21 1,()); .imp (I (126,l,()) v1) (.br (L.cmp .lss z21 z5) (.obl (L.inR z21 z4) (.br (L.cmp .lss (L.get It
  l (L.toN z21)) 0) (.br (L.cmp .geq z21 0) (.br z9 (.ok ((([],[]),0,3,()) = z11)) (.obl z12 (.obl (St.mk 63 [(1,V.c (C.sl It l)),(4,V.c (C.ptr 2 0)),
  (8,V.c (C.ptr 3 0)),(9,V.c (C.ptr 4 0)),(10,V.c (C.int .i64 0))] [(0,Ob.amb),(1,Ob.box 50 [C.sl It z6,C.sl (Ty.sl In) z7,C.int .i64 z8]),(2,Ob.box 45
  [C.nils,C.nils]),(3,Ob.box 149 [C.sl It z6,C.sl (Ty.sl In) z7,C.int .i64 z8,C.sym false]),(4,Ob.box 45 [C.sl It z14,C.sl Th z15])] 5 = St.mk 63 [(1,V.c (C.sl It
  l)),(4,V.c (C.ptr 2 0)),(8,V.c (C.ptr 3 0)),(9,V.c (C.ptr 4 0)),(10,V.c (C.int .i64 0))] [(0,Ob.amb),(1,Ob.box 50 [C.sl It z6,C.sl (Ty.sl In) z7,C.int
  .i64 z8]),(2,Ob.box 45 [C.nils,C.nils]),(3,Ob.box 149 [C.sl It z6,C.sl (Ty.sl In) z7,C.int .i64 z8,C.sym false]),(4,Ob.box 45 [C.sl It z14,C.sl Th z15])]
  5) (.obl (I0 z16) (.all z18 fun (v2:List Int × List (Int × List Int × List (Int × Int) × List Int × Bool) × Int × Unit) =>
 let z24:=(Prod.fst v2,v2.2.1);
 let z25:=(BxF.moves F (z2,false) z24);
 let z26:=L.llen Mv z25;
 let z27:=L.cast z26;
 let z28:=v2.2.2;
 let z29:=z28.1;
 let z30:=L.dv .rem .i64 (L.get It l (L.toN z29)) z27;
 let z31:=L.get Mv z25 (L.toN z30);
 let z32:=(Prod.fst z31,z31.2);
 let z33:=L.ar .add .i64 z29 1;
 let z34:=(BxF.doo F (z2,false) z24 z32);
 let z35:=z34.1;
 let z36:=z34.2;
 let z37:=(Prod.fst z34,z34.2,L.ar .add .i64 z29 1,());
 let z38:=L.get Mv z25 z19;
 let z39:=(Prod.fst z38,z38.2);
 let z40:=(BxF.doo F (z2,false) z24 z39);
 let z41:=z40.1;
 let z42:=z40.2;
 let z43:=(Prod.fst z40,z40.2,L.ar .add .i64 z29 1,()); .imp (I0 v2) (.obl (BxF.pE F z24 (z2,false)) (.br (L.cmp .eql z27 0) (.obl
  (BxF.bs F z24) (.ok ((z24,z28.1,0,()) = z11))) (.br (L.cmp .eql z29 3000) (.ok ((([],[]),0,5,()) = z11)) (.br (L.cmp .lss z29 z5) (.obl
  (L.inR z29 z4) (.obl (L.ne0 z27) (.obl (L.inR z30 z26) (.obl (BxF.pDo F (z2,false) z24 z32) (.ok (St.mk 63 [(1,V.c (C.sl It l)),(4,V.c (C.ptr 2 0)),(8,V.c
  (C.ptr 3 0)),(9,V.c (C.ptr 4 0)),(10,V.c (C.int .i64 z33))] [(0,Ob.amb),(1,Ob.box 50 [C.sl It z6,C.sl (Ty.sl In) z7,C.int .i64 z8]),(2,Ob.box 45 [C.nils,
  C.nils]),(3,Ob.box 149 [C.sl It z6,C.sl (Ty.sl In) z7,C.int .i64 z8,C.sym false]),(4,Ob.box 45 [C.sl It z35,C.sl Th z36])] 5 = St.mk 63 [(1,V.c (C.sl It l)),(4,
  V.c (C.ptr 2 0)),(8,V.c (C.ptr 3 0)),(9,V.c (C.ptr 4 0)),(10,V.c (C.int .i64 z33))] [(0,Ob.amb),(1,Ob.box 50 [C.sl It z6,C.sl (Ty.sl In) z7,C.int .i64
  z8]),(2,Ob.box 45 [C.nils,C.nils]),(3,Ob.box 149 [C.sl It z6,C.sl (Ty.sl In) z7,C.int .i64 z8,C.sym false]),(4,Ob.box 45 [C.sl It z35,C.sl Th z36])] 5∧I0 z37
  ∧ mu0 z37 < mu0 v2)))))) (.obl (L.inR 0 z26) (.obl (BxF.pDo F (z2,false) z24 z39) (.ok (St.mk 63 [(1,V.c (C.sl It l)),(4,V.c (C.ptr 2 0)),(8,V.c (C.ptr 3 0)),(9,
  V.c (C.ptr 4 0)),(10,V.c (C.int .i64 z33))] [(0,Ob.amb),(1,Ob.box 50 [C.sl It z6,C.sl (Ty.sl In) z7,C.int .i64 z8]),(2,Ob.box 45 [C.nils,C.nils]),(3,
  Ob.box 149 [C.sl It z6,C.sl (Ty.sl In) z7,C.int .i64 z8,C.sym false]),(4,Ob.box 45 [C.sl It z41,C.sl Th z42])] 5 = St.mk 63 [(1,V.c (C.sl It l)),(4,V.c (C.ptr 2
  0)),(8,V.c (C.ptr 3 0)),(9,V.c (C.ptr 4 0)),(10,V.c (C.int .i64 z33))] [(0,Ob.amb),(1,Ob.box 50 [C.sl It z6,C.sl (Ty.sl In) z7,C.int .i64 z8]),(2,
  Ob.box 45 [C.nils,C.nils]),(3,Ob.box 149 [C.sl It z6,C.sl (Ty.sl In) z7,C.int .i64 z8,C.sym false]),(4,Ob.box 45 [C.sl It z41,C.sl Th z42])] 5∧I0 z43∧mu0 z43
  < mu0 v2))))))))))))) (.br z20 (.ok ((([],[]),0,BxF.check F z2,()) = z11)) (.obl z12 (.obl (St.mk 63 [(1,V.c (C.sl It l)),(4,V.c (C.ptr 2 0)),(8,V.c (C.ptr 3
  0)),(9,V.c (C.ptr 4 0)),(10,V.c (C.int .i64 0))] [(0,Ob.amb),(1,Ob.box 50 [C.sl It z6,C.sl (Ty.sl In) z7,C.int .i64 z8]),(2,Ob.box 45 [C.nils,C.nils]),
  (3,Ob.box 149 [C.sl It z6,C.sl (Ty.sl In) z7,C.int .i64 z8,C.sym false]),(4,Ob.box 45 [C.sl It z14,C.sl Th z15])] 5 = St.mk 63 [(1,V.c (C.sl It l)),(4,V.c (C.ptr
  2 0)),(8,V.c (C.ptr 3 0)),(9,V.c (C.ptr 4 0)),(10,V.c (C.int .i64 0))] [(0,Ob.amb),(1,Ob.box 50 [C.sl It z6,C.sl (Ty.sl In) z7,C.int .i64 z8]),(2,
  Ob.box 45 [C.nils,C.nils]),(3,Ob.box 149 [C.sl It z6,C.sl (Ty.sl In) z7,C.int .i64 z8,C.sym false]),(4,Ob.box 45 [C.sl It z14,C.sl Th z15])] 5) (.obl (I0 z16)
  (.all z18 fun (v3:List Int × List (Int × List Int × List (Int × Int) × List Int × Bool) × Int × Unit) =>
 let z44:=(Prod.fst v3,v3.2.1);
 let z45:=(BxF.moves F (z2,false) z44);
 let z46:=L.llen Mv z45;
 let z47:=L.cast z46;
 let z48:=v3.2.2;
 let z49:=z48.1;
 let z50:=L.dv .rem .i64 (L.get It l (L.toN z49)) z47;
 let z51:=L.get Mv z45 (L.toN z50);
 let z52:=(Prod.fst z51,z51.2);
 let z53:=L.ar .add .i64 z49 1;
 let z54:=(BxF.doo F (z2,false) z44 z52);
 let z55:=z54.1;
 let z56:=z54.2;
 let z57:=(Prod.fst z54,z54.2,L.ar .add .i64 z49 1,());
 let z58:=L.get Mv z45 z19;
 let z59:=(Prod.fst z58,z58.2);
 let z60:=(BxF.doo F (z2,false) z44 z59);
 let z61:=z60.1;
 let z62:=z60.2;
 let z63:=(Prod.fst z60,z60.2,L.ar .add .i64 z49 1,()); .imp (I0 v3) (.obl (BxF.pE F z44 (z2,false)) (.br (L.cmp .eql z47 0) (.obl
  (BxF.bs F z44) (.ok ((z44,z48.1,0,()) = z11))) (.br (L.cmp .eql z49 3000) (.ok ((([],[]),0,5,()) = z11)) (.br (L.cmp .lss z49 z5) (.obl
  (L.inR z49 z4) (.obl (L.ne0 z47) (.obl (L.inR z50 z46) (.obl (BxF.pDo F (z2,false) z44 z52) (.ok (St.mk 63 [(1,V.c (C.sl It l)),(4,V.c (C.ptr 2 0)),(8,V.c
  (C.ptr 3 0)),(9,V.c (C.ptr 4 0)),(10,V.c (C.int .i64 z53))] [(0,Ob.amb),(1,Ob.box 50 [C.sl It z6,C.sl (Ty.sl In) z7,C.int .i64 z8]),(2,Ob.box 45 [C.nils,
  C.nils]),(3,Ob.box 149 [C.sl It z6,C.sl (Ty.sl In) z7,C.int .i64 z8,C.sym false]),(4,Ob.box 45 [C.sl It z55,C.sl Th z56])] 5 = St.mk 63 [(1,V.c (C.sl It l)),(4,
  V.c (C.ptr 2 0)),(8,V.c (C.ptr 3 0)),(9,V.c (C.ptr 4 0)),(10,V.c (C.int .i64 z53))] [(0,Ob.amb),(1,Ob.box 50 [C.sl It z6,C.sl (Ty.sl In) z7,C.int .i64
  z8]),(2,Ob.box 45 [C.nils,C.nils]),(3,Ob.box 149 [C.sl It z6,C.sl (Ty.sl In) z7,C.int .i64 z8,C.sym false]),(4,Ob.box 45 [C.sl It z55,C.sl Th z56])] 5∧I0 z57
  ∧ mu0 z57 < mu0 v3)))))) (.obl (L.inR 0 z46) (.obl (BxF.pDo F (z2,false) z44 z59) (.ok (St.mk 63 [(1,V.c (C.sl It l)),(4,V.c (C.ptr 2 0)),(8,V.c (C.ptr 3 0)),(9,
  V.c (C.ptr 4 0)),(10,V.c (C.int .i64 z53))] [(0,Ob.amb),(1,Ob.box 50 [C.sl It z6,C.sl (Ty.sl In) z7,C.int .i64 z8]),(2,Ob.box 45 [C.nils,C.nils]),(3,
  Ob.box 149 [C.sl It z6,C.sl (Ty.sl In) z7,C.int .i64 z8,C.sym false]),(4,Ob.box 45 [C.sl It z61,C.sl Th z62])] 5 = St.mk 63 [(1,V.c (C.sl It l)),(4,V.c (C.ptr 2
  0)),(8,V.c (C.ptr 3 0)),(9,V.c (C.ptr 4 0)),(10,V.c (C.int .i64 z53))] [(0,Ob.amb),(1,Ob.box 50 [C.sl It z6,C.sl (Ty.sl In) z7,C.int .i64 z8]),(2,
  Ob.box 45 [C.nils,C.nils]),(3,Ob.box 149 [C.sl It z6,C.sl (Ty.sl In) z7,C.int .i64 z8,C.sym false]),(4,Ob.box 45 [C.sl It z61,C.sl Th z62])] 5∧I0 z63∧mu0 z63
  < mu0 v3)))))))))))))) (.ok (St.mk 19 [(0,V.c (C.sl It l)),(1,V.c (C.fn 126 [])),(7,V.c (C.int .i64 z5)),(8,V.c (C.int .i64 z22))] [(0,Ob.amb),(1,Ob.box
  50 [C.sl It z6,C.sl (Ty.sl In) z7,C.int .i64 z8]),(2,Ob.box 45 [C.nils,C.nils])] 3 = St.mk 19 [(0,V.c (C.sl It l)),(1,V.c (C.fn 126 [])),(7,V.c (C.int .i64
  z5)),(8,V.c (C.int .i64 z22))] [(0,Ob.amb),(1,Ob.box 50 [C.sl It z6,C.sl (Ty.sl In) z7,C.int .i64 z8]),(2,Ob.box 45 [C.nils,C.nils])] 3∧I (126,l,())
  z23∧mu (126,l,()) z23 < mu (126,l,()) v1)))) (.br (L.cmp .geq (Int.negSucc 0) 0) (.br z9 (.ok ((([],[]),0,3,()) = z11)) (.obl z12 (.obl (St.mk 63 [(1,
  V.c (C.sl It l)),(4,V.c (C.ptr 2 0)),(8,V.c (C.ptr 3 0)),(9,V.c (C.ptr 4 0)),(10,V.c (C.int .i64 0))] [(0,Ob.amb),(1,Ob.box 50 [C.sl It z6,C.sl (Ty.sl In) z7,
  C.int .i64 z8]),(2,Ob.box 45 [C.nils,C.nils]),(3,Ob.box 149 [C.sl It z6,C.sl (Ty.sl In) z7,C.int .i64 z8,C.sym false]),(4,Ob.box 45 [C.sl It z14,C.sl Th
  z15])] 5 = St.mk 63 [(1,V.c (C.sl It l)),(4,V.c (C.ptr 2 0)),(8,V.c (C.ptr 3 0)),(9,V.c (C.ptr 4 0)),(10,V.c (C.int .i64 0))] [(0,Ob.amb),(1,Ob.box 50 [C.sl It
  z6,C.sl (Ty.sl In) z7,C.int .i64 z8]),(2,Ob.box 45 [C.nils,C.nils]),(3,Ob.box 149 [C.sl It z6,C.sl (Ty.sl In) z7,C.int .i64 z8,C.sym false]),(4,Ob.box
  45 [C.sl It z14,C.sl Th z15])] 5) (.obl (I0 z16) (.all z18 fun (v4:List Int × List (Int × List Int × List (Int × Int) × List Int × Bool) × Int × Unit) =>
 let z64:=(Prod.fst v4,v4.2.1);
 let z65:=(BxF.moves F (z2,false) z64);
 let z66:=L.llen Mv z65;
 let z67:=L.cast z66;
 let z68:=v4.2.2;
 let z69:=z68.1;
 let z70:=L.dv .rem .i64 (L.get It l (L.toN z69)) z67;
 let z71:=L.get Mv z65 (L.toN z70);
 let z72:=(Prod.fst z71,z71.2);
 let z73:=L.ar .add .i64 z69 1;
 let z74:=(BxF.doo F (z2,false) z64 z72);
 let z75:=z74.1;
 let z76:=z74.2;
 let z77:=(Prod.fst z74,z74.2,L.ar .add .i64 z69 1,());
 let z78:=L.get Mv z65 z19;
 let z79:=(Prod.fst z78,z78.2);
 let z80:=(BxF.doo F (z2,false) z64 z79);
 let z81:=z80.1;
 let z82:=z80.2;
 let z83:=(Prod.fst z80,z80.2,L.ar .add .i64 z69 1,()); .imp (I0 v4) (.obl (BxF.pE F z64 (z2,false)) (.br (L.cmp .eql z67 0) (.obl
  (BxF.bs F z64) (.ok ((z64,z68.1,0,()) = z11))) (.br (L.cmp .eql z69 3000) (.ok ((([],[]),0,5,()) = z11)) (.br (L.cmp .lss z69 z5) (.obl
  (L.inR z69 z4) (.obl (L.ne0 z67) (.obl (L.inR z70 z66) (.obl (BxF.pDo F (z2,false) z64 z72) (.ok (St.mk 63 [(1,V.c (C.sl It l)),(4,V.c (C.ptr 2 0)),(8,V.c
  (C.ptr 3 0)),(9,V.c (C.ptr 4 0)),(10,V.c (C.int .i64 z73))] [(0,Ob.amb),(1,Ob.box 50 [C.sl It z6,C.sl (Ty.sl In) z7,C.int .i64 z8]),(2,Ob.box 45 [C.nils,
  C.nils]),(3,Ob.box 149 [C.sl It z6,C.sl (Ty.sl In) z7,C.int .i64 z8,C.sym false]),(4,Ob.box 45 [C.sl It z75,C.sl Th z76])] 5 = St.mk 63 [(1,V.c (C.sl It l)),(4,
  V.c (C.ptr 2 0)),(8,V.c (C.ptr 3 0)),(9,V.c (C.ptr 4 0)),(10,V.c (C.int .i64 z73))] [(0,Ob.amb),(1,Ob.box 50 [C.sl It z6,C.sl (Ty.sl In) z7,C.int .i64
  z8]),(2,Ob.box 45 [C.nils,C.nils]),(3,Ob.box 149 [C.sl It z6,C.sl (Ty.sl In) z7,C.int .i64 z8,C.sym false]),(4,Ob.box 45 [C.sl It z75,C.sl Th z76])] 5∧I0 z77
  ∧ mu0 z77 < mu0 v4)))))) (.obl (L.inR 0 z66) (.obl (BxF.pDo F (z2,false) z64 z79) (.ok (St.mk 63 [(1,V.c (C.sl It l)),(4,V.c (C.ptr 2 0)),(8,V.c (C.ptr 3 0)),(9,
  V.c (C.ptr 4 0)),(10,V.c (C.int .i64 z73))] [(0,Ob.amb),(1,Ob.box 50 [C.sl It z6,C.sl (Ty.sl In) z7,C.int .i64 z8]),(2,Ob.box 45 [C.nils,C.nils]),(3,
  Ob.box 149 [C.sl It z6,C.sl (Ty.sl In) z7,C.int .i64 z8,C.sym false]),(4,Ob.box 45 [C.sl It z81,C.sl Th z82])] 5 = St.mk 63 [(1,V.c (C.sl It l)),(4,V.c (C.ptr 2
  0)),(8,V.c (C.ptr 3 0)),(9,V.c (C.ptr 4 0)),(10,V.c (C.int .i64 z73))] [(0,Ob.amb),(1,Ob.box 50 [C.sl It z6,C.sl (Ty.sl In) z7,C.int .i64 z8]),(2,
  Ob.box 45 [C.nils,C.nils]),(3,Ob.box 149 [C.sl It z6,C.sl (Ty.sl In) z7,C.int .i64 z8,C.sym false]),(4,Ob.box 45 [C.sl It z81,C.sl Th z82])] 5∧I0 z83∧mu0 z83
  < mu0 v4))))))))))))) (.br z20 (.ok ((([],[]),0,BxF.check F z2,()) = z11)) (.obl z12 (.obl (St.mk 63 [(1,V.c (C.sl It l)),(4,V.c (C.ptr 2 0)),(8,V.c (C.ptr 3
  0)),(9,V.c (C.ptr 4 0)),(10,V.c (C.int .i64 0))] [(0,Ob.amb),(1,Ob.box 50 [C.sl It z6,C.sl (Ty.sl In) z7,C.int .i64 z8]),(2,Ob.box 45 [C.nils,C.nils]),
  (3,Ob.box 149 [C.sl It z6,C.sl (Ty.sl In) z7,C.int .i64 z8,C.sym false]),(4,Ob.box 45 [C.sl It z14,C.sl Th z15])] 5 = St.mk 63 [(1,V.c (C.sl It l)),(4,V.c (C.ptr
  2 0)),(8,V.c (C.ptr 3 0)),(9,V.c (C.ptr 4 0)),(10,V.c (C.int .i64 0))] [(0,Ob.amb),(1,Ob.box 50 [C.sl It z6,C.sl (Ty.sl In) z7,C.int .i64 z8]),(2,
  Ob.box 45 [C.nils,C.nils]),(3,Ob.box 149 [C.sl It z6,C.sl (Ty.sl In) z7,C.int .i64 z8,C.sym false]),(4,Ob.box 45 [C.sl It z14,C.sl Th z15])] 5) (.obl (I0 z16)
  (.all z18 fun (v5:List Int × List (Int × List Int × List (Int × Int) × List Int × Bool) × Int × Unit) =>
 let z84:=(Prod.fst v5,v5.2.1);
 let z85:=(BxF.moves F (z2,false) z84);
 let z86:=L.llen Mv z85;
 let z87:=L.cast z86;
 let z88:=v5.2.2;
 let z89:=z88.1;
 let z90:=L.dv .rem .i64 (L.get It l (L.toN z89)) z87;
 let z91:=L.get Mv z85 (L.toN z90);
 let z92:=(Prod.fst z91,z91.2);
 let z93:=L.ar .add .i64 z89 1;
 let z94:=(BxF.doo F (z2,false) z84 z92);
 let z95:=z94.1;
 let z96:=z94.2;
 let z97:=(Prod.fst z94,z94.2,L.ar .add .i64 z89 1,());
 let z98:=L.get Mv z85 z19;
 let z99:=(Prod.fst z98,z98.2);
 let z100:=(BxF.doo F (z2,false) z84 z99);
 let z101:=z100.1;
 let z102:=z100.2;
 let z103:=(Prod.fst z100,z100.2,L.ar .add .i64 z89 1,()); .imp (I0 v5) (.obl (BxF.pE F z84 (z2,false)) (.br (L.cmp .eql z87 0) (.obl
  (BxF.bs F z84) (.ok ((z84,z88.1,0,()) = z11))) (.br (L.cmp .eql z89 3000) (.ok ((([],[]),0,5,()) = z11)) (.br (L.cmp .lss z89 z5) (.obl
  (L.inR z89 z4) (.obl (L.ne0 z87) (.obl (L.inR z90 z86) (.obl (BxF.pDo F (z2,false) z84 z92) (.ok (St.mk 63 [(1,V.c (C.sl It l)),(4,V.c (C.ptr 2 0)),(8,V.c
  (C.ptr 3 0)),(9,V.c (C.ptr 4 0)),(10,V.c (C.int .i64 z93))] [(0,Ob.amb),(1,Ob.box 50 [C.sl It z6,C.sl (Ty.sl In) z7,C.int .i64 z8]),(2,Ob.box 45 [C.nils,
  C.nils]),(3,Ob.box 149 [C.sl It z6,C.sl (Ty.sl In) z7,C.int .i64 z8,C.sym false]),(4,Ob.box 45 [C.sl It z95,C.sl Th z96])] 5 = St.mk 63 [(1,V.c (C.sl It l)),(4,
  V.c (C.ptr 2 0)),(8,V.c (C.ptr 3 0)),(9,V.c (C.ptr 4 0)),(10,V.c (C.int .i64 z93))] [(0,Ob.amb),(1,Ob.box 50 [C.sl It z6,C.sl (Ty.sl In) z7,C.int .i64
  z8]),(2,Ob.box 45 [C.nils,C.nils]),(3,Ob.box 149 [C.sl It z6,C.sl (Ty.sl In) z7,C.int .i64 z8,C.sym false]),(4,Ob.box 45 [C.sl It z95,C.sl Th z96])] 5∧I0 z97
  ∧ mu0 z97 < mu0 v5)))))) (.obl (L.inR 0 z86) (.obl (BxF.pDo F (z2,false) z84 z99) (.ok (St.mk 63 [(1,V.c (C.sl It l)),(4,V.c (C.ptr 2 0)),(8,V.c (C.ptr 3 0)),(9,
  V.c (C.ptr 4 0)),(10,V.c (C.int .i64 z93))] [(0,Ob.amb),(1,Ob.box 50 [C.sl It z6,C.sl (Ty.sl In) z7,C.int .i64 z8]),(2,Ob.box 45 [C.nils,C.nils]),(3,
  Ob.box 149 [C.sl It z6,C.sl (Ty.sl In) z7,C.int .i64 z8,C.sym false]),(4,Ob.box 45 [C.sl It z101,C.sl Th z102])] 5 = St.mk 63 [(1,V.c (C.sl It l)),(4,V.c (C.ptr 2
  0)),(8,V.c (C.ptr 3 0)),(9,V.c (C.ptr 4 0)),(10,V.c (C.int .i64 z93))] [(0,Ob.amb),(1,Ob.box 50 [C.sl It z6,C.sl (Ty.sl In) z7,C.int .i64 z8]),(2,
  Ob.box 45 [C.nils,C.nils]),(3,Ob.box 149 [C.sl It z6,C.sl (Ty.sl In) z7,C.int .i64 z8,C.sym false]),(4,Ob.box 45 [C.sl It z101,C.sl Th z102])] 5∧I0 z103∧mu0
  z103 < mu0 v5)))))))))))))))))) (.br z20 (.ok ((([],[]),0,BxF.check F z2,()) = z11)) (.obl z12 (.obl (St.mk 63 [(1,V.c (C.sl It l)),(4,V.c (C.ptr 2 0)),(8,V.c
  (C.ptr 3 0)),(9,V.c (C.ptr 4 0)),(10,V.c (C.int .i64 0))] [(0,Ob.amb),(1,Ob.box 50 [C.sl It z6,C.sl (Ty.sl In) z7,C.int .i64 z8]),(2,Ob.box 45 [C.nils,
  C.nils]),(3,Ob.box 149 [C.sl It z6,C.sl (Ty.sl In) z7,C.int .i64 z8,C.sym false]),(4,Ob.box 45 [C.sl It z14,C.sl Th z15])] 5 = St.mk 63 [(1,V.c (C.sl It l)),(4,
  V.c (C.ptr 2 0)),(8,V.c (C.ptr 3 0)),(9,V.c (C.ptr 4 0)),(10,V.c (C.int .i64 0))] [(0,Ob.amb),(1,Ob.box 50 [C.sl It z6,C.sl (Ty.sl In) z7,C.int .i64
  z8]),(2,Ob.box 45 [C.nils,C.nils]),(3,Ob.box 149 [C.sl It z6,C.sl (Ty.sl In) z7,C.int .i64 z8,C.sym false]),(4,Ob.box 45 [C.sl It z14,C.sl Th z15])] 5) (.obl
  (I0 z16) (.all z18 fun (v6:List Int × List (Int × List Int × List (Int × Int) × List Int × Bool) × Int × Unit) =>
 let z104:=(Prod.fst v6,v6.2.1);
 let z105:=(BxF.moves F (z2,false) z104);
 let z106:=L.llen Mv z105;
 let z107:=L.cast z106;
 let z108:=v6.2.2;
 let z109:=z108.1;
 let z110:=L.dv .rem .i64 (L.get It l (L.toN z109)) z107;
 let z111:=L.get Mv z105 (L.toN z110);
 let z112:=(Prod.fst z111,z111.2);
 let z113:=L.ar .add .i64 z109 1;
 let z114:=(BxF.doo F (z2,false) z104 z112);
 let z115:=z114.1;
 let z116:=z114.2;
 let z117:=(Prod.fst z114,z114.2,L.ar .add .i64 z109 1,());
 let z118:=L.get Mv z105 z19;
 let z119:=(Prod.fst z118,z118.2);
 let z120:=(BxF.doo F (z2,false) z104 z119);
 let z121:=z120.1;
 let z122:=z120.2;
 let z123:=(Prod.fst z120,z120.2,L.ar .add .i64 z109 1,()); .imp (I0 v6) (.obl (BxF.pE F z104 (z2,false)) (.br (L.cmp .eql z107 0) (.obl
  (BxF.bs F z104) (.ok ((z104,z108.1,0,()) = z11))) (.br (L.cmp .eql z109 3000) (.ok ((([],[]),0,5,()) = z11)) (.br (L.cmp .lss z109 z5)
  (.obl (L.inR z109 z4) (.obl (L.ne0 z107) (.obl (L.inR z110 z106) (.obl (BxF.pDo F (z2,false) z104 z112) (.ok (St.mk 63 [(1,V.c (C.sl It l)),(4,V.c (C.ptr 2
  0)),(8,V.c (C.ptr 3 0)),(9,V.c (C.ptr 4 0)),(10,V.c (C.int .i64 z113))] [(0,Ob.amb),(1,Ob.box 50 [C.sl It z6,C.sl (Ty.sl In) z7,C.int .i64 z8]),(2,
  Ob.box 45 [C.nils,C.nils]),(3,Ob.box 149 [C.sl It z6,C.sl (Ty.sl In) z7,C.int .i64 z8,C.sym false]),(4,Ob.box 45 [C.sl It z115,C.sl Th z116])] 5 = St.mk 63 [(1,
  V.c (C.sl It l)),(4,V.c (C.ptr 2 0)),(8,V.c (C.ptr 3 0)),(9,V.c (C.ptr 4 0)),(10,V.c (C.int .i64 z113))] [(0,Ob.amb),(1,Ob.box 50 [C.sl It z6,C.sl (Ty.sl In)
  z7,C.int .i64 z8]),(2,Ob.box 45 [C.nils,C.nils]),(3,Ob.box 149 [C.sl It z6,C.sl (Ty.sl In) z7,C.int .i64 z8,C.sym false]),(4,Ob.box 45 [C.sl It z115,
  C.sl Th z116])] 5∧I0 z117∧mu0 z117 < mu0 v6)))))) (.obl (L.inR 0 z106) (.obl (BxF.pDo F (z2,false) z104 z119) (.ok (St.mk 63 [(1,V.c (C.sl It l)),(4,V.c (C.ptr 2
  0)),(8,V.c (C.ptr 3 0)),(9,V.c (C.ptr 4 0)),(10,V.c (C.int .i64 z113))] [(0,Ob.amb),(1,Ob.box 50 [C.sl It z6,C.sl (Ty.sl In) z7,C.int .i64 z8]),(2,
  Ob.box 45 [C.nils,C.nils]),(3,Ob.box 149 [C.sl It z6,C.sl (Ty.sl In) z7,C.int .i64 z8,C.sym false]),(4,Ob.box 45 [C.sl It z121,C.sl Th z122])] 5 = St.mk 63 [(1,
  V.c (C.sl It l)),(4,V.c (C.ptr 2 0)),(8,V.c (C.ptr 3 0)),(9,V.c (C.ptr 4 0)),(10,V.c (C.int .i64 z113))] [(0,Ob.amb),(1,Ob.box 50 [C.sl It z6,C.sl (Ty.sl In)
  z7,C.int .i64 z8]),(2,Ob.box 45 [C.nils,C.nils]),(3,Ob.box 149 [C.sl It z6,C.sl (Ty.sl In) z7,C.int .i64 z8,C.sym false]),(4,Ob.box 45 [C.sl It z121,
  C.sl Th z122])] 5∧I0 z123∧mu0 z123 < mu0 v6))))))))))))))
theorem n51_go (L:Lv) (F:BxF) (I0:Ds [.sl It,.sl Th,It]→Prop) (mu0:Ds [.sl It,.sl Th,It]→Nat) (I:Int × List Int × Unit→Ds [It]→Prop) (mu:Int × List Int × Unit→Ds [It]→Nat) (p:WkD) (l:List Int) (h:VC.holds (n51 L F I0 mu0 I mu p l)):Holds (vcO L F (o51 L I mu) [98,99,100,125,126,103,102,180] 5 (D51 (a51 L I0 mu0)) (S51 F) (p,l,())):=Holds.of_eq (by kernel_rfl) h
def pickF (m:McD) (s:StD) (l:List Int) (n:Nat):MvD:=((movesF m s)[(if n < l.length then remF ((l[n]?).getD 0) (movesF m s).length else 0).toNat]?).getD (0,false)
def runN (m:McD) (l:List Int):Nat→StD→StD × Int × Int
 | 0,s=>if movesF m s = [] then (s,3000,0) else (([],[]),0,5)
 | f + 1,s=>if movesF m s = [] then (s,((3000 - (f + 1):Nat):Int),0) else runN m l f (doF m s (pickF m s l (3000 - (f + 1))))
def negF (n:Int):Bool:=decide (n < 0)
def runF (p:WkD) (l:List Int):StD × Int × Int:=if checkF p ≠ 0 then (([],[]),0,checkF p) else if l.any negF = true then (([],[]),0,3) else runN (p,false) l 3000 (firstF p)
theorem ok51 (F:BxF) (h:F.runE = runF) (h1:F.check = checkF) (h2:F.first = firstF) (h3:F.moves = movesF) (h4:F.doo = doF) (hp:F.pRunR = fun p l=>bW p∧l.length≤1000000) (q:F.pE = pEF) (q1:F.pDo = pDoF) (q2:F.bw = bW) (q3:F.bs = bS) (q4:F.pFirst = fun p=>p.1.length≤1000000∧p.2.1.length≤1000000)
  (k1:SpecOk prog 98 (S22 F)) (k2:SpecOk prog 99 (S79 F)) (k3:SpecOk prog 100 (S90 F)) (k4:SpecOk prog 103 (S43 F)) (k5:SpecOk prog 102 (S99 F)):SpecOk prog 69 (S51 F):=by
 refine Zc hm hE D51 fnok51 _ fun (z:WkD × List Int × Unit) hpre=>?_
 obtain ⟨p,l,⟨⟩⟩:=z
 have hpre':F.pRunR p l:=hpre
 rw [hp] at hpre'
 obtain ⟨g1,g2⟩:=hpre'
 let I:Int × List Int × Unit→Int × Unit→Prop:=fun e=>Iv l.length fun k=>(l.drop k).any negF = l.any negF
 let mu:Int × List Int × Unit→Int × Unit→Nat:=fun e=>Mu l.length
 let I0:List Int × List ThD × Int × Unit→Prop:=fun x=>(0≤x.2.2.1∧x.2.2.1≤3000)∧OkS p (x.1,x.2.1)∧runN (p,false) l (3000 - x.2.2.1.toNat) (x.1,x.2.1) = runN (p,false) l 3000 (firstF p)
 let mu0:List Int × List ThD × Int × Unit→Nat:=fun x=>(3000 - x.2.2.1).toNat
 refine Yp _ 5 (a51 Lv.std I0 mu0) (Zs (T:=tabO (o51 Lv.std I mu) (cT F)) (l:=[98,99,100,125,126,103,102,180]) (Za (Yh k1 (by kernel_rfl)) (Za (Yh k2 (by kernel_rfl)) (Za (Yh k3 (by kernel_rfl)) (Za (Yy (fnok96 a0) (by kernel_rfl)) (Za (Yy (fnok97 a0) (by kernel_rfl)) (Za (Yh k4 (by kernel_rfl)) (Za (Yh k5 (by kernel_rfl)) (Za (Yy (fnok125 (aIw Lv.std I mu)) (by kernel_rfl)) Z4))))))))) ?_
 refine n51_go Lv.std F I0 mu0 I mu p l ?_
 have e1:∀ (l:List Int) (k:Int),Lv.std.get It l k.toNat = (l[k.toNat]?).getD 0:=fun _ _=>rfl
 have e2:∀ (l:List MvD) (k:Int),Lv.std.get Mv l k.toNat = (l[k.toNat]?).getD (0,false):=fun _ _=>rfl
 have neg1:(Int.negSucc 0:Int) = -1:=rfl
 simp only [n51,VC.holds,ZJ,Zt,Zr,ZH,e1,e2,ZI,Z7,Zb,neg1,Zd,Ze,Zx,Zy,Zp,Zq,Zk,Zl,h,h1,h2,h3,h4,q,q1,q2,q3,q4,pe5,Prod.mk.injEq,and_true,true_and]
 have hrem:∀ (b:Int) (c:Nat),0≤b→c ≠ 0→0≤remF b c∧remF b c < c:=fun b c hb hc=>by
  have e:remF b c = b.tmod c:=rfl
  rw [e]
  exact ⟨Int.tmod_nonneg _ hb,Int.tmod_lt_of_pos _ (Int.natCast_pos.2 (Nat.pos_of_ne_zero hc))⟩
 have er:∀ (b c:Int),Lv.std.dv .rem .i64 b c = remF b c:=fun _ _=>rfl
 simp only [er]
 have pk:∀ (s:StD) (n:Nat) (x:Int),x = (if n < l.length then remF ((l[n]?).getD 0) (movesF (p,false) s).length else 0)→((movesF (p,false) s)[x.toNat]?).getD (0,false) = pickF (p,false) s l n:=fun s n x hx=>by rw [hx]; rfl
 refine ⟨g1,fun c0=>⟨Iv.zero (by simp),fun x hx=>?_⟩,fun c0=>⟨fun _=>?_,fun c1=>absurd c1 c0⟩⟩
 ·obtain ⟨k,rfl,hk,i3⟩:=Iv.elim hx
  simp only [Int.toNat_natCast] at i3 ⊢
  refine ⟨fun hlt=>⟨⟨by omega,hlt⟩,fun hn=>⟨fun _=>⟨fun _=>?_,fun hc=>by cases hc⟩,fun hc=>by omega⟩,fun hn=>?_⟩,fun hge=>⟨fun hc=>by omega,fun _=>⟨fun hc=>absurd c0 hc,fun _=>?_⟩⟩⟩
  ·rw [any_drop negF _ k 0 (by omega),show negF ((l[k]?).getD 0) = true from decide_eq_true hn,Bool.true_or] at i3
   rw [runF,if_neg (by simpa using c0),if_pos i3.symm]; exact ⟨rfl,rfl,rfl⟩
  ·rw [wr hlt g2]
   rw [any_drop negF _ k 0 (by omega),show negF ((l[k]?).getD 0) = false from decide_eq_false (by omega),Bool.false_or] at i3
   exact ⟨Iv.mk (by omega) i3,Mu.lt (by omega)⟩
  ·rw [show k = l.length by omega,List.drop_length] at i3
   have hany:l.any negF = false:=i3.symm
   have hnn:∀ n:Nat,n < l.length→0≤(l[n]?).getD 0:=fun n hn=>by
    rw [List.getElem?_eq_getElem hn]
    have:=List.any_eq_false.1 hany _ (List.getElem_mem hn)
    have:¬ (l[n] < 0):=fun e=>this (decide_eq_true e)
    show (0:Int)≤l[n]
    omega
   have o1:OkP p:=(okP_iff p).1 c0
   have er0:runF p l = runN (p,false) l 3000 (firstF p):=by rw [runF,if_neg (by simpa using c0),if_neg (by rw [hany]; simp)]
   rw [er0]
   refine ⟨⟨g1.1,g1.2.1⟩,⟨⟨Int.le_refl 0,by show (0:Int)≤3000; decide⟩,first_ok o1,rfl⟩,?_⟩
   rintro ⟨ws,ts,x,⟨⟩⟩ ⟨⟨i1,i2⟩,o2,i4⟩
   simp only at i1 i2 o2 i4 ⊢
   obtain ⟨n,rfl⟩:=Yq i1
   rw [Int.toNat_natCast] at i4
   generalize hs:(ws,ts) = s at *
   refine ⟨ok_pE o1 o2,fun hz=>⟨ok_bS o1 o2,?_⟩,fun hz=>⟨fun h3=>?_,fun h3=>?_⟩⟩
   ·have hnil:movesF (p,false) s = []:=List.eq_nil_of_length_eq_zero (by omega)
    rw [← i4]
    cases hf:3000 - n with
    | zero=>rw [runN,if_pos hnil]; exact ⟨rfl,by show (n:Int) = 3000; omega,rfl⟩
    | succ f=>rw [runN,if_pos hnil]; exact ⟨rfl,by show (n:Int) = ((3000 - (f + 1):Nat):Int); omega,rfl⟩
   ·have hnil:¬ movesF (p,false) s = []:=fun e=>hz (by rw [e]; rfl)
    rw [← i4,show 3000 - n = 0 by omega,runN,if_neg hnil]; exact ⟨rfl,rfl,rfl⟩
   ·have hnil:¬ movesF (p,false) s = []:=fun e=>hz (by rw [e]; rfl)
    have hml:(movesF (p,false) s).length ≠ 0:=fun e=>hnil (List.eq_nil_of_length_eq_zero e)
    have ew:IntKind.i64.wrap ((n:Int) + 1) = ((n + 1:Nat):Int):=wr (n:=3000) (by omega) (by omega)
    rw [ew]
    obtain ⟨f,hf⟩:∃ f,3000 - n = f + 1:=⟨3000 - n - 1,by omega⟩
    have hn:3000 - (f + 1) = n:=by omega
    have hstep:runN (p,false) l (3000 - n) s = runN (p,false) l f (doF (p,false) s (pickF (p,false) s l n)):=by rw [hf,runN,if_neg hnil,hn]
    have hpm:pickF (p,false) s l n ∈ movesF (p,false) s:=by
     unfold pickF
     split
     ·rename_i hl
      have:=hrem _ (movesF (p,false) s).length (hnn n hl) hml
      rw [List.getElem?_eq_getElem (by omega)]; exact List.getElem_mem _
     ·rw [List.getElem?_eq_getElem (by show (0:Nat) < _; omega)]; exact List.getElem_mem _
    have hnext:I0 ((doF (p,false) s (pickF (p,false) s l n)).1,(doF (p,false) s (pickF (p,false) s l n)).2,((n + 1:Nat):Int),()):=by
     refine ⟨⟨by show (0:Int)≤((n + 1:Nat):Int); omega,by show ((n + 1:Nat):Int)≤3000; omega⟩,do_ok o1 o2 hpm,?_⟩
     show runN (p,false) l (3000 - ((n + 1:Nat):Int).toNat) (doF (p,false) s (pickF (p,false) s l n)) = _
     rw [Int.toNat_natCast,show 3000 - (n + 1) = f by omega,← hstep]; exact i4
    have ml:∀ a b c d,mu0 (a,b,((n + 1:Nat):Int),()) < mu0 (c,d,(n:Int),()):=fun a b c d=>by show ((3000:Int) - ((n + 1:Nat):Int)).toNat < ((3000:Int) - (n:Int)).toNat; omega
    refine ⟨fun hl=>?_,fun hl=>?_⟩
    ·have hr:=hrem _ (movesF (p,false) s).length (hnn n (by omega)) hml
     have e:=pk s n (remF ((l[n]?).getD 0) (movesF (p,false) s).length) (by rw [if_pos (by omega)])
     simp only [Int.toNat_natCast] at e ⊢
     rw [e]
     exact ⟨⟨i1,hl⟩,by omega,hr,ok_pDo o1 o2 hpm,hnext,ml _ _ _ _⟩
    ·have e:=pk s n 0 (by rw [if_neg (by omega)])
     rw [e]
     exact ⟨⟨Int.le_refl 0,by omega⟩,ok_pDo o1 o2 hpm,hnext,ml _ _ _ _⟩
 ·rw [runF,if_pos c0]; exact ⟨rfl,rfl,rfl⟩
end Go.Proofs.Tryz
namespace Go.Proofs.Tryz
open Go Go.VM
def a53 (L:Lv) (I:Ds [.sl It,It]→Prop) (mu:Ds [.sl It,It]→Nat):Nat→LAnn
 | 0=>anH L [2,4,9,29,30] [] [.r 9 It,.s 30 It] I mu
 | _=>.no
def doEF (p:WkD) (s:StD) (v:MvD):StD × Int:=if ckStF p s ≠ 0 then (([],[]),ckStF p s) else if v ∈ movesF (p,false) s then (doF (p,false) s v,0) else (([],[]),7)
end Go.Proofs.Tryz
namespace Go.Proofs.Tryz
open Go Go.VM
def overF (p:WkD) (s:StD) (k:Int):Bool:=(thAt s k).2.2.2.2 || decide ((thAt s k).1 = (listAt (p,false) k).length)
def waRF (p:WkD) (s:StD) (k:Int):Bool:=waitsF (p,false) s (thAt s k) (insIn (listAt (p,false) k) (thAt s k).1)
def okTF (p:WkD) (s:StD) (k:Int):Prop:=(OkP p∧OkS p s)∧0≤k∧k < s.2.length
def okWF (p:WkD) (s:StD) (k:Int):Prop:=okTF p s k∧overF p s k = false
end Go.Proofs.Tryz
namespace Go.Proofs.Tryz
open Go Go.VM
noncomputable def FF:BxF where
 within:=withinF
 isNum:=isNumF
 truth:=truthF
 has:=hasF
 fields:=fieldsF
 shape:=shapeF
 isIns:=insOkF
 worked:=workedF
 place:=placeF
 value:=default
 sees:=seesF
 pRegs:=fun l i=>inReg l i.2.2.1∧inReg l i.2.2.2.1
 pPlace:=fun _ t i=>inReg t.2.1 i.2.2.1
 pSees:=fun s t p=>inReg s.1 p∧t.2.2.1.length≤1000000
 back:=backF
 pBack:=fun l=>l.length≤1000000
 see:=seeF
 pSee:=fun s t p=>inReg s.1 p∧(0≤t∧t < s.2.length)∧(thAt s t).2.2.1.length≤1000000
 waits:=waitsF
 pW:=fun _ s t i=>pWF s t i
 can:=canF
 pC:=pCF
 each:=eachF
 pE:=pEF
 moves:=movesF
 ended:=endedF
 endOf:=endOfF
 pEnd:=fun m s=>bS s∧s.2.length≤m.1.2.1.length
 first:=firstF
 pFirst:=fun p=>p.1.length≤1000000∧p.2.1.length≤1000000
 pHas:=fun s=>s.size≤1000000
 pLi:=fun l=>l.length≤1000000
 pLt:=fun l=>l.length≤1000000
 pLk:=fun l=>l.length≤1000000
 doo:=doF
 pDo:=pDoF
 step:=default
 bl:=bL
 bw:=bW
 bs:=bS
 be:=sEn
 ble:=fun l=>l.length≤1000000∧∀ e ∈ l,sEn e
 nums:=numsF
 check:=checkF
 isTh:=fun p k t=>thOk p k.toNat t
 pTh:=fun p k t=>p.1.length≤1000000∧(0≤k∧k < p.2.1.length)∧bTh t
 isSt:=isStF
 pSt:=fun p s=>bW p∧bS s
 ckSt:=ckStF
 begE:=begF
 mvE:=mvsF
 ok:=fun p s=>OkP p∧OkS p s
 okD:=default
 okT:=okTF
 doE:=doEF
 endE:=default
 endR:=default
 seesE:=default
 runE:=runF
 runR:=default
 pRunR:=fun p l=>bW p∧l.length≤1000000
 fenE:=default
 fenR:=default
 okW:=default
 sameL:=fun a b=>decide (a = b)
 sameE:=fun a b=>decide (a = b)
 sameEs:=default
 sameS:=default
 sameW:=fun a b=>decide (a = b)
 sameM:=default
 sameK:=default
 bm:=fun l=>l.length≤1000000
 bk:=default
 isMv:=fun l v=>decide (v ∈ l)
 isIn:=default
 cmpL:=cmpLF
 cmpLL:=cmpLLF
 cmpE:=cmpEF
 cmpR:=lexR
 cmpRE:=cmpREF
 hows:=fun e=>e.2.2
 thin:=default
 long:=default
 thinS:=thinSF
 bwT:=default
 pCl:=fun s (k:Int)=>(0≤k∧k < s.2.length)∧bS s
 or1:=orF3
 bll:=fun l=>l.length≤1000000∧∀ x ∈ l,x.length≤1000000
 put:=putF
 pPut:=fun b l=>b.length≤100000000∧l.length≤1000000
 comp:=compL
 sort:=fun l=>List.mergeSort (α:=EnD) l fun x y=>!(Go.Proofs.ltOf cmpEF) y x
 rev:=List.reverse
 key:=keyF
 pKey:=fun s=>s.1.length≤64∧s.2.length≤4∧∀ t ∈ s.2,t.2.1.length≤100∧t.2.2.1.length≤100∧t.2.2.2.1.length≤100
 all:=allF
 okM:=fun m=>OkP m.1
 ends:=endsG (fun l=>List.mergeSort (α:=EnD) l fun x y=>!(Go.Proofs.ltOf cmpEF) y x) compL
 bM:=fun m=>bW m.1
 way:=wayG
 pWay:=fun p _=>bW p
 over:=overF
 waR:=waRF
 okW2:=okWF
 bsT:=bsTF
theorem h86:SpecOk prog 151 (S86 FF):=ok86 FF rfl
theorem h92:SpecOk prog 152 (S92 FF):=ok92 FF rfl rfl h86
theorem h120:SpecOk prog 188 (S120 FF):=ok120 FF rfl
theorem h84:SpecOk prog 158 (S84 FF):=ok84 FF rfl rfl rfl rfl h86 h92 h120
theorem h87:SpecOk prog 149 (S87 FF):=ok87 FF rfl rfl rfl h92
theorem h38:SpecOk prog 98 (S22 FF):=ok38 FF rfl rfl rfl rfl rfl rfl h84 h86 h87
theorem h76:XOk prog 113 (R76 FF).x:=ok76 FF rfl
theorem h79:SpecOk prog 99 (S79 FF):=ok79 FF rfl rfl rfl h76
theorem h146:ItOk prog 240 (I146 FF):=ok146 FF rfl rfl
theorem h101:SpecOk prog 233 (S101 FF):=ok101 FF rfl rfl rfl rfl h146
theorem h143:SpecOk prog 195 (S143 FF):=ok143 FF rfl rfl rfl h86
theorem h157:SpecOk prog 214 (S157 FF):=ok157 FF rfl rfl rfl rfl rfl rfl h101 h143
theorem h136:SpecOk prog 192 (S136 FF):=ok136 FF rfl rfl rfl rfl h157
theorem h135:ItOk prog 191 (I135 FF):=ok135 FF rfl rfl rfl rfl h136
theorem h90:SpecOk prog 100 (S90 FF):=ok90 FF rfl rfl rfl h135
theorem h134:SpecOk prog 212 (S134 FF):=ok134 FF rfl
theorem h141:XOk prog 193 (R141 FF).x:=ok141 FF rfl
theorem h142:XOk prog 194 (R142 FF).x:=ok142 FF rfl
theorem h144:XOk prog 196 (mapcX acT):=ok144 FF
theorem h145:SpecOk prog 197 (S145 FF):=ok145 FF rfl rfl rfl rfl h92 h134
theorem h99:SpecOk prog 102 (S99 FF):=ok99 FF rfl rfl rfl rfl rfl rfl rfl rfl rfl rfl rfl rfl rfl rfl h76 h86 h92 h101 h134 h141 h142 h143 h144 h145
theorem h133:XOk prog 211 (R133 FF).x:=ok133 FF rfl rfl
theorem h109:SpecOk prog 177 (S109 FF):=ok109 FF rfl rfl rfl rfl rfl h133 h134
theorem h66:SpecOk prog 115 (S66 FF):=ok66 FF rfl rfl rfl rfl rfl rfl rfl rfl rfl rfl h79 h90 h99 h109
theorem h69:SpecOk prog 118 (S69 FF):=ok69 FF rfl rfl rfl h135
theorem h71:SpecOk prog 120 (S71 FF):=ok71 FF rfl rfl rfl h76
theorem h111:SpecOk prog 122 (S111 FF):=ok111 FF rfl rfl
theorem h112:SpecOk prog 124 (S112 FF):=ok112 FF rfl rfl
theorem h113:XOk prog 167 (R113 FF).x:=ok113 FF rfl rfl rfl rfl h112
theorem h114:SpecOk prog 178 (S114 FF):=ok114 FF rfl rfl
theorem h70:SpecOk prog 119 (S70 FF):=ok70 FF rfl rfl rfl rfl rfl rfl rfl h111 h112 h113 h114
theorem h106:XOk prog 172 (R106 FF).u:=ok106 FF rfl rfl rfl rfl h70
theorem h108:SpecOk prog 174 (S108 FF):=ok108 FF rfl rfl h70
theorem h107:XOk prog 173 (R107 FF).x:=ok107 FF rfl rfl rfl rfl h108
theorem h62:SpecOk prog 111 (S62 FF):=ok62 FF rfl rfl rfl rfl rfl (fun l=>List.mergeSort_perm l _) rfl rfl rfl rfl rfl rfl h38 h66 h69 h71 h106 h107
theorem h19:SpecOk prog 64 (S19 FF):=ok19 FF rfl rfl h62
theorem h20:SpecOk prog 50 (S20 FF):=ok20 FF rfl
theorem h54:SpecOk prog 37 (S86 FF):=ok54 FF rfl
theorem h63:SpecOk prog 84 (S92 FF):=ok63 FF rfl rfl h54
theorem h77:SpecOk prog 143 (S77 FF):=ok77 FF rfl rfl
theorem h78:SpecOk prog 144 (S78 FF):=ok78 FF rfl
theorem h64:SpecOk prog 97 (S84 FF):=ok64 FF rfl rfl rfl rfl rfl rfl h54 h63 h77 h78
theorem h75:SpecOk prog 110 (S75 FF):=ok75 FF rfl rfl
theorem h118:SpecOk prog 171 (S118 FF):=ok118 FF rfl rfl
theorem h74:SpecOk prog 109 (S74 FF):=ok74 FF rfl rfl rfl rfl rfl h75 h118
theorem h46:SpecOk prog 71 (S46 FF):=ok46 FF rfl rfl h74
theorem h126:SpecOk prog 163 (S126 FF):=ok126 FF rfl rfl rfl rfl h76 h141 h142
theorem h98:SpecOk prog 103 (S43 FF):=ok98 FF rfl rfl h126
theorem h51:SpecOk prog 69 (S51 FF):=ok51 FF rfl rfl rfl rfl rfl rfl rfl rfl rfl rfl rfl h38 h79 h90 h98 h99
end Go.Proofs.Tryz
namespace Go.Proofs
open Go.Shelf
def Tryz.growL_ren:Go.Shelf.Ren:=⟨fun | 4=>184 | n=>n,fun | 22=>22 | 25=>3 | 3=>3 | 4=>4 | 9=>9 | 20=>20 | 0=>0 | n=>n,fun | n=>n⟩
theorem Tryz.growL:Go.Proofs.Lays8.n4 Tryz.prog Tryz.growL_ren:={
 mixed:=by kernel_rfl
 f4:=⟨Tryz.f184.name,by decide,Tryz.func184.trans (congrArg some (by kernel_rfl))⟩
 t0:=Tryz.underlying0
 a0:=Tryz.isAgg0
 z0:=Tryz.sizeOf0
 v0:=Tryz.zeroValue0
 t3:=Tryz.underlying3
 a3:=Tryz.isAgg3
 z3:=Tryz.sizeOf3
 v3:=Tryz.zeroValue3
 t4:=Tryz.underlying4
 a4:=Tryz.isAgg4
 z4:=Tryz.sizeOf4
 v4:=Tryz.zeroValue4
 t9:=Tryz.underlying9
 a9:=Tryz.isAgg9
 z9:=Tryz.sizeOf9
 v9:=Tryz.zeroValue9
 t20:=Tryz.underlying20
 a20:=Tryz.isAgg20
 z20:=Tryz.sizeOf20
 v20:=Tryz.zeroValue20
 t22:=Tryz.underlying22
 a22:=Tryz.isAgg22
 z22:=Tryz.sizeOf22
 v22:=Tryz.zeroValue22 }
end Go.Proofs
