/- What functions of the weak memory compute, proved through the condition generator, and plain facts of it. Conditions: none of ours. -/
import Derived.Test.YtljepnnnjfalcaaGreatC27
import Derived.Test.YtljepnnnjfalcaaGreatC30
import Derived.Test.YtljepnnnjfalcaaGreatC24
set_option autoImplicit false
set_option maxRecDepth 100000
set_option linter.all false
namespace Go.Proofs.Tryz
open Go Go.VM
def ab176 (L:Lv) (I:Nat→Ds [It,It]→Prop) (mu:Ds [It,It]→Nat):Nat→Option IAnn
 | 0=>anY L [0,1,2,4,11,12] [] [.s 4 It,.s 12 It] I mu
 | _=>none
def ab66 (L:Lv) (I:Ds [.sl (.sl It),It]→Prop) (mu:Ds [.sl (.sl It),It]→Nat) (I2:Nat→Ds [.sl It]→Prop):Nat→LAnn
 | 0=>anH L [1,2,3,6,7,17,18] [(7,some 1,22,.sl It)] [.br 7 1 (.sl It),.s 18 It] I mu
 | 2=>anR L [6,7] [(7,some 2,3,It)] [.br 7 2 It] I2
 | _=>.no
def ab55 (L:Lv) (I:Ds [.sl Be,It]→Prop) (mu:Ds [.sl Be,It]→Nat):Nat→LAnn
 | 0=>anH L [2,4,27,28,29] [(2,none,31,Be)] [.r 2 Be,.s 29 It] I mu
 | _=>.no
def ib176 (L:Lv) (F:BxF) (M:BeF) (I:Nat→Ds [It,It]→Prop) (mu:Ds [It,It]→Nat) (l:Nat) (ws:List Int) (b:BlD)  : VC :=
 let z1:=b.1;
 let z2:=b.2.1;
 let z3:=b.2.2;
 let z4:=z3.1;
 let z5:=z3.2;
 let z6:=z5.1;
 let z7:=z5.2;
 let z8:=L.get It ws (L.toN 1);
 let z9:=L.cast (L.llen It z6);
 let z10:=Int × Unit; .obl (L.inR 1 (L.llen It ws)) (.obl (St.mk 38 [(0,V.c (C.yld l)),(1,V.ipt [C.sl It ws]),(2,V.ipt [C.int .i64 z1,C.int .i64 z2,
  C.sym z4,C.sl It z6,C.sl (Ty.sl It) z7]),(4,V.c (C.int .i64 z8)),(11,V.c (C.int .i64 z9)),(12,V.c (C.int .i64 0))] [(0,Ob.amb)] 1 = St.mk 38 [(0,
  V.c (C.yld l)),(1,V.ipt [C.sl It ws]),(2,V.ipt [C.int .i64 z1,C.int .i64 z2,C.sym z4,C.sl It z6,C.sl (Ty.sl It) z7]),(4,V.c (C.int .i64 z8)),(11,
  V.c (C.int .i64 z9)),(12,V.c (C.int .i64 0))] [(0,Ob.amb)] 1) (.obl (I 0 (L.get It ws (L.toN 1),0,())) (.all (Int × Int × Unit) fun (v1:Int × Int ×
  Unit) =>
 let z11:=v1.2.1;
 let z12:=v1.1;
 let z13:=L.ar .sub .i64 z12 1;
 let z14:=L.toN (BeF.bef M z13);
 let z15:=L.get It ws z14;
 let z16:=L.ar .add .i64 z11 1;
 let z17:=(L.get It ws z14,L.ar .add .i64 z11 1,()); .all Nat fun (v2:Nat)=>.imp (I v2 v1) (.br (L.cmp .lss z11 z9) (.br (L.cmp
  .lss z12 1) (.ok (v2 = L.cnt z10 (BeF.lst M b ws))) (.br (L.cmp .gtr z12 z9) (.ok (v2 = L.cnt z10 (BeF.lst M b ws))) (.obl (l = l) (.obl (L.nth
  z10 (BeF.lst M b ws) v2 (L.ar .sub .i64 z12 1,())) (.all Bool fun (v3:Bool)=>.br v3 (.obl (BeF.pBf M z13) (.obl (L.inR (BeF.bef M z13) (L.llen
  It ws)) (.ok (St.mk 38 [(0,V.c (C.yld l)),(1,V.ipt [C.sl It ws]),(2,V.ipt [C.int .i64 z1,C.int .i64 z2,C.sym z4,C.sl It z6,C.sl (Ty.sl It) z7]),(4,V.c
  (C.int .i64 z15)),(11,V.c (C.int .i64 z9)),(12,V.c (C.int .i64 z16))] [(0,Ob.amb)] 1 = St.mk 38 [(0,V.c (C.yld l)),(1,V.ipt [C.sl It ws]),(2,V.ipt
  [C.int .i64 z1,C.int .i64 z2,C.sym z4,C.sl It z6,C.sl (Ty.sl It) z7]),(4,V.c (C.int .i64 z15)),(11,V.c (C.int .i64 z9)),(12,V.c (C.int
  .i64 z16))] [(0,Ob.amb)] 1∧I (Nat.succ v2) z17∧mu z17 < mu v1)))) (.ok True)))))) (.ok (v2 = L.cnt z10 (BeF.lst M b ws)))))))
theorem ib176_go (L:Lv) (F:BxF) (M:BeF) (I:Nat→Ds [It,It]→Prop) (mu:Ds [It,It]→Nat) (l:Nat) (ws:List Int) (b:BlD) (h:VC.holds (ib176 L F M I mu l ws b)):Holds (iterVC L E01 (callG L E01 (only (tabO [] (eT F M)) [133]) 0) (spcOf (only (tabO [] (eT F M)) [133])) (Db176 a0).code (Db176 a0).ntmps (Db176 a0).pl (ab176 L I mu) (Ib176 M) l (ws,b,())):=Holds.of_eq (by kernel_rfl) h
def nb66 (L:Lv) (F:BxF) (M:BeF) (I:Ds [.sl (.sl It),It]→Prop) (mu:Ds [.sl (.sl It),It]→Nat) (I2:Nat→Ds [.sl It]→Prop) (b:BlD) (ws:List Int) (t:List (List Int))  : VC :=
 let z1:=b.2;
 let z2:=z1.2;
 let z3:=z2.2;
 let z4:=z3.1;
 let z5:=L.cast (L.llen It z4);
 let z6:=b.1;
 let z7:=z1.1;
 let z8:=z2.1;
 let z9:=z3.2;
 let z10:=L.get It ws (L.toN 0);
 let z11:=(Prod.fst b,z1.1,z2.1,z3.1,z3.2);
 let z12:=Int × Unit; .obl (L.inR 0 (L.llen It ws)) (.obl (St.mk 43 [(1,V.c (C.sl It ws)),(2,V.c (C.sl (Ty.sl It) t)),(3,V.c (C.ptr 1 0)),(6,V.c (C.ptr 2 0)),(7,
  V.c (C.ptr 3 0)),(17,V.c (C.int .i64 z5)),(18,V.c (C.int .i64 0))] [(0,Ob.amb),(1,Ob.box 106 [C.int .i64 z6,C.int .i64 z7,C.sym z8,C.sl It
  z4,C.sl (Ty.sl It) z9]),(2,Ob.box 31 [C.int .i64 0,C.nils,C.nils]),(3,Ob.box 31 [C.int .i64 z10,C.own 5 0,C.nils]),(5,Ob.row 22 (Ty.sl It) [])] 6 = St.mk
  43 [(1,V.c (C.sl It ws)),(2,V.c (C.sl (Ty.sl It) t)),(3,V.c (C.ptr 1 0)),(6,V.c (C.ptr 2 0)),(7,V.c (C.ptr 3 0)),(17,V.c (C.int .i64 z5)),(18,V.c (C.int
  .i64 0))] [(0,Ob.amb),(1,Ob.box 106 [C.int .i64 z6,C.int .i64 z7,C.sym z8,C.sl It z4,C.sl (Ty.sl It) z9]),(2,Ob.box 31 [C.int .i64 0,C.nils,
  C.nils]),(3,Ob.box 31 [C.int .i64 z10,C.own 5 (L.llen (Ty.sl It) []),C.nils]),(5,Ob.row 22 (Ty.sl It) [])] 6) (.obl (I ([],0,())) (.all (List (List Int) ×
  Int × Unit) fun (v1:List (List Int) × Int × Unit) =>
 let z13:=v1.2.1;
 let z14:=L.get (Ty.sl It) t (L.toN z13);
 let z15:=v1.1;
 let z16:=L.llen (Ty.sl It) z15;
 let z17:=L.take (Ty.sl It) z15 z16;
 let z18:=L.take (Ty.sl It) [L.take It z14 (L.llen It z14)] 1;
 let z19:=L.add (L.llen (Ty.sl It) z17) (L.llen (Ty.sl It) z18);
 let z20:=L.ar .add .i64 z13 1;
 let z21:=L.app (Ty.sl It) z17 z18;
 let z22:=(L.app (Ty.sl It) z17 z18,L.ar .add .i64 z13 1,()); .imp (I v1) (.br (L.cmp .lss z13 z5) (.obl (L.inR z13 (L.llen (Ty.sl It) t))
  (.obl (BxF.pLi F z14) (.obl (L.room z19 24) (.ok (St.mk 43 [(1,V.c (C.sl It ws)),(2,V.c (C.sl (Ty.sl It) t)),(3,V.c (C.ptr 1 0)),(6,V.c (C.ptr 2 0)),(7,V.c
  (C.ptr 3 0)),(17,V.c (C.int .i64 z5)),(18,V.c (C.int .i64 z20))] [(0,Ob.amb),(1,Ob.box 106 [C.int .i64 z6,C.int .i64 z7,C.sym z8,C.sl It z4,
  C.sl (Ty.sl It) z9]),(2,Ob.box 31 [C.int .i64 0,C.nils,C.nils]),(3,Ob.box 31 [C.int .i64 z10,C.own 5 z19,C.nils]),(5,Ob.row 22 (Ty.sl It) z21)] 6 = St.mk
  43 [(1,V.c (C.sl It ws)),(2,V.c (C.sl (Ty.sl It) t)),(3,V.c (C.ptr 1 0)),(6,V.c (C.ptr 2 0)),(7,V.c (C.ptr 3 0)),(17,V.c (C.int .i64 z5)),(18,V.c (C.int
  .i64 z20))] [(0,Ob.amb),(1,Ob.box 106 [C.int .i64 z6,C.int .i64 z7,C.sym z8,C.sl It z4,C.sl (Ty.sl It) z9]),(2,Ob.box 31 [C.int .i64 0,
  C.nils,C.nils]),(3,Ob.box 31 [C.int .i64 z10,C.own 5 (L.llen (Ty.sl It) z21),C.nils]),(5,Ob.row 22 (Ty.sl It) z21)] 6∧I z22∧mu z22 < mu v1))))) (.obl
  (BeF.pIt M z11 ws) (.obl (St.mk 43 [(6,V.c (C.ptr 2 0)),(7,V.c (C.ptr 3 0))] [(0,Ob.amb),(1,Ob.box 106 [C.int .i64 z6,C.int .i64 z7,C.sym z8,C.sl It z4,
  C.sl (Ty.sl It) z9]),(2,Ob.box 31 [C.int .i64 0,C.nils,C.nils]),(3,Ob.box 31 [C.int .i64 z10,C.own 5 z16,C.own 9 0]),(5,Ob.row 22 (Ty.sl It) z15),(9,
  Ob.row 3 It [])] 10 = St.mk 43 [(6,V.c (C.ptr 2 0)),(7,V.c (C.ptr 3 0))] [(0,Ob.amb),(1,Ob.box 106 [C.int .i64 z6,C.int .i64 z7,C.sym z8,C.sl It z4,C.sl
  (Ty.sl It) z9]),(2,Ob.box 31 [C.int .i64 0,C.nils,C.nils]),(3,Ob.box 31 [C.int .i64 z10,C.own 5 z16,C.own 9 (L.llen It [])]),(5,Ob.row 22 (Ty.sl It)
  z15),(9,Ob.row 3 It [])] 10) (.obl (I2 0 ([],())) (.all Bool fun (v2:Bool)=>.br v2 (.all (List Int × Unit) fun (v3:List Int × Unit) =>
 let z23:=L.take It v3.1 (L.llen It v3.1);
 let z24:=L.llen It z23; .all Nat fun (v4:Nat)=>.all z12 fun (v5:Int × Unit) =>
 let z25:=L.take It [Prod.fst v5] 1;
 let z26:=L.add z24 (L.llen It z25);
 let z27:=L.app It z23 z25; .imp (L.nth z12 (BeF.lst M z11 ws) v4 v5∧I2 v4 v3) (.obl (L.room z26 8) (.ok (St.mk 43 [(6,V.c (C.ptr 2 0)),(7,V.c (C.ptr 3 0))]
  [(0,Ob.amb),(1,Ob.box 106 [C.int .i64 z6,C.int .i64 z7,C.sym z8,C.sl It z4,C.sl (Ty.sl It) z9]),(2,Ob.box 31 [C.int .i64 0,C.nils,C.nils]),(3,
  Ob.box 31 [C.int .i64 z10,C.own 5 z16,C.own 9 z26]),(5,Ob.row 22 (Ty.sl It) z15),(9,Ob.row 3 It z27)] 10 = St.mk 43 [(6,V.c (C.ptr 2 0)),(7,V.c (C.ptr 3 0))] [(0,
  Ob.amb),(1,Ob.box 106 [C.int .i64 z6,C.int .i64 z7,C.sym z8,C.sl It z4,C.sl (Ty.sl It) z9]),(2,Ob.box 31 [C.int .i64 0,C.nils,C.nils]),(3,Ob.box
  31 [C.int .i64 z10,C.own 5 z16,C.own 9 (L.llen It z27)]),(5,Ob.row 22 (Ty.sl It) z15),(9,Ob.row 3 It z27)] 10∧I2 (Nat.succ v4) (L.app It z23 z25,())))))
  (.all (List Int × Unit) fun (v6:List Int × Unit)=>.imp (I2 (L.cnt z12 (BeF.lst M z11 ws)) v6) (.ok (((L.get It ws (L.toN 0),L.take (Ty.sl It) z15 z16,
  L.take It v6.1 (L.llen It v6.1)),()) = (BeF.view M b ws t,()))))))))))))
theorem nb66_go (L:Lv) (F:BxF) (M:BeF) (I:Ds [.sl (.sl It),It]→Prop) (mu:Ds [.sl (.sl It),It]→Nat) (I2:Nat→Ds [.sl It]→Prop) (b:BlD) (ws:List Int) (t:List (List Int)) (h:VC.holds (nb66 L F M I mu I2 b ws t)):Holds (vcE L F M [] [113,114,176] 3 (Db66 (ab66 L I mu I2)) (Sb66 M) (b,ws,t,())):=Holds.of_eq (by kernel_rfl) h
def nb17 (L:Lv) (F:BxF) (M:BeF) (b:BlD) (l:List Int)  : VC :=
 let z1:=b.2.2;
 let z2:=z1.2;
 let z3:=(Prod.fst b,b.2.1,z1.1,z2.1,z2.2);
 let z4:=Prod.snd (BeF.run M b l);
 let z5:=(Prod.fst (BeF.run M b l),z4.1,z4.2,());
 let z6:=Prod.snd (BeF.prg M z3);
 let z7:=(Prod.fst (BeF.prg M z3),z6.1,z6.2);
 let z8:=BxF.runE F z7 l;
 let z9:=z8.2;
 let z10:=z8.1;
 let z11:=(Prod.fst z10,z10.2);
 let z12:=z10.1;
 let z13:=Prod.snd (BeF.view M z3 z12 (BeF.told M z11)); .obl (BeF.bB M z3) (.br (L.cmp .neq (BeF.chk M z3) 0) (.ok (((0,[],[]),0,BeF.chk M z3,()) = z5))
  (.obl (BeF.pP M z3) (.obl (BxF.pRunR F z7 l) (.br (L.cmp .neq z9.2 0) (.ok (((0,[],[]),0,z9.2,()) = z5)) (.obl (BxF.bs F z11) (.obl
  (BeF.pV M z3 z12 (BeF.told M z11)) (.ok (((Prod.fst (BeF.view M z3 z12 (BeF.told M z11)),z13.1,z13.2),z9.1,0,()) = z5))))))))
theorem nb17_go (L:Lv) (F:BxF) (M:BeF) (b:BlD) (l:List Int) (h:VC.holds (nb17 L F M b l)):Holds (vcE L F M [] [62,63,66,69,70] 3 (Db17 a0) (Sb17 M) (b,l,())):=Holds.of_eq (by kernel_rfl) h
def nb55 (L:Lv) (F:BxF) (M:BeF) (I:Ds [.sl Be,It]→Prop) (mu:Ds [.sl Be,It]→Nat) (b:BlD)  : VC :=
 let z1:=b.2;
 let z2:=z1.2;
 let z3:=z2.2;
 let z4:=(Prod.fst b,z1.1,z2.1,z3.1,z3.2);
 let z5:=(Prod.fst (BeF.ends M b),Prod.snd (BeF.ends M b),());
 let z6:=Prod.snd (BeF.prg M z4);
 let z7:=(Prod.fst (BeF.prg M z4),z6.1,z6.2);
 let z8:=(BxF.ends F (z7,false));
 let z9:=z8.2;
 let z10:=z8.1;
 let z11:=L.llen En z10;
 let z12:=L.cast z11;
 let z13:=b.1;
 let z14:=z1.1;
 let z15:=z2.1;
 let z16:=z3.1;
 let z17:=z3.2;
 let z18:=Int × List (List Int) × List Int; .obl (BeF.bB M z4) (.br (L.cmp .neq (BeF.chk M z4) 0) (.ok (([],BeF.chk M z4,()) = z5)) (.obl (BeF.pP M z4) (.obl
  (BxF.bw F z7) (.br (L.cmp .neq z9.2 0) (.ok (([],z9.2,()) = z5)) (.obl (St.mk 47 [(2,V.c (C.own 4 0)),(4,V.c (C.ptr 2 0)),(27,V.c (C.sl En
  z10)),(28,V.c (C.int .i64 z12)),(29,V.c (C.int .i64 0))] [(0,Ob.amb),(1,Ob.box 28 [C.int .i64 z13,C.int .i64 z14,C.sym z15,C.sl It z16,C.sl
  (Ty.sl It) z17]),(2,Ob.box 106 [C.int .i64 z13,C.int .i64 z14,C.sym z15,C.sl It z16,C.sl (Ty.sl It) z17]),(4,Ob.row 31 Be [])] 5 = St.mk 47 [(2,V.c (C.own
  4 (L.llen Be []))),(4,V.c (C.ptr 2 0)),(27,V.c (C.sl En z10)),(28,V.c (C.int .i64 z12)),(29,V.c (C.int .i64 0))] [(0,Ob.amb),(1,Ob.box 28 [C.int
  .i64 z13,C.int .i64 z14,C.sym z15,C.sl It z16,C.sl (Ty.sl It) z17]),(2,Ob.box 106 [C.int .i64 z13,C.int .i64 z14,C.sym z15,C.sl It z16,C.sl
  (Ty.sl It) z17]),(4,Ob.row 31 Be [])] 5) (.obl (I ([],0,())) (.all (List z18 × Int × Unit) fun (v1:List (Int × List (List Int) × List Int) × Int × Unit) =>
 let z19:=v1.2.1;
 let z20:=L.get En z10 (L.toN z19);
 let z21:=z20.1;
 let z22:=z20.2.1;
 let z23:=v1.1;
 let z24:=L.take Be z23 (L.llen Be z23);
 let z25:=Prod.snd (BeF.view M z4 z21 z22);
 let z26:=(L.take Be [(Prod.fst (BeF.view M z4 z21 z22),z25.1,z25.2)] 1);
 let z27:=L.add (L.llen Be z24) (L.llen Be z26);
 let z28:=L.ar .add .i64 z19 1;
 let z29:=L.app Be z24 z26;
 let z30:=(L.app Be z24 z26,L.ar .add .i64 z19 1,()); .imp (I v1) (.br (L.cmp .lss z19 z12) (.obl (L.inR z19 z11) (.obl (BeF.pV M z4 z21
  z22) (.obl (L.room z27 56) (.ok (St.mk 47 [(2,V.c (C.own 4 z27)),(4,V.c (C.ptr 2 0)),(27,V.c (C.sl En z10)),(28,V.c (C.int .i64 z12)),(29,V.c (C.int
  .i64 z28))] [(0,Ob.amb),(1,Ob.box 28 [C.int .i64 z13,C.int .i64 z14,C.sym z15,C.sl It z16,C.sl (Ty.sl It) z17]),(2,Ob.box 106 [C.int .i64
  z13,C.int .i64 z14,C.sym z15,C.sl It z16,C.sl (Ty.sl It) z17]),(4,Ob.row 31 Be z29)] 5 = St.mk 47 [(2,V.c (C.own 4 (L.llen Be z29))),(4,V.c (C.ptr 2 0)),(27,
  V.c (C.sl En z10)),(28,V.c (C.int .i64 z12)),(29,V.c (C.int .i64 z28))] [(0,Ob.amb),(1,Ob.box 28 [C.int .i64 z13,C.int .i64 z14,C.sym z15,
  C.sl It z16,C.sl (Ty.sl It) z17]),(2,Ob.box 106 [C.int .i64 z13,C.int .i64 z14,C.sym z15,C.sl It z16,C.sl (Ty.sl It) z17]),(4,Ob.row 31 Be z29)] 5∧I z30
  ∧ mu z30 < mu v1))))) (.obl (31 = 31∧L.llen Be z23 = L.llen Be z23∧BeF.bEs M z23) (.obl (31 = 31∧L.llen Be z23 = L.llen Be (BeF.sortB M z23)∧BeF.bEs M
  (BeF.sortB M z23)) (.ok ((L.take Be (BeF.compB M (BeF.sortB M z23)) (L.llen Be (BeF.compB M (BeF.sortB M z23))),0,()) = z5))))))))))))
theorem nb55_go (L:Lv) (F:BxF) (M:BeF) (I:Ds [.sl Be,It]→Prop) (mu:Ds [.sl Be,It]→Nat) (b:BlD) (h:VC.holds (nb55 L F M I mu b)):Holds (vcE L F M [] [62,63,64,66,104,105,106,107] 3 (Db55 (ab55 L I mu)) (Sb55 M) (b,())):=Holds.of_eq (by kernel_rfl) h
theorem okb176 (F:BxF) (M:BeF) (h:M.lst = lstF) (q:M.pIt = pItF) (h1:M.bef = fun i=>2 + 2 * i) (q1:M.pBf = pBfF) (k1:SpecOk prog 133 (Sb133 M)):ItOk prog 176 (Ib176 M):=by
 let I:List Int→BlD→Nat→Int × Int × Unit→Prop:=fun ws b j x=>j≤(lstF b ws).length∧(0≤x.2.1∧x.2.1≤b.2.2.2.1.length)∧(lstF b ws).drop j = lstN b.2.2.2.1.length ws (b.2.2.2.1.length - x.2.1.toNat) x.1
 let mu:List Int→BlD→Int × Int × Unit→Nat:=fun ws b x=>(b.2.2.2.1.length - x.2.1).toNat
 refine iter_by hm hE (fnokb176 a0) rfl (Ib176 M) rfl (fns:=only (tabO [] (eT F M)) [133]) (Zs (Za (Yh k1 (by kernel_rfl)) Z4)) 0 (fun x=>ab176 Lv.std (I x.1 x.2.1) (mu x.1 x.2.1)) ?_
 rintro l ⟨ws,b,⟨⟩⟩ hpre
 have hpre':M.pIt b ws:=hpre
 rw [q] at hpre'
 obtain ⟨⟨g1,g2,g3⟩,g4⟩:=hpre'
 refine ib176_go Lv.std F M (I ws b) (mu ws b) l ws b ?_
 simp only [ib176,VC.holds,ZJ,ZO,Zb,Zh,Zm,Yj,Ym,Z5,ZM,Yl,Yk,Yf,ZX,ZY,ZT,ZR,Ye,ZN,Zz,ZD,Zr,Z1,ZS,Z2,ZK,ZW,Yb,ZV,ZP,ZQ,Zt,ZH,Ya,Z3,ZI,Yd,Yc,Z6,Z7,Zg,ZC,ZL,ZU,Z8,Z9,Zd,Ze,ZA,ZB,Zu,Zv,Zx,Zy,Zk,Zl,Zp,Zq,Zi,Zj,Zn,Zo,ZG,ZF,ZZ,Yg,ZE,h,h1,q1,Prod.mk.injEq,and_true,true_and]
 refine ⟨⟨by omega,by omega⟩,⟨Nat.zero_le _,⟨Int.le_refl 0,by show (0:Int)≤b.2.2.2.1.length; omega⟩,by show (lstF b ws).drop 0 = lstN _ _ (b.2.2.2.1.length - (0:Int).toNat) _; rfl⟩,?_⟩
 rintro ⟨n,x,⟨⟩⟩ j ⟨i1,⟨i2,i2'⟩,i3⟩
 simp only at i2 i2' i3 ⊢
 obtain ⟨k,rfl⟩:=Yq i2
 rw [Int.toNat_natCast] at i3
 refine ⟨fun hlt=>?_,fun hge=>?_⟩
 ·obtain ⟨f,hf⟩:∃ f,b.2.2.2.1.length - k = f + 1:=⟨b.2.2.2.1.length - k - 1,by omega⟩
  rw [hf,lstN] at i3
  refine ⟨fun hc=>?_,fun hc=>⟨fun hd=>?_,fun hd=>?_⟩⟩
  ·rw [if_pos (.inl hc)] at i3; exact dropN i3 i1
  ·rw [if_pos (.inr hd)] at i3; exact dropN i3 i1
  ·rw [if_neg (by omega)] at i3
   obtain ⟨d1,d2,d3⟩:=dropC i3
   have wn:IntKind.i64.wrap (n - 1) = n - 1:=Yn (by omega) (by omega)
   rw [wn]
   refine ⟨d1,fun c=>⟨fun _=>⟨⟨by omega,by omega⟩,⟨by omega,by omega⟩,?_⟩,fun _=>trivial⟩⟩
   rw [wr hlt (by omega)]
   refine ⟨⟨d3,⟨by show (0:Int)≤((k + 1:Nat):Int); omega,by show ((k + 1:Nat):Int)≤b.2.2.2.1.length; omega⟩,?_⟩,by show ((b.2.2.2.1.length:Int) - ((k + 1:Nat):Int)).toNat < ((b.2.2.2.1.length:Int) - k).toNat; omega⟩
   show (lstF b ws).drop (j + 1) = lstN _ ws (b.2.2.2.1.length - ((k + 1:Nat):Int).toNat) _
   rw [Int.toNat_natCast,show b.2.2.2.1.length - (k + 1) = f by omega,d2]
 ·rw [show b.2.2.2.1.length - k = 0 by omega,lstN] at i3
  exact dropN i3 i1
theorem okb66 (F:BxF) (M:BeF) (h:M.view = viewF) (h1:M.lst = lstF) (q:M.pV = pVF) (q1:M.pIt = pItF) (q2:F.pLi = fun l=>l.length≤1000000) (k1:XOk prog 113 (R76 F).x) (k2:ItOk prog 176 (Ib176 M)):SpecOk prog 66 (Sb66 M):=by
 refine Zc hm hE Db66 fnokb66 _ fun (z:BlD × List Int × List (List Int) × Unit) hpre=>?_
 obtain ⟨b,ws,t,⟨⟩⟩:=z
 have hpre':M.pV b ws t:=hpre
 rw [q] at hpre'
 obtain ⟨⟨⟨g1,g2,g3⟩,g4⟩,g5,g6⟩:=hpre'
 let f:Nat→List Int:=fun i=>(t[i]?).getD []
 let I:List (List Int) × Int × Unit→Prop:=fun x=>(0≤x.2.1∧x.2.1≤b.2.2.2.1.length)∧x.1 = (List.range x.2.1.toNat).map f
 let mu:List (List Int) × Int × Unit→Nat:=fun x=>(b.2.2.2.1.length - x.2.1).toNat
 let I2:Nat→List Int × Unit→Prop:=fun j x=>x.1 = ((lstF b ws).take j).map Prod.fst
 refine Yp _ 3 (ab66 Lv.std I mu I2) (Zs (T:=tabO [] (eT F M)) (l:=[113,114,176]) (Za (XB k1 (by kernel_rfl)) (Za (Yy (fnokb114 a0) (by kernel_rfl)) (Za (tb_it k2 (by kernel_rfl)) Z4)))) ?_
 refine nb66_go Lv.std F M I mu I2 b ws t ?_
 simp only [nb66,VC.holds,ZJ,ZO,Zb,Zh,Zm,Yj,Ym,Z5,ZM,Yl,Yk,Yf,ZX,ZY,ZT,ZR,Ye,ZN,Zz,ZD,Zr,Z1,ZS,Z2,ZK,ZW,Yb,ZV,ZP,ZQ,Zt,ZH,Ya,Z3,ZI,Yd,Yc,Z6,Z7,Zg,ZC,ZL,ZU,Z8,Z9,Zd,Ze,ZA,ZB,Zu,Zv,Zx,Zy,Zk,Zl,Zp,Zq,Zi,Zj,Zn,Zo,ZG,ZF,ZZ,Yg,ZE,h,h1,q1,q2,pe5,List.take_length,List.take_succ_cons,List.take_zero,List.length_append,List.length_cons,List.length_nil,Nat.zero_add,Prod.mk.injEq,and_true,true_and]
 refine ⟨⟨Int.le_refl 0,by omega⟩,⟨⟨Int.le_refl 0,by show (0:Int)≤b.2.2.2.1.length; omega⟩,rfl⟩,?_⟩
 rintro ⟨l,x,⟨⟩⟩ ⟨⟨i1,i2⟩,i3⟩
 simp only at i1 i2 i3 ⊢
 obtain ⟨j,rfl⟩:=Yq i1
 rw [Int.toNat_natCast] at i3 ⊢
 have hl:l.length = j:=by rw [i3,List.length_map,List.length_range]
 refine ⟨fun hlt=>?_,fun hge=>⟨⟨⟨g1,g2,g3⟩,g4⟩,rfl,fun b2=>⟨fun _=>?_,fun _=>?_⟩⟩⟩
 ·have hj:j < t.length:=by omega
  rw [wr hlt (by omega)]
  refine ⟨⟨by omega,by omega⟩,by rw [List.getElem?_eq_getElem hj]; exact g6 _ (List.getElem_mem hj),⟨by omega,by omega⟩,⟨⟨by show (0:Int)≤((j + 1:Nat):Int); omega,by show ((j + 1:Nat):Int)≤b.2.2.2.1.length; omega⟩,?_⟩,by show ((b.2.2.2.1.length:Int) - ((j + 1:Nat):Int)).toNat < ((b.2.2.2.1.length:Int) - j).toNat; omega⟩
  show l ++ [(t[j]?).getD []] = (List.range ((j + 1:Nat):Int).toNat).map f
  rw [Int.toNat_natCast,range_map,i3]
 ·rintro ⟨r,⟨⟩⟩ n ⟨y,⟨⟩⟩ ⟨hy,hr⟩
  have hr:r = ((lstF b ws).take n).map Prod.fst:=hr
  have hn:n < (lstF b ws).length:=(List.getElem?_eq_some_iff.1 hy).1
  have hL:=lstN_len b.2.2.2.1.length ws b.2.2.2.1.length ((ws[1]?).getD 0)
  have hL:(lstF b ws).length≤b.2.2.2.1.length:=hL
  have hrl:r.length = n:=by rw [hr,List.length_map,List.length_take]; omega
  refine ⟨⟨by show r.length + 1≤_; omega,by show (r.length + 1) * 8≤_; omega⟩,?_⟩
  show r ++ [y] = ((lstF b ws).take (n + 1)).map Prod.fst
  rw [List.take_succ,hy,List.map_append,← hr]; rfl
 ·rintro ⟨r,⟨⟩⟩ hr
  have hr:r = ((lstF b ws).take (lstF b ws).length).map Prod.fst:=hr
  rw [List.take_length] at hr
  rw [hr,i3,show j = b.2.2.2.1.length by omega]
  rfl
theorem okb17 (F:BxF) (M:BeF) (h:M.run = runBF) (h1:M.chk = chkB) (h2:M.prg = prgF) (h3:M.view = viewF) (h4:M.told = toldF) (h5:F.runE = runF) (q:M.pRun = fun b l=>bBF b∧l.length≤1000000) (q1:M.bB = bBF) (q2:M.pP = bBF) (q3:F.pRunR = fun p l=>bW p∧l.length≤1000000) (q4:F.bs = bS) (q5:M.pV = pVF)
  (k1:SpecOk prog 62 (Sb62 M)) (k2:SpecOk prog 63 (Sb63 M)) (k3:SpecOk prog 66 (Sb66 M)) (k4:SpecOk prog 69 (S51 F)) (k5:SpecOk prog 70 (Sb70 F M)):SpecOk prog 17 (Sb17 M):=by
 refine Zc hm hE Db17 fnokb17 _ fun (z:BlD × List Int × Unit) hpre=>?_
 obtain ⟨b,l,⟨⟩⟩:=z
 have hpre':M.pRun b l:=hpre
 rw [q] at hpre'
 obtain ⟨hb,hl⟩:=hpre'
 refine Yp _ 3 a0 (Zs (T:=tabO [] (eT F M)) (l:=[62,63,66,69,70]) (Za (Yh k1 (by kernel_rfl)) (Za (Yh k2 (by kernel_rfl)) (Za (Yh k3 (by kernel_rfl)) (Za (Yh k4 (by kernel_rfl)) (Za (Yh k5 (by kernel_rfl)) Z4)))))) ?_
 refine nb17_go Lv.std F M b l ?_
 simp only [nb17,VC.holds,ZJ,ZO,Zb,Zh,Zm,Yj,Ym,Z5,ZM,Yl,Yk,Yf,ZX,ZY,ZT,ZR,Ye,ZN,Zz,ZD,Zr,Z1,ZS,Z2,ZK,ZW,Yb,ZV,ZP,ZQ,Zt,ZH,Ya,Z3,ZI,Yd,Yc,Z6,Z7,Zg,ZC,ZL,ZU,Z8,Z9,Zd,Ze,ZA,ZB,Zu,Zv,Zx,Zy,Zk,Zl,Zp,Zq,Zi,Zj,Zn,Zo,ZG,ZF,ZZ,Yg,ZE,h,h1,h2,h3,h4,h5,q1,q2,q3,q4,q5,pe5,runBF,Prod.mk.injEq,and_true,true_and]
 refine ⟨hb,fun c=>by rw [if_pos c]; exact ⟨rfl,rfl,rfl⟩,fun c=>⟨hb,⟨prg_bW hb,hl⟩,fun d=>by rw [if_neg (by omega),if_pos d]; exact ⟨rfl,rfl,rfl⟩,fun d=>?_⟩⟩
 have ho:=runF_okS d
 rw [if_neg (by omega),if_neg (by omega)]
 have hc:checkF (prgF b) = 0:=by
  rcases Int.decEq (checkF (prgF b)) 0 with h0 | h0
  ·exfalso; unfold runF at d; rw [if_pos h0] at d; exact h0 d
  ·exact h0
 exact ⟨ok_bS ((okP_iff _).1 hc) ho,okS_view hb ho,rfl,rfl,rfl⟩
theorem okb55 (F:BxF) (M:BeF) (h:M.ends = endsBG F.ends M.sortB M.compB) (h1:M.chk = chkB) (h2:M.prg = prgF) (h3:M.view = viewF) (hF:F.ends = endsG F.sort compL) (hs:∀ l,(F.sort l).Perm l) (ht:∀ l,(M.sortB l).Perm l) (q1:M.bB = bBF) (q2:M.pP = bBF) (q3:F.bw = bW) (q5:M.pV = pVF) (q6:M.bEs = bEsF)
  (k1:SpecOk prog 62 (Sb62 M)) (k2:SpecOk prog 63 (Sb63 M)) (k3:SpecOk prog 64 (S19 F)) (k4:SpecOk prog 66 (Sb66 M)) (k5:XOk prog 104 (Rb104 M).u) (k6:SpecOk prog 105 (Sb105 M)) (k7:XOk prog 106 (Rb106 M).x) (k8:SpecOk prog 107 (Sb107 M)):SpecOk prog 55 (Sb55 M):=by
 refine Zc hm hE Db55 fnokb55 _ fun (z:BlD × Unit) hpre=>?_
 obtain ⟨b,⟨⟩⟩:=z
 have hpre':M.bB b:=hpre
 rw [q1] at hpre'
 obtain ⟨E,hEd⟩:∃ E,E = (F.ends (prgF b,false)).1:=⟨_,rfl⟩
 let I:List BeD × Int × Unit→Prop:=fun x=>(0≤x.2.1∧x.2.1≤E.length)∧x.1 = (E.take x.2.1.toNat).map fun e=>viewF b e.1 e.2.1
 let mu:List BeD × Int × Unit→Nat:=fun x=>(E.length - x.2.1).toNat
 refine Yp _ 3 (ab55 Lv.std I mu) (Zs (T:=tabO [] (eT F M)) (l:=[62,63,64,66,104,105,106,107]) (Za (Yh k1 (by kernel_rfl)) (Za (Yh k2 (by kernel_rfl)) (Za (Yh k3 (by kernel_rfl)) (Za (Yh k4 (by kernel_rfl)) (Za (XB k5 (by kernel_rfl)) (Za (Yh k6 (by kernel_rfl)) (Za (XB k7 (by kernel_rfl)) (Za (Yh k8 (by kernel_rfl)) Z4))))))))) ?_
 refine nb55_go Lv.std F M I mu b ?_
 simp only [nb55,VC.holds,ZJ,ZO,Zb,Zh,Zm,Yj,Ym,Z5,ZM,Yl,Yk,Yf,ZX,ZY,ZT,ZR,Ye,ZN,Zz,ZD,Zr,Z1,ZS,Z2,ZK,ZW,Yb,ZV,ZP,ZQ,Zt,ZH,Ya,Z3,ZI,Yd,Yc,Z6,Z7,Zg,ZC,ZL,ZU,Z8,Z9,Zd,Ze,ZA,ZB,Zu,Zv,Zx,Zy,Zk,Zl,Zp,Zq,Zi,Zj,Zn,Zo,ZG,ZF,ZZ,Yg,ZE,h1,h2,h3,q1,q2,q3,q5,q6,pe5,← hEd,h,endsBG,List.take_length,List.take_succ_cons,List.take_zero,List.length_append,List.length_cons,List.length_nil,Nat.zero_add,Prod.mk.injEq,and_true,true_and]
 have eE:E.length≤20000:=by rw [hEd,hF]; exact endsG_len hs
 have pv:∀ e ∈ E,pVF b e.1 e.2.1:=fun e he=>by
  rw [hEd,hF] at he
  obtain ⟨s,h1,rfl⟩:=endsG_mem hs he
  exact end_view hpre' h1
 refine ⟨hpre',fun c=>by rw [if_pos c]; exact ⟨rfl,rfl⟩,fun c=>⟨hpre',prg_bW hpre',fun d=>by rw [if_neg (by omega),if_pos d]; exact ⟨rfl,rfl⟩,fun d=>⟨⟨⟨Int.le_refl 0,by show (0:Int)≤E.length; omega⟩,rfl⟩,?_⟩⟩⟩
 rw [if_neg (by omega),if_neg (by omega)]
 rintro ⟨l,x,⟨⟩⟩ ⟨⟨i1,i2⟩,i3⟩
 simp only at i1 i2 i3 ⊢
 obtain ⟨j,rfl⟩:=Yq i1
 rw [Int.toNat_natCast] at i3 ⊢
 have hl:l.length = j:=by rw [i3,List.length_map,List.length_take]; omega
 refine ⟨fun hlt=>?_,fun hge=>?_⟩
 ·have hj:j < E.length:=by omega
  rw [wr hlt (by omega),List.getElem?_eq_getElem hj,Option.getD_some]
  refine ⟨⟨by omega,hlt⟩,pv _ (List.getElem_mem hj),⟨by omega,by omega⟩,⟨⟨by show (0:Int)≤((j + 1:Nat):Int); omega,by show ((j + 1:Nat):Int)≤E.length; omega⟩,?_⟩,by show ((E.length:Int) - ((j + 1:Nat):Int)).toNat < ((E.length:Int) - j).toNat; omega⟩
  show l ++ [viewF b E[j].1 E[j].2.1] = (E.take ((j + 1:Nat):Int).toNat).map fun e=>viewF b e.1 e.2.1
  rw [Int.toNat_natCast,List.take_succ,List.getElem?_eq_getElem hj,List.map_append,← i3]; rfl
 ·have hb1:bEsF l:=⟨by omega,fun e he=>by
   rw [i3] at he
   obtain ⟨y,hy,rfl⟩:=List.mem_map.1 he
   exact view_bE (pv y (List.mem_of_mem_take hy))⟩
  refine ⟨hb1,⟨(ht l).length_eq.symm,⟨by rw [(ht l).length_eq]; exact hb1.1,fun e he=>hb1.2 e ((ht l).mem_iff.1 he)⟩⟩,?_,trivial⟩
  rw [i3,List.take_of_length_le (by omega)]
end Go.Proofs.Tryz
namespace Go.Proofs.Tryz
open Go Go.VM
def nb23 (L:Lv) (F:BxF) (M:BeF)  : VC :=
 let z1:=Prod.snd (BeF.ex M 5 false);
 let z2:=z1.2;
 let z3:=z2.2;
 let z4:=(Prod.fst (BeF.ex M 5 false),z1.1,z2.1,z3.1,z3.2);
 let z5:=Prod.snd (BeF.ex M 8 false);
 let z6:=z5.2;
 let z7:=z6.2;
 let z8:=(Prod.fst (BeF.ex M 8 false),z5.1,z6.1,z7.1,z7.2);
 let z9:=Prod.fst (BeF.run M z4 []);
 let z10:=z9.2;
 let z11:=(Prod.fst z9,z10.1,z10.2);
 let z12:=L.take It [7] 1;
 let z13:=Prod.snd (BeF.en M 7 z12 []);
 let z14:=(Prod.fst (BeF.en M 7 z12 []),z13.1,z13.2);
 let z15:=Prod.fst (BeF.ends M z4);
 let z16:=L.take It [0] 1;
 let z17:=Prod.snd (BeF.en M 7 z12 z16);
 let z18:=(L.take Be [z14,(Prod.fst (BeF.en M 7 z12 z16),z17.1,z17.2)] 2);
 let z19:=Prod.fst (BeF.ends M z8);
 let z20:=Prod.snd (BeF.en M 7 [] z16);
 let z21:=(L.take Be [(Prod.fst (BeF.en M 7 [] z16),z20.1,z20.2)] 1); .obl True (.obl (BeF.bB M z4) (.obl True (.obl (BeF.pRun M z4 []) (.obl True
  (.obl (BeF.bB M z4) (.obl True (.obl (BeF.bB M z8) (.br (L.cmp .eql (Prod.snd (BeF.sumE M z4)) 0) (.br (L.cmp .eql (Prod.fst (BeF.sumE M z4)) 7) (.br
  (L.cmp .eql (Prod.snd (Prod.snd (BeF.run M z4 []))) 0) (.obl True (.obl (BeF.bE M z11∧BeF.bE M z14) (.br (BeF.same M z11 z14) (.br (L.cmp .eql (Prod.snd
  (BeF.ends M z4)) 0) (.obl True (.obl True (.obl (BeF.bEs M z15∧BeF.bEs M z18) (.br (BeF.sames M z15 z18) (.br (L.cmp .eql (Prod.snd (BeF.ends M z8)) 0)
  (.obl True (.obl (BeF.bEs M z19∧BeF.bEs M z21) (.br (BeF.sames M z19 z21) (.ok ((true,()) = (BeF.aw M,()))) (.ok ((false,()) = (BeF.aw M,())))))) (.ok ((false,
  ()) = (BeF.aw M,())))) (.ok ((false,()) = (BeF.aw M,()))))))) (.ok ((false,()) = (BeF.aw M,())))) (.ok ((false,()) = (BeF.aw M,())))))) (.ok ((false,()) = (BeF.aw
  M,())))) (.ok ((false,()) = (BeF.aw M,())))) (.ok ((false,()) = (BeF.aw M,())))))))))))
theorem nb23_go (L:Lv) (F:BxF) (M:BeF) (h:VC.holds (nb23 L F M)):Holds (vcE L F M [] [16,34,17,55,18,19,59] 3 (Db23 a0) (Sb23 M) ()):=Holds.of_eq (by kernel_rfl) h
instance:DecidableEq InD:=inferInstance
instance:DecidableEq (List InD):=inferInstance
instance:DecidableEq WkD:=inferInstance
theorem okb23 (F:BxF) (M:BeF) (h:M.aw = true) (h1:M.ex = exF) (h2:M.en = enF) (h3:M.sumE = sumEF) (h4:M.run = runBF) (h5:M.same = fun a b=>decide (a = b)) (h6:M.sames = fun a b=>decide (a = b)) (r5:∃ n,runBF (exF 5 false) [] = ((7,[[7]],[]),n,0)) (s5:sumEF (exF 5 false) = (7,0)) (e5:M.ends (exF 5 false) = ([(7,[[7]],[]),(7,[[7]],[0])],0)) (e8:M.ends (exF 8 false) = ([(7,[[]],[0])],0))
  (q1:M.bB = bBF) (q2:M.pRun = fun b l=>bBF b∧l.length≤1000000) (q3:M.bE = bEF) (q4:M.bEs = bEsF)
  (k1:SpecOk prog 16 (Sb16 M)) (k2:SpecOk prog 34 (Sb34 M)) (k3:SpecOk prog 17 (Sb17 M)) (k4:SpecOk prog 55 (Sb55 M)) (k5:SpecOk prog 18 (Sb18 M)) (k6:SpecOk prog 19 (Sb19 M)) (k7:SpecOk prog 59 (Sb59 M)):SpecOk prog 23 (Sb23 M):=by
 refine Zc hm hE Db23 fnokb23 _ fun (z:Unit) hpre=>?_
 obtain ⟨⟩:=z
 refine Yp _ 3 a0 (Zs (T:=tabO [] (eT F M)) (l:=[16,34,17,55,18,19,59]) (Za (Yh k1 (by kernel_rfl)) (Za (Yh k2 (by kernel_rfl)) (Za (Yh k3 (by kernel_rfl)) (Za (Yh k4 (by kernel_rfl)) (Za (Yh k5 (by kernel_rfl)) (Za (Yh k6 (by kernel_rfl)) (Za (Yh k7 (by kernel_rfl)) Z4)))))))) ?_
 refine nb23_go Lv.std F M ?_
 obtain ⟨n,r5⟩:=r5
 simp only [nb23,VC.holds,ZJ,ZO,Zb,Zh,Zm,Yj,Ym,Z5,ZM,Yl,Yk,Yf,ZX,ZY,ZT,ZR,Ye,ZN,Zz,ZD,Zr,Z1,ZS,Z2,ZK,ZW,Yb,ZV,ZP,ZQ,Zt,ZH,Ya,Z3,ZI,Yd,Yc,Z6,Z7,Zg,ZC,ZL,ZU,Z8,Z9,Zd,Ze,ZA,ZB,Zu,Zv,Zx,Zy,Zk,Zl,Zp,Zq,Zi,Zj,Zn,Zo,ZG,ZF,ZZ,Yg,ZE,h,h1,h2,h3,h4,h5,h6,s5,r5,e5,e8,q1,q2,q3,q4,pe5]
 have e1:enF 7 (List.take 1 [7]) [] = (7,[[7]],[]):=rfl
 have e2:enF 7 (List.take 1 [7]) (List.take 1 [0]) = (7,[[7]],[0]):=rfl
 have e3:enF 7 [] (List.take 1 [0]) = (7,[[]],[0]):=rfl
 have b5:bBF (exF 5 false):=by unfold bBF exF; simp
 have b8:bBF (exF 8 false):=by unfold bBF exF; simp
 have f1:bEF (7,[[7]],[]):=by unfold bEF; simp
 have f2:bEF (7,[[7]],[0]):=by unfold bEF; simp
 have f3:bEF (7,[[]],[0]):=by unfold bEF; simp
 have g1:bEsF [(7,[[7]],[]),(7,[[7]],[0])]:=⟨by simp,fun e he=>by
  rcases List.mem_cons.1 he with rfl | he
  ·exact f1
  ·rw [List.mem_singleton.1 he]; exact f2⟩
 have g2:bEsF [(7,[[]],[0])]:=⟨by simp,fun e he=>by rw [List.mem_singleton.1 he]; exact f3⟩
 rw [e1,e2,e3]
 have t2:∀ a b:BeD,List.take 2 [a,b] = [a,b]:=fun _ _=>rfl
 have t1:∀ a:BeD,List.take 1 [a] = [a]:=fun _=>rfl
 rw [t2,t1]
 simp [b5,b8,f1,f2,f3,g1,g2]
end Go.Proofs.Tryz
namespace Go.Proofs.Tryz
open Go Go.VM
def wtrEF (b:BlD) (i:Int):List InD × Int:=if chkB b ≠ 0 then ([],chkB b) else if i < 0∨(b.2.2.2.1.length:Int)≤i then ([],7) else (wtrF b i,0)
def wrtEF (b:BlD) (i:Int):List InD × Int:=if chkB b ≠ 0 then ([],chkB b) else if i < 0∨(b.2.2.2.2.length:Int)≤i then ([],7) else (wrtF b i,0)
end Go.Proofs.Tryz
namespace Go.Proofs.Tryz
open Go Go.VM
noncomputable def oTh:List (Nat × FT):=[(73,.inl (Db73 a0)),(74,.inl (Db74 a0)),(76,.inl (Db76 a0))]
def nb20 (L:Lv) (F:BxF) (M:BeF) (b:BlD) (i:Int)  : VC :=
 let z1:=b.2.2;
 let z2:=z1.2;
 let z3:=(Prod.fst b,b.2.1,z1.1,z2.1,z2.2);
 let z4:=(Prod.fst (BeF.wtrE M b i),Prod.snd (BeF.wtrE M b i),()); .obl (BeF.bB M z3) (.br (L.cmp .neq (BeF.chk M z3) 0) (.ok (([],BeF.chk M z3,()) = z4)) (.br
  (L.cmp .lss i 0) (.ok (([],7,()) = z4)) (.br (L.cmp .geq i (L.cast (L.llen It z2.1))) (.ok (([],7,()) = z4)) (.obl (BeF.pWt M z3 i)
  (.ok ((BeF.wtr M z3 i,0,()) = z4))))))
theorem nb20_go (L:Lv) (F:BxF) (M:BeF) (b:BlD) (i:Int) (h:VC.holds (nb20 L F M b i)):Holds (vcE L F M oTh [73,74,75,62] 3 (Db20 a0) (Sb20 M) (b,i,())):=Holds.of_eq (by kernel_rfl) h
def nb21 (L:Lv) (F:BxF) (M:BeF) (b:BlD) (i:Int)  : VC :=
 let z1:=b.2.2;
 let z2:=z1.2;
 let z3:=(Prod.fst b,b.2.1,z1.1,z2.1,z2.2);
 let z4:=(Prod.fst (BeF.wrtE M b i),Prod.snd (BeF.wrtE M b i),()); .obl (BeF.bB M z3) (.br (L.cmp .neq (BeF.chk M z3) 0) (.ok (([],BeF.chk M z3,()) = z4)) (.br
  (L.cmp .lss i 0) (.ok (([],7,()) = z4)) (.br (L.cmp .geq i (L.cast (L.llen (Ty.sl It) z2.2))) (.ok (([],7,()) = z4)) (.obl (BeF.pWr M
  z3 i) (.ok ((BeF.wrt M z3 i,0,()) = z4))))))
theorem nb21_go (L:Lv) (F:BxF) (M:BeF) (b:BlD) (i:Int) (h:VC.holds (nb21 L F M b i)):Holds (vcE L F M oTh [73,76,77,62] 3 (Db21 a0) (Sb21 M) (b,i,())):=Holds.of_eq (by kernel_rfl) h
theorem okb20 (F:BxF) (M:BeF) (h:M.wtrE = wtrEF) (h1:M.chk = chkB) (h2:M.wtr = wtrF) (q:M.bB = bBF) (q1:M.pWt = pWtF) (k1:SpecOk prog 75 (Sb75 M)) (k2:SpecOk prog 62 (Sb62 M)):SpecOk prog 20 (Sb20 M):=by
 refine Zc hm hE Db20 fnokb20 _ fun (z:BlD × Int × Unit) hpre=>?_
 obtain ⟨b,i,⟨⟩⟩:=z
 have hpre':M.bB b:=hpre
 rw [q] at hpre'
 refine Yp _ 3 a0 (Zs (T:=tabO oTh (eT F M)) (l:=[73,74,75,62]) (Za (Yy (fnokb73 a0) (by kernel_rfl)) (Za (Yy (fnokb74 a0) (by kernel_rfl)) (Za (Yh k1 (by kernel_rfl)) (Za (Yh k2 (by kernel_rfl)) Z4))))) ?_
 refine nb20_go Lv.std F M b i ?_
 simp only [nb20,VC.holds,ZJ,ZO,Zb,Zh,Zm,Yj,Ym,Z5,ZM,Yl,Yk,Yf,ZX,ZY,ZT,ZR,Ye,ZN,Zz,ZD,Zr,Z1,ZS,Z2,ZK,ZW,Yb,ZV,ZP,ZQ,Zt,ZH,Ya,Z3,ZI,Yd,Yc,Z6,Z7,Zg,ZC,ZL,ZU,Z8,Z9,Zd,Ze,ZA,ZB,Zu,Zv,Zx,Zy,Zk,Zl,Zp,Zq,Zi,Zj,Zn,Zo,ZG,ZF,ZZ,Yg,ZE,h,h1,h2,q,q1,wtrEF,pWtF,pe5,Prod.mk.injEq,and_true,true_and]
 refine ⟨hpre',fun c=>by rw [if_pos c]; exact ⟨rfl,rfl⟩,fun c=>?_⟩
 rw [if_neg (by omega)]
 refine ⟨fun d=>by rw [if_pos (.inl d)]; exact ⟨rfl,rfl⟩,fun d=>⟨fun e=>by rw [if_pos (.inr e)]; exact ⟨rfl,rfl⟩,fun e=>⟨⟨hpre',d,e⟩,by rw [if_neg (by omega)]; exact ⟨rfl,rfl⟩⟩⟩⟩
theorem okb21 (F:BxF) (M:BeF) (h:M.wrtE = wrtEF) (h1:M.chk = chkB) (h2:M.wrt = wrtF) (q:M.bB = bBF) (q1:M.pWr = pWrF) (k1:SpecOk prog 77 (Sb77 M)) (k2:SpecOk prog 62 (Sb62 M)):SpecOk prog 21 (Sb21 M):=by
 refine Zc hm hE Db21 fnokb21 _ fun (z:BlD × Int × Unit) hpre=>?_
 obtain ⟨b,i,⟨⟩⟩:=z
 have hpre':M.bB b:=hpre
 rw [q] at hpre'
 refine Yp _ 3 a0 (Zs (T:=tabO oTh (eT F M)) (l:=[73,76,77,62]) (Za (Yy (fnokb73 a0) (by kernel_rfl)) (Za (Yy (fnokb76 a0) (by kernel_rfl)) (Za (Yh k1 (by kernel_rfl)) (Za (Yh k2 (by kernel_rfl)) Z4))))) ?_
 refine nb21_go Lv.std F M b i ?_
 simp only [nb21,VC.holds,ZJ,ZO,Zb,Zh,Zm,Yj,Ym,Z5,ZM,Yl,Yk,Yf,ZX,ZY,ZT,ZR,Ye,ZN,Zz,ZD,Zr,Z1,ZS,Z2,ZK,ZW,Yb,ZV,ZP,ZQ,Zt,ZH,Ya,Z3,ZI,Yd,Yc,Z6,Z7,Zg,ZC,ZL,ZU,Z8,Z9,Zd,Ze,ZA,ZB,Zu,Zv,Zx,Zy,Zk,Zl,Zp,Zq,Zi,Zj,Zn,Zo,ZG,ZF,ZZ,Yg,ZE,h,h1,h2,q,q1,wrtEF,pWrF,pe5,Prod.mk.injEq,and_true,true_and]
 refine ⟨hpre',fun c=>by rw [if_pos c]; exact ⟨rfl,rfl⟩,fun c=>?_⟩
 rw [if_neg (by omega)]
 refine ⟨fun d=>by rw [if_pos (.inl d)]; exact ⟨rfl,rfl⟩,fun d=>⟨fun e=>by rw [if_pos (.inr e)]; exact ⟨rfl,rfl⟩,fun e=>⟨⟨hpre',d,e⟩,by rw [if_neg (by omega)]; exact ⟨rfl,rfl⟩⟩⟩⟩
end Go.Proofs.Tryz
namespace Go.Proofs.Tryz
open Go Go.VM
def numL (b:BlD):List Int:=b.2.2.2.2.flatten ++ [b.1]
def sawF (e:BeD) (i:Nat):List Int:=(e.2.1[i]?).getD []
def wtF (b:BlD) (i:Nat):Int:=(b.2.2.2.1[i]?).getD 0
def seenF (b:BlD) (i:Int) (l:List Int):Bool :=
 if sumF b < wtF b i.toNat then decide (l.length = 0) else decide (l.length = 1) && decide (wtF b i.toNat≤(l[0]?).getD 0) && decide ((l[0]?).getD 0 ∈ numL b)
def onF (m:Nat) (l:List Int):Bool:=l.all (fun i=>decide (0≤i∧i < (m:Int))) && decide l.Nodup
def atF (b:BlD) (e:BeD) (i:Nat):Bool:=seenF b (i:Int) (sawF e i) && (decide ((sawF e i).length ≠ 0) || decide ((i:Int) ∈ e.2.2))
def soundF (b:BlD) (e:BeD):Bool:=decide (e.1 = sumF b) && decide (e.2.1.length = b.2.2.2.1.length) && onF b.2.2.2.1.length e.2.2 && (List.range b.2.2.2.1.length).all fun i=>atF b e i
def bETF (e:BeD):Prop:=e.2.1.length≤9223372036854775807∧e.2.2.length≤9223372036854775807∧∀ l ∈ e.2.1,l.length≤9223372036854775807
end Go.Proofs.Tryz
namespace Go.Proofs.Tryz
open Go Go.VM
def SbT:VM.Spec:=⟨[],[.bool],fun _=>True,fun _=>(true,())⟩
theorem okSbT (M:BeF) (g:M.aw = true) (k:SpecOk prog 23 (Sb23 M)):SpecOk prog 23 SbT:=by
 have:Sb23 M = SbT:=by unfold Sb23 SbT; rw [g]
 rw [← this]; exact k
end Go.Proofs.Tryz
