/- What functions of the weak memory compute, proved through the condition generator, and plain facts of it. Conditions: none of ours. -/
import Derived.Test.YtljepnnnjfalcaaGreatC27
set_option autoImplicit false
set_option maxRecDepth 100000
set_option linter.all false
namespace Go.Proofs.Tryz
open Go Go.VM
def ab63 (L:Lv) (I:Ds [.sl (.sl In),It]→Prop) (mu:Ds [.sl (.sl In),It]→Nat) (I2:Ds [.sl (.sl In),It]→Prop) (m2:Ds [.sl (.sl In),It]→Nat):Nat→LAnn
 | 0=>anH L [1,2,3,26,27] [(3,some 1,36,.sl In)] [.br 3 1 (.sl In),.s 27 It] I mu
 | 2=>anH L [1,2,3,42,43] [] [.br 3 1 (.sl In),.s 43 It] I2 m2
 | _=>.no
def nb63 (L:Lv) (F:BxF) (M:BeF) (I:Ds [.sl (.sl In),It]→Prop) (mu:Ds [.sl (.sl In),It]→Nat) (I2:Ds [.sl (.sl In),It]→Prop) (m2:Ds [.sl (.sl In),It]→Nat) (b:BlD)  : VC :=
 let z1:=b.2;
 let z2:=z1.2;
 let z3:=z2.2;
 let z4:=z3.1;
 let z5:=L.cast (L.llen It z4);
 let z6:=L.ar .add .i64 2 (L.ar .mul .i64 2 z5);
 let z7:=L.toN z6;
 let z8:=L.rep It z7 0;
 let z9:=b.1;
 let z10:=z1.1;
 let z11:=z2.1;
 let z12:=z3.2;
 let z13:=L.setl It z8 (L.toN 0) z9;
 let z14:=List (Int × Int × Int × Int × Int × Int);
 let z15:=List z14 × Int × Unit;
 let z16:=(Prod.fst b,z1.1,z2.1,z3.1,z3.2);
 let z17:=L.cast (L.llen (Ty.sl It) z12); .obl (L.mkOk z6 z6 8) (.obl (L.inR 0 z7) (.obl (L.ltN (L.toN 0) (L.llen It z8)) (.obl (St.mk 56 [(1,V.c
  (C.ptr 1 0)),(2,V.c (C.ptr 2 0)),(3,V.c (C.ptr 3 0)),(26,V.c (C.int .i64 z5)),(27,V.c (C.int .i64 0))] [(0,Ob.amb),(1,Ob.box 106 [C.int .i64 z9,
  C.int .i64 z10,C.sym z11,C.sl It z4,C.sl (Ty.sl It) z12]),(2,Ob.box 50 [C.nils,C.nils,C.int .i64 0]),(3,Ob.box 50 [C.own 4 z7,C.own 6 0,C.int .i64
  z10]),(4,Ob.row 3 It z13),(6,Ob.row 36 (Ty.sl In) [])] 7 = St.mk 56 [(1,V.c (C.ptr 1 0)),(2,V.c (C.ptr 2 0)),(3,V.c (C.ptr 3 0)),(26,V.c (C.int .i64 z5)),(27,
  V.c (C.int .i64 0))] [(0,Ob.amb),(1,Ob.box 106 [C.int .i64 z9,C.int .i64 z10,C.sym z11,C.sl It z4,C.sl (Ty.sl It) z12]),(2,Ob.box 50 [C.nils,
  C.nils,C.int .i64 0]),(3,Ob.box 50 [C.own 4 z7,C.own 6 (L.llen (Ty.sl In) []),C.int .i64 z10]),(4,Ob.row 3 It z13),(6,Ob.row 36 (Ty.sl In) [])] 7)
  (.obl (I ([],0,())) (.all z15 fun (v1:List (List (Int × Int × Int × Int × Int × Int)) × Int × Unit) =>
 let z18:=v1.2.1;
 let z19:=v1.1;
 let z20:=L.llen (Ty.sl In) z19;
 let z21:=L.take (Ty.sl In) z19 z20;
 let z22:=L.take (Ty.sl In) [BeF.wtr M z16 z18] 1;
 let z23:=L.add (L.llen (Ty.sl In) z21) (L.llen (Ty.sl In) z22);
 let z24:=L.ar .add .i64 z18 1;
 let z25:=L.app (Ty.sl In) z21 z22;
 let z26:=(L.app (Ty.sl In) z21 z22,L.ar .add .i64 z18 1,()); .imp (I v1) (.br (L.cmp .lss z18 z5) (.obl (BeF.pWt M z16 z18) (.obl (L.room
  z23 24) (.ok (St.mk 56 [(1,V.c (C.ptr 1 0)),(2,V.c (C.ptr 2 0)),(3,V.c (C.ptr 3 0)),(26,V.c (C.int .i64 z5)),(27,V.c (C.int .i64 z24))] [(0,Ob.amb),(1,
  Ob.box 106 [C.int .i64 z9,C.int .i64 z10,C.sym z11,C.sl It z4,C.sl (Ty.sl It) z12]),(2,Ob.box 50 [C.nils,C.nils,C.int .i64 0]),(3,Ob.box 50 [C.own
  4 z7,C.own 6 z23,C.int .i64 z10]),(4,Ob.row 3 It z13),(6,Ob.row 36 (Ty.sl In) z25)] 7 = St.mk 56 [(1,V.c (C.ptr 1 0)),(2,V.c (C.ptr 2 0)),(3,V.c (C.ptr 3 0)),
  (26,V.c (C.int .i64 z5)),(27,V.c (C.int .i64 z24))] [(0,Ob.amb),(1,Ob.box 106 [C.int .i64 z9,C.int .i64 z10,C.sym z11,C.sl It z4,C.sl (Ty.sl
  It) z12]),(2,Ob.box 50 [C.nils,C.nils,C.int .i64 0]),(3,Ob.box 50 [C.own 4 z7,C.own 6 (L.llen (Ty.sl In) z25),C.int .i64 z10]),(4,Ob.row 3 It z13),(6,
  Ob.row 36 (Ty.sl In) z25)] 7∧I z26∧mu z26 < mu v1)))) (.obl (St.mk 56 [(1,V.c (C.ptr 1 0)),(2,V.c (C.ptr 2 0)),(3,V.c (C.ptr 3 0)),(42,V.c (C.int .i64 z17)),
  (43,V.c (C.int .i64 0))] [(0,Ob.amb),(1,Ob.box 106 [C.int .i64 z9,C.int .i64 z10,C.sym z11,C.sl It z4,C.sl (Ty.sl It) z12]),(2,Ob.box 50 [C.nils,
  C.nils,C.int .i64 0]),(3,Ob.box 50 [C.own 4 z7,C.own 7 z20,C.int .i64 z10]),(4,Ob.row 3 It z13),(7,Ob.row 36 (Ty.sl In) z19)] 8 = St.mk 56 [(1,V.c (C.ptr
  1 0)),(2,V.c (C.ptr 2 0)),(3,V.c (C.ptr 3 0)),(42,V.c (C.int .i64 z17)),(43,V.c (C.int .i64 0))] [(0,Ob.amb),(1,Ob.box 106 [C.int .i64 z9,C.int
  .i64 z10,C.sym z11,C.sl It z4,C.sl (Ty.sl It) z12]),(2,Ob.box 50 [C.nils,C.nils,C.int .i64 0]),(3,Ob.box 50 [C.own 4 z7,C.own 7 z20,C.int .i64
  z10]),(4,Ob.row 3 It z13),(7,Ob.row 36 (Ty.sl In) z19)] 8) (.obl (I2 (Prod.fst v1,0,())) (.all z15 fun (v2:List (List (Int × Int × Int × Int × Int × Int)) × Int ×
  Unit) =>
 let z27:=v2.2.1;
 let z28:=v2.1;
 let z29:=L.llen (Ty.sl In) z28;
 let z30:=L.take (Ty.sl In) z28 z29;
 let z31:=L.take (Ty.sl In) [BeF.wrt M z16 z27] 1;
 let z32:=L.add (L.llen (Ty.sl In) z30) (L.llen (Ty.sl In) z31);
 let z33:=L.ar .add .i64 z27 1;
 let z34:=L.app (Ty.sl In) z30 z31;
 let z35:=(L.app (Ty.sl In) z30 z31,L.ar .add .i64 z27 1,()); .imp (I2 v2) (.br (L.cmp .lss z27 z17) (.obl (BeF.pWr M z16 z27) (.obl (L.room
  z32 24) (.ok (St.mk 56 [(1,V.c (C.ptr 1 0)),(2,V.c (C.ptr 2 0)),(3,V.c (C.ptr 3 0)),(42,V.c (C.int .i64 z17)),(43,V.c (C.int .i64 z33))] [(0,Ob.amb),
  (1,Ob.box 106 [C.int .i64 z9,C.int .i64 z10,C.sym z11,C.sl It z4,C.sl (Ty.sl It) z12]),(2,Ob.box 50 [C.nils,C.nils,C.int .i64 0]),(3,Ob.box 50
  [C.own 4 z7,C.own 7 z32,C.int .i64 z10]),(4,Ob.row 3 It z13),(7,Ob.row 36 (Ty.sl In) z34)] 8 = St.mk 56 [(1,V.c (C.ptr 1 0)),(2,V.c (C.ptr 2 0)),(3,V.c (C.ptr 3
  0)),(42,V.c (C.int .i64 z17)),(43,V.c (C.int .i64 z33))] [(0,Ob.amb),(1,Ob.box 106 [C.int .i64 z9,C.int .i64 z10,C.sym z11,C.sl It z4,C.sl
  (Ty.sl It) z12]),(2,Ob.box 50 [C.nils,C.nils,C.int .i64 0]),(3,Ob.box 50 [C.own 4 z7,C.own 7 (L.llen (Ty.sl In) z34),C.int .i64 z10]),(4,Ob.row 3 It
  z13),(7,Ob.row 36 (Ty.sl In) z34)] 8∧I2 z35∧m2 z35 < m2 v2)))) (.ok (((L.take It z13 z7,L.take (Ty.sl In) z28 z29,z1.1),()) = (BeF.prg M b,
  ())))))))))))))
theorem nb63_go (L:Lv) (F:BxF) (M:BeF) (I:Ds [.sl (.sl In),It]→Prop) (mu:Ds [.sl (.sl In),It]→Nat) (I2:Ds [.sl (.sl In),It]→Prop) (m2:Ds [.sl (.sl In),It]→Nat) (b:BlD) (h:VC.holds (nb63 L F M I mu I2 m2 b)):Holds (vcE L F M [] [75,77] 3 (Db63 (ab63 L I mu I2 m2)) (Sb63 M) (b,())):=Holds.of_eq (by kernel_rfl) h
def nb80 (L:Lv) (F:BxF) (M:BeF) (n:Int)  : VC :=
 let z1:=(BxF.isNum F n,()); .br (L.cmp .geq n (Int.negSucc 999999999)) (.br (L.cmp .leq n 1000000000) (.ok ((true,()) = z1)) (.ok ((false,()) = z1)))
  (.ok ((false,()) = z1))
theorem nb80_go (L:Lv) (F:BxF) (M:BeF) (n:Int) (h:VC.holds (nb80 L F M n)):Holds (vcE L F M [] [] 3 (Db80 a0) (S92 F) (n,())):=Holds.of_eq (by kernel_rfl) h
theorem okb63 (F:BxF) (M:BeF) (h:M.prg = prgF) (h1:M.wtr = wtrF) (h2:M.wrt = wrtF) (q:M.pP = bBF) (q1:M.pWt = pWtF) (q2:M.pWr = pWrF) (k1:SpecOk prog 75 (Sb75 M)) (k2:SpecOk prog 77 (Sb77 M)):SpecOk prog 63 (Sb63 M):=by
 refine Zc hm hE Db63 fnokb63 _ fun (z:BlD × Unit) hpre=>?_
 obtain ⟨b,⟨⟩⟩:=z
 have hpre':M.pP b:=hpre
 rw [q] at hpre'
 obtain ⟨g1,g2,g3⟩:=hpre'
 have w1:IntKind.i64.wrap (2 + IntKind.i64.wrap (2 * (b.2.2.2.1.length:Int))) = ((2 + 2 * b.2.2.2.1.length:Nat):Int):=by rw [Yn (x:=2 * (b.2.2.2.1.length:Int)) (by omega) (by omega),Yn (by omega) (by omega)]; omega
 have w2:IntKind.i64.wrap (IntKind.i64.wrap (2 * (b.2.2.2.1.length:Int)) + 2) = ((2 + 2 * b.2.2.2.1.length:Nat):Int):=by rw [Yn (x:=2 * (b.2.2.2.1.length:Int)) (by omega) (by omega),Yn (by omega) (by omega)]; omega
 have w3:IntKind.i64.wrap (2 * (b.2.2.2.1.length:Int)) = 2 * (b.2.2.2.1.length:Int):=Yn (by omega) (by omega)
 let f1:Nat→List InD:=fun i=>wtrF b (i:Int)
 let f2:Nat→List InD:=fun k=>wrtF b (k:Int)
 let I:List (List InD) × Int × Unit→Prop:=fun x=>(0≤x.2.1∧x.2.1≤b.2.2.2.1.length)∧x.1 = (List.range x.2.1.toNat).map f1
 let mu:List (List InD) × Int × Unit→Nat:=fun x=>(b.2.2.2.1.length - x.2.1).toNat
 let I2:List (List InD) × Int × Unit→Prop:=fun x=>(0≤x.2.1∧x.2.1≤b.2.2.2.2.length)∧x.1 = (List.range b.2.2.2.1.length).map f1 ++ (List.range x.2.1.toNat).map f2
 let m2:List (List InD) × Int × Unit→Nat:=fun x=>(b.2.2.2.2.length - x.2.1).toNat
 refine Yp _ 3 (ab63 Lv.std I mu I2 m2) (Zs (T:=tabO [] (eT F M)) (l:=[75,77]) (Za (Yh k1 (by kernel_rfl)) (Za (Yh k2 (by kernel_rfl)) Z4))) ?_
 refine nb63_go Lv.std F M I mu I2 m2 b ?_
 simp only [nb63,VC.holds,ZJ,ZO,Zb,Zh,Zm,Yj,Ym,Z5,ZM,Yl,Yk,Yf,ZX,ZY,ZT,ZR,Ye,ZN,Zz,ZD,Zr,Z1,ZS,Z2,ZK,ZW,Yb,ZV,ZP,ZQ,Zt,ZH,Ya,Z3,ZI,Yd,Yc,Z6,Z7,Zg,ZC,ZL,ZU,Z8,Z9,Zd,Ze,ZA,ZB,Zu,Zv,Zx,Zy,Zk,Zl,Zp,Zq,Zi,Zj,Zn,Zo,ZG,ZF,ZZ,Yg,ZE,w1,w2,Int.toNat_natCast,h,h1,h2,q1,q2,pe5,List.length_set,List.length_replicate,List.take_length,List.take_succ_cons,List.take_zero,List.take_nil,List.nil_append,List.length_append,List.length_cons,List.length_nil,Nat.zero_add,Prod.mk.injEq,and_true,true_and]
 refine ⟨⟨by omega,by omega,by omega,by omega⟩,⟨by omega,by omega⟩,by show (0:Nat) < _; omega,⟨⟨Int.le_refl 0,by show (0:Int)≤b.2.2.2.1.length; omega⟩,rfl⟩,?_⟩
 rintro ⟨l,x,⟨⟩⟩ ⟨⟨i1,i2⟩,i3⟩
 simp only at i1 i2 i3 ⊢
 obtain ⟨j,rfl⟩:=Yq i1
 rw [Int.toNat_natCast] at i3
 have hl:l.length = j:=by rw [i3,List.length_map,List.length_range]
 refine ⟨fun hlt=>?_,fun hge=>⟨⟨⟨Int.le_refl 0,by show (0:Int)≤b.2.2.2.2.length; omega⟩,?_⟩,?_⟩⟩
 ·rw [wr hlt (by omega)]
  refine ⟨⟨⟨g1,g2,g3⟩,i1,hlt⟩,⟨by omega,by omega⟩,⟨⟨by show (0:Int)≤((j + 1:Nat):Int); omega,by show ((j + 1:Nat):Int)≤b.2.2.2.1.length; omega⟩,?_⟩,by show ((b.2.2.2.1.length:Int) - ((j + 1:Nat):Int)).toNat < ((b.2.2.2.1.length:Int) - j).toNat; omega⟩
  show l ++ [wtrF b j] = (List.range ((j + 1:Nat):Int).toNat).map f1
  rw [Int.toNat_natCast,range_map,i3]
 ·show l = (List.range b.2.2.2.1.length).map f1 ++ []
  rw [List.append_nil,i3,show j = b.2.2.2.1.length by omega]
 ·rintro ⟨r,x,⟨⟩⟩ ⟨⟨j1,j2⟩,j3⟩
  simp only at j1 j2 j3 ⊢
  obtain ⟨k,rfl⟩:=Yq j1
  rw [Int.toNat_natCast] at j3
  have hr:r.length = b.2.2.2.1.length + k:=by rw [j3,List.length_append,List.length_map,List.length_range,List.length_map,List.length_range]
  refine ⟨fun hlt=>?_,fun hge=>?_⟩
  ·rw [wr hlt (by omega)]
   refine ⟨⟨⟨g1,g2,g3⟩,j1,hlt⟩,⟨by omega,by omega⟩,⟨⟨by show (0:Int)≤((k + 1:Nat):Int); omega,by show ((k + 1:Nat):Int)≤b.2.2.2.2.length; omega⟩,?_⟩,by show ((b.2.2.2.2.length:Int) - ((k + 1:Nat):Int)).toNat < ((b.2.2.2.2.length:Int) - k).toNat; omega⟩
   show r ++ [wrtF b k] = (List.range b.2.2.2.1.length).map f1 ++ (List.range ((k + 1:Nat):Int).toNat).map f2
   rw [Int.toNat_natCast,range_map,j3,List.append_assoc]
  ·rw [List.take_of_length_le (by rw [List.length_set,List.length_replicate]; omega),j3,show k = b.2.2.2.2.length by omega]
   rfl
theorem okb80 (F:BxF) (M:BeF) (h:F.isNum = isNumF):SpecOk prog 80 (S92 F):=by
 refine Zc hm hE Db80 fnokb80 _ fun (z:Int × Unit) hpre=>?_
 obtain ⟨n,⟨⟩⟩:=z
 refine Yp _ 3 a0 (Zs (T:=tabO [] (eT F M)) (l:=[]) Z4) ?_
 refine nb80_go Lv.std F M n ?_
 simp only [nb80,VC.holds,ZJ,ZO,Zb,Zh,Zm,Yj,Ym,Z5,ZM,Yl,Yk,Yf,ZX,ZY,ZT,ZR,Ye,ZN,Zz,ZD,Zr,Z1,ZS,Z2,ZK,ZW,Yb,ZV,ZP,ZQ,Zt,ZH,Ya,Z3,ZI,Yd,Yc,Z6,Z7,Zg,ZC,ZL,ZU,Z8,Z9,Zd,Ze,ZA,ZB,Zu,Zv,Zx,Zy,Zk,Zl,Zp,Zq,Zi,Zj,Zn,Zo,ZG,ZF,ZZ,Yg,ZE,h,isNumF,withinF,Prod.mk.injEq,and_true,true_and]
 have e:(Int.negSucc 999999999) = -1000000000:=rfl
 rw [e]
 refine ⟨fun h=>⟨fun h1=>by rw [decide_eq_true h,decide_eq_true h1]; rfl,fun h1=>by rw [decide_eq_true h,decide_eq_false (by omega)]; rfl⟩,fun h=>by rw [decide_eq_false (by omega)]; rfl⟩
end Go.Proofs.Tryz
