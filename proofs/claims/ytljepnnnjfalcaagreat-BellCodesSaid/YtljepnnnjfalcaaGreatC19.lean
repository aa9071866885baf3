/- What functions of the weak memory compute, proved through the condition generator, and plain facts of it. Conditions: none of ours. -/
import Derived.Test.YtljepnnnjfalcaaGreatC16
import Derived.Test.YtljepnnnjfalcaaGreatC17
import Derived.Shelf.SlSortCmp.Insertion
set_option autoImplicit false
set_option maxRecDepth 100000
set_option linter.all false
namespace Go.Proofs.Tryz
open Go Go.VM
def a112 (L:Lv) (I:Ds [It]→Prop) (mu:Ds [It]→Nat):Nat→LAnn
 | 0=>anH L [0,1,9,10,11] [] [.s 11 It] I mu
 | _=>.no
def a114 (L:Lv) (I:Ds [It]→Prop) (mu:Ds [It]→Nat):Nat→LAnn
 | 0=>anH L [0,1,9,10,11] [] [.s 11 It] I mu
 | _=>.no
def a113 (L:Lv) (I:List (List Int) × List (List Int) × Unit→Ds [It]→Prop) (mu:List (List Int) × List (List Int) × Unit→Ds [It]→Nat):Nat→LAnn
 | 0=>anE L [0,1,2,11,12,13] [] [.h (.s 0 (.sl (.sl It))),.h (.s 1 (.sl (.sl It)))] [.s 13 It] I mu
 | _=>.no
def a111 (L:Lv) (I:Ds [It]→Prop) (mu:Ds [It]→Nat):Nat→LAnn
 | 0=>anH L [3,6,7,8] [] [.s 8 It] I mu
 | _=>.no
noncomputable def o112:List (Nat × FT):=[(123,.inl (D137 a0)),(213,.inl (D138 a0)),(179,.inl (D158 a0)),(232,.inl (D159 a0))]
def n112 (L:Lv) (F:BxF) (I:Ds [It]→Prop) (mu:Ds [It]→Nat) (a b:List Int)  : VC :=
 let z1:=L.cast (L.llen It a);
 let z2:=L.cast (L.llen It b);
 let z3:=(BxF.cmpL F a b,());
 let z4:=L.cmp .neq 0 0;
 let z5:=L.cmp .neq (Int.negSucc 0) 0;
 let z6:=(Int.negSucc 0,());
 let z7:=L.cmp .neq 1 0; .obl (St.mk 36 [(0,V.c (C.sl It a)),(1,V.c (C.sl It b)),(9,V.c (C.sl It a)),(10,V.c (C.int .i64 z1)),(11,V.c (C.int .i64
  0))] [(0,Ob.amb)] 1 = St.mk 36 [(0,V.c (C.sl It a)),(1,V.c (C.sl It b)),(9,V.c (C.sl It a)),(10,V.c (C.int .i64 z1)),(11,V.c (C.int .i64 0))] [(0,
  Ob.amb)] 1) (.obl (I (0,())) (.all (Int × Unit) fun (v1:Int × Unit) =>
 let z8:=v1.1;
 let z9:=L.toN z8;
 let z10:=L.get It a z9;
 let z11:=L.get It b z9;
 let z12:=L.cmp .neq z11 z11;
 let z13:=L.ar .add .i64 z8 1;
 let z14:=(L.ar .add .i64 z8 1,()); .imp (I v1) (.br (L.cmp .lss z8 z1) (.obl (L.inR z8 (L.llen It a)) (.br (L.cmp .geq z8 z2) (.ok
  ((1,()) = z3)) (.obl (L.inR z8 (L.llen It b)) (.br (L.cmp .neq z10 z10) (.br z12 (.br z4 (.ok ((0,()) = z3)) (.ok (St.mk 36 [(0,V.c (C.sl It a)),(1,
  V.c (C.sl It b)),(9,V.c (C.sl It a)),(10,V.c (C.int .i64 z1)),(11,V.c (C.int .i64 z13))] [(0,Ob.amb)] 1 = St.mk 36 [(0,V.c (C.sl It a)),(1,V.c (C.sl It
  b)),(9,V.c (C.sl It a)),(10,V.c (C.int .i64 z1)),(11,V.c (C.int .i64 z13))] [(0,Ob.amb)] 1∧I z14∧mu z14 < mu v1))) (.br z5 (.ok (z6 = z3)) (.ok
  (St.mk 36 [(0,V.c (C.sl It a)),(1,V.c (C.sl It b)),(9,V.c (C.sl It a)),(10,V.c (C.int .i64 z1)),(11,V.c (C.int .i64 z13))] [(0,Ob.amb)] 1 = St.mk 36 [(0,
  V.c (C.sl It a)),(1,V.c (C.sl It b)),(9,V.c (C.sl It a)),(10,V.c (C.int .i64 z1)),(11,V.c (C.int .i64 z13))] [(0,Ob.amb)] 1∧I z14∧mu z14 < mu v1))))
  (.br z12 (.br z7 (.ok ((1,()) = z3)) (.ok (St.mk 36 [(0,V.c (C.sl It a)),(1,V.c (C.sl It b)),(9,V.c (C.sl It a)),(10,V.c (C.int .i64 z1)),(11,V.c (C.int
  .i64 z13))] [(0,Ob.amb)] 1 = St.mk 36 [(0,V.c (C.sl It a)),(1,V.c (C.sl It b)),(9,V.c (C.sl It a)),(10,V.c (C.int .i64 z1)),(11,V.c (C.int .i64
  z13))] [(0,Ob.amb)] 1∧I z14∧mu z14 < mu v1))) (.br (L.cmp .lss z10 z11) (.br z5 (.ok (z6 = z3)) (.ok (St.mk 36 [(0,V.c (C.sl It a)),(1,V.c (C.sl It b)),
  (9,V.c (C.sl It a)),(10,V.c (C.int .i64 z1)),(11,V.c (C.int .i64 z13))] [(0,Ob.amb)] 1 = St.mk 36 [(0,V.c (C.sl It a)),(1,V.c (C.sl It b)),(9,V.c (C.sl
  It a)),(10,V.c (C.int .i64 z1)),(11,V.c (C.int .i64 z13))] [(0,Ob.amb)] 1∧I z14∧mu z14 < mu v1))) (.br (L.cmp .gtr z10 z11) (.br z7 (.ok ((1,
  ()) = z3)) (.ok (St.mk 36 [(0,V.c (C.sl It a)),(1,V.c (C.sl It b)),(9,V.c (C.sl It a)),(10,V.c (C.int .i64 z1)),(11,V.c (C.int .i64 z13))] [(0,Ob.amb)]
  1 = St.mk 36 [(0,V.c (C.sl It a)),(1,V.c (C.sl It b)),(9,V.c (C.sl It a)),(10,V.c (C.int .i64 z1)),(11,V.c (C.int .i64 z13))] [(0,Ob.amb)] 1∧I z14∧mu
  z14 < mu v1))) (.br z4 (.ok ((0,()) = z3)) (.ok (St.mk 36 [(0,V.c (C.sl It a)),(1,V.c (C.sl It b)),(9,V.c (C.sl It a)),(10,V.c (C.int .i64 z1)),(11,V.c
  (C.int .i64 z13))] [(0,Ob.amb)] 1 = St.mk 36 [(0,V.c (C.sl It a)),(1,V.c (C.sl It b)),(9,V.c (C.sl It a)),(10,V.c (C.int .i64 z1)),(11,V.c (C.int
  .i64 z13))] [(0,Ob.amb)] 1∧I z14∧mu z14 < mu v1)))))))))) (.br (L.cmp .lss z1 z2) (.ok (z6 = z3)) (.ok ((0,()) = z3))))))
theorem n112_go (L:Lv) (F:BxF) (I:Ds [It]→Prop) (mu:Ds [It]→Nat) (a b:List Int) (h:VC.holds (n112 L F I mu a b)):Holds (vcO L F o112 [123,179] 4 (D112 (a112 L I mu)) (S112 F) (a,b,())):=Holds.of_eq (by kernel_rfl) h
def n114 (L:Lv) (F:BxF) (I:Ds [It]→Prop) (mu:Ds [It]→Nat) (a b:List Int)  : VC :=
 let z1:=Ty.int .u8;
 let z2:=L.llen z1 a;
 let z3:=L.cast z2;
 let z4:=L.llen z1 b;
 let z5:=L.cast z4;
 let z6:=(BxF.cmpL F a b,());
 let z7:=L.cmp .neq 0 0;
 let z8:=L.cmp .neq (Int.negSucc 0) 0;
 let z9:=(Int.negSucc 0,());
 let z10:=L.cmp .neq 1 0; .obl (St.mk 36 [(0,V.c (C.sl z1 a)),(1,V.c (C.sl z1 b)),(9,V.c (C.sl z1 a)),(10,V.c (C.int .i64 z3)),(11,V.c (C.int .i64
  0))] [(0,Ob.amb)] 1 = St.mk 36 [(0,V.c (C.sl z1 a)),(1,V.c (C.sl z1 b)),(9,V.c (C.sl z1 a)),(10,V.c (C.int .i64 z3)),(11,V.c (C.int .i64 0))] [(0,
  Ob.amb)] 1) (.obl (I (0,())) (.all (Int × Unit) fun (v1:Int × Unit) =>
 let z11:=v1.1;
 let z12:=L.toN z11;
 let z13:=L.get z1 a z12;
 let z14:=L.get z1 b z12;
 let z15:=L.cmp .neq z14 z14;
 let z16:=L.ar .add .i64 z11 1;
 let z17:=(L.ar .add .i64 z11 1,()); .imp (I v1) (.br (L.cmp .lss z11 z3) (.obl (L.inR z11 z2) (.br (L.cmp .geq z11 z5) (.ok ((1,())
  = z6)) (.obl (L.inR z11 z4) (.br (L.cmp .neq z13 z13) (.br z15 (.br z7 (.ok ((0,()) = z6)) (.ok (St.mk 36 [(0,V.c (C.sl z1 a)),(1,V.c (C.sl z1 b)),(9,
  V.c (C.sl z1 a)),(10,V.c (C.int .i64 z3)),(11,V.c (C.int .i64 z16))] [(0,Ob.amb)] 1 = St.mk 36 [(0,V.c (C.sl z1 a)),(1,V.c (C.sl z1 b)),(9,V.c (C.sl z1
  a)),(10,V.c (C.int .i64 z3)),(11,V.c (C.int .i64 z16))] [(0,Ob.amb)] 1∧I z17∧mu z17 < mu v1))) (.br z8 (.ok (z9 = z6)) (.ok (St.mk 36 [(0,V.c (C.sl
  z1 a)),(1,V.c (C.sl z1 b)),(9,V.c (C.sl z1 a)),(10,V.c (C.int .i64 z3)),(11,V.c (C.int .i64 z16))] [(0,Ob.amb)] 1 = St.mk 36 [(0,V.c (C.sl z1 a)),(1,V.c
  (C.sl z1 b)),(9,V.c (C.sl z1 a)),(10,V.c (C.int .i64 z3)),(11,V.c (C.int .i64 z16))] [(0,Ob.amb)] 1∧I z17∧mu z17 < mu v1)))) (.br z15 (.br z10 (.ok
  ((1,()) = z6)) (.ok (St.mk 36 [(0,V.c (C.sl z1 a)),(1,V.c (C.sl z1 b)),(9,V.c (C.sl z1 a)),(10,V.c (C.int .i64 z3)),(11,V.c (C.int .i64 z16))] [(0,
  Ob.amb)] 1 = St.mk 36 [(0,V.c (C.sl z1 a)),(1,V.c (C.sl z1 b)),(9,V.c (C.sl z1 a)),(10,V.c (C.int .i64 z3)),(11,V.c (C.int .i64 z16))] [(0,Ob.amb)] 1∧I
  z17∧mu z17 < mu v1))) (.br (L.cmp .lss z13 z14) (.br z8 (.ok (z9 = z6)) (.ok (St.mk 36 [(0,V.c (C.sl z1 a)),(1,V.c (C.sl z1 b)),(9,V.c (C.sl z1 a)),(10,
  V.c (C.int .i64 z3)),(11,V.c (C.int .i64 z16))] [(0,Ob.amb)] 1 = St.mk 36 [(0,V.c (C.sl z1 a)),(1,V.c (C.sl z1 b)),(9,V.c (C.sl z1 a)),(10,V.c (C.int
  .i64 z3)),(11,V.c (C.int .i64 z16))] [(0,Ob.amb)] 1∧I z17∧mu z17 < mu v1))) (.br (L.cmp .gtr z13 z14) (.br z10 (.ok ((1,()) = z6)) (.ok
  (St.mk 36 [(0,V.c (C.sl z1 a)),(1,V.c (C.sl z1 b)),(9,V.c (C.sl z1 a)),(10,V.c (C.int .i64 z3)),(11,V.c (C.int .i64 z16))] [(0,Ob.amb)] 1 = St.mk 36 [(0,
  V.c (C.sl z1 a)),(1,V.c (C.sl z1 b)),(9,V.c (C.sl z1 a)),(10,V.c (C.int .i64 z3)),(11,V.c (C.int .i64 z16))] [(0,Ob.amb)] 1∧I z17∧mu z17 < mu v1)))
  (.br z7 (.ok ((0,()) = z6)) (.ok (St.mk 36 [(0,V.c (C.sl z1 a)),(1,V.c (C.sl z1 b)),(9,V.c (C.sl z1 a)),(10,V.c (C.int .i64 z3)),(11,V.c (C.int .i64
  z16))] [(0,Ob.amb)] 1 = St.mk 36 [(0,V.c (C.sl z1 a)),(1,V.c (C.sl z1 b)),(9,V.c (C.sl z1 a)),(10,V.c (C.int .i64 z3)),(11,V.c (C.int .i64 z16))] [(0,
  Ob.amb)] 1∧I z17∧mu z17 < mu v1)))))))))) (.br (L.cmp .lss z3 z5) (.ok (z9 = z6)) (.ok ((0,()) = z6))))))
theorem n114_go (L:Lv) (F:BxF) (I:Ds [It]→Prop) (mu:Ds [It]→Nat) (a b:List Int) (h:VC.holds (n114 L F I mu a b)):Holds (vcO L F o112 [213,232] 4 (D114 (a114 L I mu)) (S114 F) (a,b,())):=Holds.of_eq (by kernel_rfl) h
def n111 (L:Lv) (F:BxF) (I:Ds [It]→Prop) (mu:Ds [It]→Nat) (a:List Int)  : VC :=
 let z1:=L.cast (L.llen It a); .obl (St.mk 18 [(3,V.c (C.int .i64 0)),(6,V.c (C.sl It a)),(7,V.c (C.int .i64 z1)),(8,V.c (C.int .i64 0))] [(0,
  Ob.amb)] 1 = St.mk 18 [(3,V.c (C.int .i64 0)),(6,V.c (C.sl It a)),(7,V.c (C.int .i64 z1)),(8,V.c (C.int .i64 0))] [(0,Ob.amb)] 1) (.obl (I (0,()))
  (.all (Int × Unit) fun (v1:Int × Unit) =>
 let z2:=v1.1;
 let z3:=L.toN z2;
 let z4:=L.ar .add .i64 z2 1;
 let z5:=(L.ar .add .i64 z2 1,()); .imp (I v1) (.br (L.cmp .lss z2 z1) (.obl (L.inR z2 (L.llen It a)) (.br (L.cmp .neq (L.get It a
  z3) 0) (.ok ((L.get It a z3,()) = (BxF.or1 F a,()))) (.ok (St.mk 18 [(3,V.c (C.int .i64 0)),(6,V.c (C.sl It a)),(7,V.c (C.int .i64 z1)),(8,V.c
  (C.int .i64 z4))] [(0,Ob.amb)] 1 = St.mk 18 [(3,V.c (C.int .i64 0)),(6,V.c (C.sl It a)),(7,V.c (C.int .i64 z1)),(8,V.c (C.int .i64 z4))] [(0,
  Ob.amb)] 1∧I z5∧mu z5 < mu v1)))) (.ok ((0,()) = (BxF.or1 F a,()))))))
theorem n111_go (L:Lv) (F:BxF) (I:Ds [It]→Prop) (mu:Ds [It]→Nat) (a:List Int) (h:VC.holds (n111 L F I mu a)):Holds (vcC L F [] (D111 (a111 L I mu)) (S111 F) (a,())):=Holds.of_eq (by kernel_rfl) h
def n113 (L:Lv) (F:BxF) (I:List (List Int) × List (List Int) × Unit→Ds [It]→Prop) (mu:List (List Int) × List (List Int) × Unit→Ds [It]→Nat) (a b:List (List Int))  : VC :=
 let z1:=L.llen (Ty.sl It) a;
 let z2:=L.cast z1;
 let z3:=L.llen (Ty.sl It) b;
 let z4:=L.cast z3;
 let z5:=(BxF.cmpLL F a b,()); .obl (St.mk 39 [(0,V.c (C.sl (Ty.sl It) a)),(1,V.c (C.sl (Ty.sl It) b)),(2,V.c (C.fn 124 [])),(11,V.c (C.sl (Ty.sl It) a)),(12,V.c
  (C.int .i64 z2)),(13,V.c (C.int .i64 0))] [(0,Ob.amb)] 1 = St.mk 39 [(0,V.c (C.sl (Ty.sl It) a)),(1,V.c (C.sl (Ty.sl It) b)),(2,V.c (C.fn 124 [])),(11,V.c
  (C.sl (Ty.sl It) a)),(12,V.c (C.int .i64 z2)),(13,V.c (C.int .i64 0))] [(0,Ob.amb)] 1) (.obl (I (a,b,()) (0,())) (.all (Int × Unit) fun (v1:Int ×
  Unit) =>
 let z6:=v1.1;
 let z7:=L.toN z6;
 let z8:=L.get (Ty.sl It) a z7;
 let z9:=L.get (Ty.sl It) b z7;
 let z10:=L.ar .add .i64 z6 1;
 let z11:=(L.ar .add .i64 z6 1,()); .imp (I (a,b,()) v1) (.br (L.cmp .lss z6 z2) (.obl (L.inR z6 z1) (.br (L.cmp .geq z6 z4) (.ok
  ((1,()) = z5)) (.obl (L.inR z6 z3) (.obl (BxF.bl F z8) (.br (L.cmp .neq (BxF.cmpL F z8 z9) 0) (.ok ((BxF.cmpL F z8 z9,()) = z5)) (.ok (St.mk 39 [(0,V.c
  (C.sl (Ty.sl It) a)),(1,V.c (C.sl (Ty.sl It) b)),(2,V.c (C.fn 124 [])),(11,V.c (C.sl (Ty.sl It) a)),(12,V.c (C.int .i64 z2)),(13,V.c (C.int .i64 z10))]
  [(0,Ob.amb)] 1 = St.mk 39 [(0,V.c (C.sl (Ty.sl It) a)),(1,V.c (C.sl (Ty.sl It) b)),(2,V.c (C.fn 124 [])),(11,V.c (C.sl (Ty.sl It) a)),(12,V.c (C.int .i64 z2)),
  (13,V.c (C.int .i64 z10))] [(0,Ob.amb)] 1∧I (a,b,()) z11∧mu (a,b,()) z11 < mu (a,b,()) v1))))))) (.br (L.cmp .lss z2 z4) (.ok ((Int.negSucc 0,())
  = z5)) (.ok ((0,()) = z5))))))
theorem n113_go (L:Lv) (F:BxF) (I:List (List Int) × List (List Int) × Unit→Ds [It]→Prop) (mu:List (List Int) × List (List Int) × Unit→Ds [It]→Nat) (a b:List (List Int)) (h:VC.holds (n113 L F I mu a b)):Holds (vcF L F [124] (D113 (a113 L I mu)) (R113 F) (a,b,())):=Holds.of_eq (by kernel_rfl) h
def n70 (L:Lv) (F:BxF) (a b:EnD)  : VC :=
 let z1:=a.2.1;
 let z2:=a.2.2;
 let z3:=(L.take It [BxF.cmpL F a.1 b.1,BxF.cmpLL F z1 b.2.1,BxF.cmpL F z2 b.2.2] 3); .obl (BxF.bl F a.1)
  (.obl (BxF.bll F z1) (.obl (BxF.bl F z2) (.obl (BxF.bl F z3) (.ok ((BxF.or1 F z3,()) = (BxF.cmpE F a b,()))))))
theorem n70_go (L:Lv) (F:BxF) (a b:EnD) (h:VC.holds (n70 L F a b)):Holds (vcC L F [122,124,167,178] (D70 a0) (S70 F) (a,b,())):=Holds.of_eq (by kernel_rfl) h
theorem ok112 (F:BxF) (h:F.cmpL = cmpLF) (hp:F.bl = bL):SpecOk prog 124 (S112 F):=by
 refine Zc hm hE D112 fnok112 _ fun (z:List Int × List Int × Unit) hpre=>?_
 obtain ⟨a,b,⟨⟩⟩:=z
 have hpre':F.bl a:=hpre
 rw [hp] at hpre'
 have g:a.length≤1000000:=hpre'
 let I:Int × Unit→Prop:=Iv a.length fun k=>lexL cmpI (a.drop k) (b.drop k) = cmpLF a b∧k≤b.length
 refine Yp _ 4 (a112 Lv.std I (Mu a.length)) (Zs (T:=tabO o112 (cT F)) (l:=[123,179]) (Za (Yy (fnok137 a0) (by kernel_rfl)) (Za (Yy (fnok158 a0) (by kernel_rfl)) Z4))) ?_
 refine n112_go Lv.std F I (Mu a.length) a b ?_
 have neg1:(Int.negSucc 0:Int) = -1:=rfl
 simp only [n112,VC.holds,ZJ,Zt,Zr,ZH,Z1,ZG,ZI,Zb,neg1,Zd,Ze,Zu,Zv,Zx,Zy,Zp,Zq,Zk,Zl,h,Prod.mk.injEq,and_true,true_and]
 refine ⟨Iv.zero ⟨rfl,Nat.zero_le _⟩,fun x hx=>?_⟩
 obtain ⟨k,rfl,hk,i3,hkb⟩:=Iv.elim hx
 simp only [Int.toNat_natCast]
 have nx:k < a.length→k < b.length→lexL cmpI (a.drop (k + 1)) (b.drop (k + 1)) = cmpLF a b→I (((k + 1:Nat):Int),())∧Mu a.length (((k + 1:Nat):Int),()) < Mu a.length ((k:Int),()):=fun h1 h0 h2=>⟨Iv.mk (by omega) ⟨h2,h0⟩,Mu.lt h1⟩
 refine ⟨fun hlt=>⟨⟨by omega,hlt⟩,fun hb=>?_,fun hb=>⟨⟨by omega,hb⟩,fun hc=>absurd rfl hc,fun _=>⟨fun hc=>absurd rfl hc,fun _=>⟨fun h1=>⟨fun _=>?_,fun hc=>by cases hc⟩,fun h1=>⟨fun h2=>⟨fun _=>?_,fun hc=>by cases hc⟩,fun h2=>⟨fun hc=>absurd rfl hc,fun _=>?_⟩⟩⟩⟩⟩⟩,fun hge=>⟨fun h1=>?_,fun h1=>?_⟩⟩
 ·rw [lexL_long cmpI a b k (by omega) (by omega)] at i3; exact i3
 ·rw [Y0 cmpI a b k 0 (by omega) (by omega),show cmpI ((a[k]?).getD 0) ((b[k]?).getD 0) = -1 by rw [cmpI,if_pos h1],if_pos (by decide)] at i3; exact i3
 ·rw [Y0 cmpI a b k 0 (by omega) (by omega),show cmpI ((a[k]?).getD 0) ((b[k]?).getD 0) = 1 by rw [cmpI,if_neg (by omega),if_pos h2],if_pos (by decide)] at i3; exact i3
 ·rw [wr hlt g]
  rw [Y0 cmpI a b k 0 (by omega) (by omega),show cmpI ((a[k]?).getD 0) ((b[k]?).getD 0) = 0 by rw [cmpI,if_neg (by omega),if_neg (by omega)],if_neg (by decide)] at i3
  exact nx (by omega) (by omega) i3
 ·rw [show k = a.length by omega,lexL_short cmpI a b (by omega)] at i3; exact i3
 ·have hk':k = a.length:=by omega
  rw [hk',lexL_same cmpI a b (by omega)] at i3; exact i3
theorem ok114 (F:BxF) (h:F.cmpL = cmpLF) (hp:F.bl = bL):SpecOk prog 178 (S114 F):=by
 refine Zc hm hE D114 fnok114 _ fun (z:List Int × List Int × Unit) hpre=>?_
 obtain ⟨a,b,⟨⟩⟩:=z
 have hpre':F.bl a:=hpre
 rw [hp] at hpre'
 have g:a.length≤1000000:=hpre'
 let I:Int × Unit→Prop:=Iv a.length fun k=>lexL cmpI (a.drop k) (b.drop k) = cmpLF a b∧k≤b.length
 refine Yp _ 4 (a114 Lv.std I (Mu a.length)) (Zs (T:=tabO o112 (cT F)) (l:=[213,232]) (Za (Yy (fnok138 a0) (by kernel_rfl)) (Za (Yy (fnok159 a0) (by kernel_rfl)) Z4))) ?_
 refine n114_go Lv.std F I (Mu a.length) a b ?_
 have neg1:(Int.negSucc 0:Int) = -1:=rfl
 simp only [n114,VC.holds,ZJ,Zt,Zr,ZH,Z1,ZG,ZI,Zb,neg1,Zd,Ze,Zu,Zv,Zx,Zy,Zp,Zq,Zk,Zl,h,Prod.mk.injEq,and_true,true_and]
 refine ⟨Iv.zero ⟨rfl,Nat.zero_le _⟩,fun x hx=>?_⟩
 obtain ⟨k,rfl,hk,i3,hkb⟩:=Iv.elim hx
 simp only [Int.toNat_natCast]
 have nx:k < a.length→k < b.length→lexL cmpI (a.drop (k + 1)) (b.drop (k + 1)) = cmpLF a b→I (((k + 1:Nat):Int),())∧Mu a.length (((k + 1:Nat):Int),()) < Mu a.length ((k:Int),()):=fun h1 h0 h2=>⟨Iv.mk (by omega) ⟨h2,h0⟩,Mu.lt h1⟩
 refine ⟨fun hlt=>⟨⟨by omega,hlt⟩,fun hb=>?_,fun hb=>⟨⟨by omega,hb⟩,fun hc=>absurd rfl hc,fun _=>⟨fun hc=>absurd rfl hc,fun _=>⟨fun h1=>⟨fun _=>?_,fun hc=>by cases hc⟩,fun h1=>⟨fun h2=>⟨fun _=>?_,fun hc=>by cases hc⟩,fun h2=>⟨fun hc=>absurd rfl hc,fun _=>?_⟩⟩⟩⟩⟩⟩,fun hge=>⟨fun h1=>?_,fun h1=>?_⟩⟩
 ·rw [lexL_long cmpI a b k (by omega) (by omega)] at i3; exact i3
 ·rw [Y0 cmpI a b k 0 (by omega) (by omega),show cmpI ((a[k]?).getD 0) ((b[k]?).getD 0) = -1 by rw [cmpI,if_pos h1],if_pos (by decide)] at i3; exact i3
 ·rw [Y0 cmpI a b k 0 (by omega) (by omega),show cmpI ((a[k]?).getD 0) ((b[k]?).getD 0) = 1 by rw [cmpI,if_neg (by omega),if_pos h2],if_pos (by decide)] at i3; exact i3
 ·rw [wr hlt g]
  rw [Y0 cmpI a b k 0 (by omega) (by omega),show cmpI ((a[k]?).getD 0) ((b[k]?).getD 0) = 0 by rw [cmpI,if_neg (by omega),if_neg (by omega)],if_neg (by decide)] at i3
  exact nx (by omega) (by omega) i3
 ·rw [show k = a.length by omega,lexL_short cmpI a b (by omega)] at i3; exact i3
 ·have hk':k = a.length:=by omega
  rw [hk',lexL_same cmpI a b (by omega)] at i3; exact i3
theorem ok111 (F:BxF) (h:F.or1 = orF3) (hp:F.bl = bL):SpecOk prog 122 (S111 F):=by
 refine Zc hm hE D111 fnok111 _ fun (z:List Int × Unit) hpre=>?_
 obtain ⟨a,⟨⟩⟩:=z
 have hpre':F.bl a:=hpre
 rw [hp] at hpre'
 have g:a.length≤1000000:=hpre'
 let I:Int × Unit→Prop:=Iv a.length fun k=>orF3 (a.drop k) = orF3 a
 refine Yp _ 3 (a111 Lv.std I (Mu a.length)) (Zs (T:=cT F) (l:=[]) Z4) ?_
 refine n111_go Lv.std F I (Mu a.length) a ?_
 simp only [n111,VC.holds,ZJ,Zt,Zr,ZH,Z1,ZG,ZI,Zb,Zd,Ze,Zp,Zq,h,Prod.mk.injEq,and_true,true_and]
 refine ⟨Iv.zero rfl,fun x hx=>?_⟩
 obtain ⟨k,rfl,hk,i3⟩:=Iv.elim hx
 simp only [Int.toNat_natCast]
 refine ⟨fun hlt=>⟨⟨by omega,hlt⟩,fun hn=>?_,fun hn=>?_⟩,fun hge=>?_⟩
 ·rw [List.drop_eq_getElem_cons (by omega),orF3] at i3
  rw [List.getElem?_eq_getElem (by omega)] at hn ⊢
  have hn':a[k] ≠ 0:=hn
  rw [if_pos hn'] at i3; exact i3
 ·rw [wr hlt g]
  rw [List.drop_eq_getElem_cons (by omega),orF3] at i3
  rw [List.getElem?_eq_getElem (by omega)] at hn
  have hn':¬ a[k] ≠ 0:=fun hc=>hc hn
  rw [if_neg hn'] at i3
  exact ⟨Iv.mk (by omega) i3,Mu.lt (by omega)⟩
 ·rw [show k = a.length by omega,List.drop_length] at i3; exact i3
theorem ok113 (F:BxF) (h:F.cmpLL = cmpLLF) (h1:F.cmpL = cmpLF) (hp:F.bll = fun l=>l.length≤1000000∧∀ x ∈ l,x.length≤1000000) (q:F.bl = bL) (k1:SpecOk prog 124 (S112 F)):XOk prog 167 (R113 F).x:=by
 let I:List (List Int) × List (List Int) × Unit→Int × Unit→Prop:=fun e=>Iv e.1.length fun k=>lexL cmpLF (e.1.drop k) (e.2.1.drop k) = cmpLLF e.1 e.2.1∧k≤e.2.1.length
 let mu:List (List Int) × List (List Int) × Unit→Int × Unit→Nat:=fun e=>Mu e.1.length
 refine fspX_ok hm hE 3 (fns:=only (cT F) [124]) (Zs (Za (Yh k1 (by kernel_rfl)) Z4)) (fnok113 (a113 Lv.std I mu)) (R113 F) fun (z:List (List Int) × List (List Int) × Unit) hpre=>?_
 obtain ⟨a,b,⟨⟩⟩:=z
 have hpre':F.bll a:=hpre
 rw [hp] at hpre'
 obtain ⟨g,g2⟩:=hpre'
 refine n113_go Lv.std F I mu a b ?_
 have neg1:(Int.negSucc 0:Int) = -1:=rfl
 have e1:∀ (l:List (List Int)) (k:Int),Lv.std.get (.sl It) l k.toNat = (l[k.toNat]?).getD []:=fun _ _=>rfl
 simp only [n113,VC.holds,ZJ,Zt,Zr,ZH,e1,ZI,Zb,neg1,Zd,Ze,Zx,Zy,Zp,Zq,Zk,Zl,h,h1,q,Prod.mk.injEq,and_true,true_and]
 refine ⟨Iv.zero ⟨rfl,Nat.zero_le _⟩,fun x hx=>?_⟩
 obtain ⟨k,rfl,hk,i3,hkb⟩:=Iv.elim hx
 have hk:k≤a.length:=hk
 have hkb:k≤b.length:=hkb
 have i3:lexL cmpLF (a.drop k) (b.drop k) = cmpLLF a b:=i3
 simp only [Int.toNat_natCast]
 refine ⟨fun hlt=>⟨⟨by omega,hlt⟩,fun hb=>?_,fun hb=>⟨⟨by omega,hb⟩,?_,fun h1=>?_,fun h1=>?_⟩⟩,fun hge=>⟨fun h1=>?_,fun h1=>?_⟩⟩
 ·rw [lexL_long cmpLF a b k (by omega) (by omega)] at i3; exact i3
 ·rw [List.getElem?_eq_getElem (by omega)]; exact g2 _ (List.getElem_mem _)
 ·rw [Y0 cmpLF a b k [] (by omega) (by omega),if_pos h1] at i3; exact i3
 ·rw [wr hlt g]
  rw [Y0 cmpLF a b k [] (by omega) (by omega),if_neg (fun hc=>hc h1)] at i3
  exact ⟨Iv.mk (by show k + 1≤a.length; omega) ⟨i3,by show k + 1≤b.length; omega⟩,Mu.lt (n:=a.length) (by omega)⟩
 ·rw [show k = a.length by omega,lexL_short cmpLF a b (by omega)] at i3; exact i3
 ·rw [show k = a.length by omega,lexL_same cmpLF a b (by omega)] at i3; exact i3
theorem ok70 (F:BxF) (h:F.cmpE = cmpEF) (h1:F.cmpL = cmpLF) (h2:F.cmpLL = cmpLLF) (h3:F.or1 = orF3) (hp:F.be = sEn) (q:F.bl = bL) (q1:F.bll = fun l=>l.length≤1000000∧∀ x ∈ l,x.length≤1000000)
  (k1:SpecOk prog 122 (S111 F)) (k2:SpecOk prog 124 (S112 F)) (k3:XOk prog 167 (R113 F).x) (k4:SpecOk prog 178 (S114 F)):SpecOk prog 119 (S70 F):=by
 refine Zc hm hE D70 fnok70 _ fun (z:EnD × EnD × Unit) hpre=>?_
 obtain ⟨a,b,⟨⟩⟩:=z
 have hpre':F.be a:=hpre
 rw [hp] at hpre'
 obtain ⟨g1,g2,g4,g3,_⟩:=hpre'
 refine Yp _ 3 a0 (Zs (T:=cT F) (l:=[122,124,167,178]) (Za (Yh k1 (by kernel_rfl)) (Za (Yh k2 (by kernel_rfl)) (Za (XB k3 (by kernel_rfl)) (Za (Yh k4 (by kernel_rfl)) Z4))))) ?_
 refine n70_go Lv.std F a b ?_
 simp only [n70,VC.holds,ZJ,ZO,Zb,Zh,Zm,Yj,Ym,Z5,ZM,Yl,Yk,Yf,ZX,ZY,ZT,ZR,Ye,ZN,Zz,ZD,Zr,Z1,ZS,Z2,ZK,ZW,Yb,ZV,ZP,ZQ,Zt,ZH,Ya,Z3,ZI,Yd,Yc,Z6,Z7,Zg,ZC,ZL,ZU,Z8,Z9,Zd,Ze,ZA,ZB,Zu,Zv,Zx,Zy,Zk,Zl,Zp,Zq,Zi,Zj,Zn,Zo,ZG,ZF,ZZ,Yg,ZE,h,h1,h2,h3,q,q1,cmpEF,Prod.mk.injEq,and_true,true_and]
 exact ⟨g1,⟨g2,g3⟩,g4,by show List.length _≤_; simp,rfl⟩
end Go.Proofs.Tryz
namespace Go.Proofs.Tryz
open Go Go.VM
structure MetOk (p:WkD) (l:List MtD):Prop where
 len:l.length≤20000
 ok:∀ x ∈ l,OkS p x.1
 pos:0 < l.length
 z:∀ h:0 < l.length,(l[0]'h).2.1 = -1
 back:∀ (n:Nat) (h:n < l.length),0 < n→0≤l[n].2.1∧l[n].2.1 < n
theorem MetOk.add {p:WkD} {l:List MtD} (h:MetOk p l) (hl:l.length ≠ 20000) {s:StD} (hs:OkS p s) {a:Nat} (ha:a < l.length) (j:Int):MetOk p (l ++ [(s,(a:Int),j)]) where
 len:=by have:=h.len; simp only [List.length_append,List.length_cons,List.length_nil]; omega
 ok:=fun x hx=>by
  rcases List.mem_append.1 hx with h1 | h1
  ·exact h.ok x h1
  ·rw [List.mem_singleton.1 h1]; exact hs
 pos:=by simp
 z:=fun _=>by rw [List.getElem_append_left h.pos]; exact h.z h.pos
 back:=fun n hn h0=>by
  by_cases hl:n < l.length
  ·rw [List.getElem_append_left hl]; exact h.back n hl h0
  ·have:n = l.length:=by simp at hn; omega
   subst this
   rw [List.getElem_append_right (Nat.le_refl _)]
   simp only [Nat.sub_self,List.getElem_cons_zero]
   omega
theorem addN_ok {p:WkD} {b:Bool} {s:StD} (hp:OkP p) (hs:OkS p s) {a:Nat}:∀ (mv:List MvD) (j:Nat) (l l':List MtD),(∀ v ∈ mv,v ∈ movesF (p,b) s)→MetOk p l→a < l.length→addN (p,b) s a j mv l = some l'→MetOk p l'∧l.length≤l'.length
 | [],j,l,l',_,h,ha,he=>by cases he; exact ⟨h,Nat.le_refl _⟩
 | v :: r,j,l,l',hm,h,ha,he=>by
   rw [addN] at he
   have hr:∀ v ∈ r,v ∈ movesF (p,b) s:=fun v hv=>hm v (List.mem_cons_of_mem _ hv)
   split at he
   ·exact addN_ok hp hs r (j + 1) l l' hr h ha he
   ·split at he
    ·cases he
    ·rename_i hl
     have:=addN_ok hp hs r (j + 1) _ l' hr (h.add hl (do_ok hp hs (hm v (List.mem_cons_self ..))) ha j) (by simp; omega) he
     refine ⟨this.1,?_⟩
     have h2:=this.2
     simp at h2
     omega
theorem bfsN_ok {p:WkD} {b:Bool} (hp:OkP p):∀ (f a:Nat) (l l':List MtD),MetOk p l→bfsN (p,b) f a l = some l'→MetOk p l'
 | 0,a,l,l',h,he=>by cases he; exact h
 | f + 1,a,l,l',h,he=>by
   rw [bfsN] at he
   by_cases ha:a < l.length
   ·rw [List.getElem?_eq_getElem ha] at he
    simp only at he
    cases hx:addN (p,b) l[a].1 a 0 (movesF (p,b) l[a].1) l with
    | none=>rw [hx] at he; cases he
    | some l1 =>
      rw [hx] at he
      have h1:=addN_ok hp (h.ok _ (List.getElem_mem ha)) _ _ _ _ (fun v hv=>hv) h ha hx
      exact bfsN_ok hp f (a + 1) l1 l' h1.1 he
   ·rw [List.getElem?_eq_none (by omega)] at he; cases he; exact h
theorem all_cases {p:WkD} {b:Bool} (hp:OkP p):(allF (p,b) = ([],5)∧bfs0 (p,b) = none)∨∃ l,allF (p,b) = (l,0)∧MetOk p l∧bfs0 (p,b) = some l:=by
 cases he:bfs0 (p,b) with
 | none=>left; exact ⟨by rw [allF,he],rfl⟩
 | some l =>
   right
   refine ⟨l,by rw [allF,he],?_,rfl⟩
   refine bfsN_ok hp _ _ _ _ ⟨by simp,fun x hx=>?_,by simp,fun _=>rfl,fun n hn h0=>?_⟩ he
   ·rw [List.mem_singleton.1 hx]; exact first_ok hp
   ·simp at hn; omega
theorem all_ok {p:WkD} {b:Bool} (hp:OkP p) (h0:(allF (p,b)).2 = 0):MetOk p (allF (p,b)).1:=by
 rcases all_cases (b:=b) hp with ⟨h,_⟩ | ⟨l,h,hl,_⟩
 ·rw [h] at h0; cases h0
 ·rw [h]; exact hl
def endsOf (m:McD) (l:List MtD):List EnD:=(l.filter fun x=>endedF m x.1).map fun x=>endOfF m x.1
theorem endsOf_succ (m:McD) (l:List MtD) (k:Nat) (h:k < l.length):endsOf m (l.take (k + 1)) = endsOf m (l.take k) ++ if endedF m l[k].1 then [endOfF m l[k].1] else []:=by
 rw [List.take_succ,List.getElem?_eq_getElem h]
 unfold endsOf
 rw [List.filter_append,List.map_append]
 congr 1
 show (([l[k]]).filter _).map _ = _
 cases hc:endedF m l[k].1 <;> simp [hc]
theorem endsOf_len (m:McD) (l:List MtD) (k:Nat):(endsOf m (l.take k)).length≤k:=by
 unfold endsOf
 rw [List.length_map]
 exact Nat.le_trans (List.length_filter_le _ _) (by simp; omega)
def endsG (sort comp:List EnD→List EnD) (m:McD):List EnD × Int × Int :=
 if checkF m.1 ≠ 0 then ([],0,checkF m.1)
 else if (allF m).2 ≠ 0 then ([],0,(allF m).2)
 else (comp (sort (endsOf m (allF m).1)),((allF m).1.length:Int),0)
theorem howF_b (t:ThD) (n:Nat):0≤howF t n∧howF t n < 256:=by
 unfold howF; split
 ·omega
 ·split <;> omega
theorem ok_sEn {p:WkD} {b:Bool} {s:StD} (hp:OkP p) (hs:OkS p s):sEn (endOfF (p,b) s):=by
 have hb:=ok_bS hp hs
 refine ⟨hb.1,?_,?_,fun l hl=>?_,fun x hx=>?_⟩
 ·show ((List.range s.2.length).map _).length≤_; rw [List.length_map,List.length_range]; exact hb.2.1
 ·show ((List.range s.2.length).map _).length≤_; rw [List.length_map,List.length_range]; exact hb.2.1
 ·obtain ⟨k,hk,rfl⟩:=List.mem_map.1 hl
  have hk:k < s.2.length:=List.mem_range.1 hk
  show (((s.2[(k:Int).toNat]?).getD _).2.2.2.1).length≤_
  rw [Int.toNat_natCast,List.getElem?_eq_getElem hk]
  exact (hb.2.2 _ (List.getElem_mem hk)).2.2
 ·obtain ⟨k,hk,rfl⟩:=List.mem_map.1 hx
  exact howF_b _ _
def picksN (l:List MtD):Nat→Nat→List Int
 | 0,_=>[]
 | f + 1,n=>if n = 0 then [] else match l[n]? with
   | none=>[]
   | some x=>x.2.2 :: picksN l f x.2.1.toNat
def hitF (m:McD) (e:EnD) (x:MtD):Bool:=endedF m x.1 && decide (cmpEF (endOfF m x.1) e = 0)
def wayG (p:WkD) (e:EnD):List Int × Int :=
 if checkF p ≠ 0 then ([],checkF p)
 else if (allF (p,false)).2 ≠ 0 then ([],(allF (p,false)).2)
 else match (allF (p,false)).1.findIdx? (hitF (p,false) e) with
  | none=>([],7)
  | some n=>((picksN (allF (p,false)).1 20001 n).reverse,0)
end Go.Proofs.Tryz
namespace Go.Proofs.Tryz
open Go Go.VM
def pushE (l:List EnD) (x:EnD):List EnD:=if l.getLast? = some x then l else l ++ [x]
def compL (l:List EnD):List EnD:=l.foldl pushE []
theorem XR (l:List EnD) (x:EnD):compL (l ++ [x]) = pushE (compL l) x:=by unfold compL; rw [List.foldl_append]; rfl
theorem pushE_last (l:List EnD) (x:EnD):(pushE l x).getLast? = some x:=by
 unfold pushE; split
 ·assumption
 ·simp
theorem compL_last (l:List EnD):(compL l).getLast? = l.getLast?:=by
 rcases List.eq_nil_or_concat l with rfl | ⟨q,x,rfl⟩
 ·rfl
 ·rw [List.concat_eq_append,XR,pushE_last]; simp
theorem compL_step (l:List EnD) (k:Nat) (h:k < l.length) (h1:0 < k):compL (l.take (k + 1)) = if l[k - 1]'(by omega) = l[k] then compL (l.take k) else compL (l.take k) ++ [l[k]]:=by
 have hk:(l.take k).length = k:=by rw [List.length_take]; omega
 have hk1:k - 1 < l.length:=by omega
 have e:(l.take k).getLast? = some l[k - 1]:=by
  rw [List.getLast?_eq_getElem?,hk,List.getElem?_take,List.getElem?_eq_getElem hk1]
  exact if_pos (by omega)
 have e2:l.take (k + 1) = l.take k ++ [l[k]]:=by rw [List.take_succ,List.getElem?_eq_getElem h]; rfl
 rw [e2,XR]
 unfold pushE
 rw [compL_last,e]
 simp only [Option.some.injEq]
structure Ord3 {α:Type} (c:α→α→Int):Prop where
 eq:∀ a b,c a b = 0↔a = b
 anti:∀ a b,c b a = - c a b
 trans:∀ a b d,c a b < 0→c b d < 0→c a d < 0
theorem Ord3.int:Ord3 cmpI where
 eq:=cmpI_eq
 anti:=fun a b=>by
  unfold cmpI
  by_cases h1:a < b
  ·rw [if_pos h1,if_neg (by omega),if_pos h1]; rfl
  ·by_cases h2:b < a
   ·rw [if_pos h2,if_neg h1,if_pos h2]
   ·rw [if_neg h2,if_neg h1,if_neg h1,if_neg h2]; rfl
 trans:=fun a b d h1 h2=>by
  unfold cmpI at *
  split at h1
  ·split at h2
   ·rw [if_pos (by omega)]; omega
   ·split at h2 <;> omega
  ·split at h1 <;> omega
theorem lexL_anti {α:Type} {c:α→α→Int} (h:Ord3 c):∀ l q:List α,lexL c q l = - lexL c l q
 | [],[]=>by simp [lexL]
 | [],_ :: _=>by simp [lexL]
 | _ :: _,[]=>by simp [lexL]
 | a :: r,b :: q=>by
   unfold lexL
   have:=h.anti a b
   by_cases h0:c a b = 0
   ·rw [if_neg (by omega),if_neg (by omega)]; exact lexL_anti h r q
   ·rw [if_pos (by omega),if_pos (by omega)]; exact this
theorem lexL_trans {α:Type} {c:α→α→Int} (h:Ord3 c):∀ l q s:List α,lexL c l q < 0→lexL c q s < 0→lexL c l s < 0
 | [],[],_,h1,_=>by simp [lexL] at h1
 | [],_ :: _,[],_,h2=>by simp [lexL] at h2
 | [],_ :: _,_ :: _,_,_=>by simp [lexL]
 | _ :: _,[],_,h1,_=>by simp [lexL] at h1
 | _ :: _,_ :: _,[],_,h2=>by simp [lexL] at h2
 | a :: r,b :: q,d :: s,h1,h2=>by
   unfold lexL at h1 h2 ⊢
   by_cases e1:c a b = 0
   ·rw [if_neg (by omega)] at h1
    have:=(h.eq a b).1 e1
    subst this
    by_cases e2:c a d = 0
    ·rw [if_neg (by omega)] at h2 ⊢
     exact lexL_trans h r q s h1 h2
    ·rw [if_pos e2] at h2 ⊢; exact h2
   ·rw [if_pos e1] at h1
    by_cases e2:c b d = 0
    ·have:=(h.eq b d).1 e2
     subst this
     rw [if_pos e1]; exact h1
    ·rw [if_pos e2] at h2
     have:=h.trans a b d h1 h2
     rw [if_pos (by omega)]; exact this
theorem Ord3.lex {α:Type} {c:α→α→Int} (h:Ord3 c):Ord3 (lexL c):=⟨lexL_eq c h.eq,fun a b=>lexL_anti h a b,lexL_trans h⟩
theorem Ord3.both {α β:Type} {c:α→α→Int} {d:β→β→Int} (h:Ord3 c) (k:Ord3 d):Ord3 fun a b:α × β=>if c a.1 b.1 ≠ 0 then c a.1 b.1 else d a.2 b.2 where
 eq:=fun a b=>by
  by_cases e:c a.1 b.1 = 0
  ·simp only [e,ne_eq,not_true_eq_false,if_false,k.eq]
   exact ⟨fun e2=>Prod.ext ((h.eq _ _).1 e) e2,fun e2=>by rw [e2]⟩
  ·simp only [ne_eq,e,not_false_eq_true,if_true]
   exact ⟨fun e2=>e2.elim,fun e2=>e ((h.eq _ _).2 (by rw [e2]))⟩
 anti:=fun a b=>by
  have h1:=h.anti a.1 b.1
  have h2:=k.anti a.2 b.2
  by_cases e:c a.1 b.1 = 0
  ·try simp only
   rw [if_neg (by omega),if_neg (by omega)]; exact h2
  ·try simp only
   rw [if_pos (by omega),if_pos (by omega)]; exact h1
 trans:=fun a b d' h1 h2=>by
  try simp only at h1 h2 ⊢
  by_cases e1:c a.1 b.1 = 0
  ·rw [if_neg (by omega)] at h1
   have e1':=(h.eq _ _).1 e1
   rw [← e1'] at h2
   by_cases e2:c a.1 d'.1 = 0
   ·rw [if_neg (by omega)] at h2 ⊢
    exact k.trans _ _ _ h1 h2
   ·rw [if_pos e2] at h2 ⊢; exact h2
  ·rw [if_pos e1] at h1
   by_cases e2:c b.1 d'.1 = 0
   ·have e2':=(h.eq _ _).1 e2
    rw [← e2',if_pos e1]; exact h1
   ·rw [if_pos e2] at h2
    have:=h.trans _ _ _ h1 h2
    rw [if_pos (by omega)]; exact this
theorem cmpE_ord:Ord3 cmpEF:=by
 have h:Ord3 fun a b:EnD=>if cmpLF a.1 b.1 ≠ 0 then cmpLF a.1 b.1 else if cmpLLF a.2.1 b.2.1 ≠ 0 then cmpLLF a.2.1 b.2.1 else cmpLF a.2.2 b.2.2:=Ord3.int.lex.both (Ord3.int.lex.lex.both Ord3.int.lex)
 have e:cmpEF = fun a b:EnD=>if cmpLF a.1 b.1 ≠ 0 then cmpLF a.1 b.1 else if cmpLLF a.2.1 b.2.1 ≠ 0 then cmpLLF a.2.1 b.2.1 else cmpLF a.2.2 b.2.2:=by
  funext a b
  unfold cmpEF orF3 orF3 orF3 orF3
  split
  ·rfl
  ·split
   ·rfl
   ·split
    ·rfl
    ·rename_i h; simp only [ne_eq,Decidable.not_not] at h; rw [h]
 rw [e]; exact h
theorem Ord3.swo {α:Type} {c:α→α→Int} (h:Ord3 c):Go.Sort.SWO (Go.Proofs.ltOf c) where
 irrefl:=fun x=>by
  unfold Go.Proofs.ltOf
  have:=(h.eq x x).2 rfl
  exact decide_eq_false (by omega)
 trans:=fun x y z h1 h2=>by
  unfold Go.Proofs.ltOf at *
  exact decide_eq_true (h.trans _ _ _ (of_decide_eq_true h1) (of_decide_eq_true h2))
 ntrans:=fun x y z h1 h2=>by
  unfold Go.Proofs.ltOf at *
  have h1:=of_decide_eq_false h1
  have h2:=of_decide_eq_false h2
  refine decide_eq_false fun h3=>?_
  have a1:=h.anti x y
  have a2:=h.anti y z
  have a3:=h.anti x z
  by_cases e1:c x y = 0
  ·rw [(h.eq _ _).1 e1] at h3; exact h2 h3
  ·by_cases e2:c y z = 0
   ·rw [← (h.eq _ _).1 e2] at h3; exact h1 h3
   ·have:=h.trans z y x (by omega) (by omega)
    omega
theorem Ord3.tot {α:Type} {c:α→α→Int} (h:Ord3 c) (x y:α) (h1:Go.Proofs.ltOf c x y = false) (h2:Go.Proofs.ltOf c y x = false):x = y:=by
 unfold Go.Proofs.ltOf at *
 have h1:=of_decide_eq_false h1
 have h2:=of_decide_eq_false h2
 have:=h.anti x y
 exact (h.eq _ _).1 (by omega)
end Go.Proofs.Tryz
