/- What functions of the weak memory compute, proved through the condition generator, and plain facts of it. Conditions: none of ours. -/
import Derived.Test.YtljepnnnjfalcaaGreatC26
set_option autoImplicit false
set_option maxRecDepth 100000
set_option linter.all false
namespace Go.Proofs.Tryz
open Go Go.VM
def ab59 (L:Lv) (I:Ds [It]→Prop) (mu:Ds [It]→Nat):Nat→LAnn
 | 0=>anH L [0,1,5] [] [.s 5 It] I mu
 | _=>.no
def ab70 (L:Lv) (I:Ds [.sl (.sl It),It]→Prop) (mu:Ds [.sl (.sl It),It]→Nat):Nat→LAnn
 | 0=>anH L [2,6,7,8] [(2,none,22,.sl It)] [.r 2 (.sl It),.s 8 It] I mu
 | _=>.no
def ab147 (L:Lv) (I:Ds [It,It]→Prop) (mu:Ds [It,It]→Nat):Nat→LAnn
 | 0=>anH L [0,3,4] [] [.s 3 It,.s 4 It] I mu
 | _=>.no
def ab148 (L:Lv) (I:List (List Int) × Unit→Ds [It,It]→Prop) (mu:List (List Int) × Unit→Ds [It,It]→Nat) (I2:List (List Int) × Unit→Ds [.sl It,It]→Prop) (m2:List (List Int) × Unit→Ds [.sl It,It]→Nat):Nat→LAnn
 | 0=>anE L [0,3,9,10,11] [] [.h (.s 9 (.sl (.sl It)))] [.s 3 It,.s 11 It] I mu
 | 2=>anE L [6,25,26,27] [] [.h (.s 25 (.sl (.sl It)))] [.r 6 It,.s 27 It] I2 m2
 | _=>.no
def nb16 (L:Lv) (F:BxF) (M:BeF) (w:Int) (r:Bool)  : VC :=
 .br r (.ok (((0,1,true,L.take It [w] 1,L.take (Ty.sl It) [L.take It [7] 1] 1),()) = (BeF.ex M w r,()))) (.ok (((0,1,false,L.take It [w] 1,L.take
  (Ty.sl It) [L.take It [7] 1] 1),()) = (BeF.ex M w r,())))
theorem nb16_go (L:Lv) (F:BxF) (M:BeF) (w:Int) (r:Bool) (h:VC.holds (nb16 L F M w r)):Holds (vcE L F M [] [] 3 (Db16 a0) (Sb16 M) (w,r,())):=Holds.of_eq (by kernel_rfl) h
def nb19 (L:Lv) (F:BxF) (M:BeF) (w:Int) (s l:List Int)  : VC :=
 .ok (((w,L.take (Ty.sl It) [s] 1,l),()) = (BeF.en M w s l,()))
theorem nb19_go (L:Lv) (F:BxF) (M:BeF) (w:Int) (s l:List Int) (h:VC.holds (nb19 L F M w s l)):Holds (vcE L F M [] [] 3 (Db19 a0) (Sb19 M) (w,s,l,())):=Holds.of_eq (by kernel_rfl) h
def nb72 (L:Lv) (F:BxF) (M:BeF) (e:BeD)  : VC :=
 let z1:=L.take (Ty.sl It) [] 0;
 let z2:=e.2.1;
 let z3:=L.add (L.llen (Ty.sl It) z1) (L.llen (Ty.sl It) z2);
 let z4:=L.take (Ty.sl It) (L.app (Ty.sl It) z1 z2) z3;
 let z5:=L.take (Ty.sl It) [Prod.snd e.2] 1;
 let z6:=L.add (L.llen (Ty.sl It) z4) (L.llen (Ty.sl It) z5); .obl (L.room z3 24) (.obl (L.room z6 24) (.ok (((L.take It [Prod.fst e] 1,L.take (Ty.sl
  It) (L.app (Ty.sl It) z4 z5) z6,[]),()) = (BeF.wk M e,()))))
theorem nb72_go (L:Lv) (F:BxF) (M:BeF) (e:BeD) (h:VC.holds (nb72 L F M e)):Holds (vcE L F M [] [] 3 (Db72 a0) (Sb72 M) (e,())):=Holds.of_eq (by kernel_rfl) h
def nb18 (L:Lv) (F:BxF) (M:BeF) (a b:BeD)  : VC :=
 let z1:=a.2;
 let z2:=b.2;
 let z3:=(Prod.fst a,z1.1,z1.2);
 let z4:=(Prod.fst b,z2.1,z2.2);
 let z5:=Prod.snd (BeF.wk M z3);
 let z6:=(Prod.fst (BeF.wk M z3),z5.1,z5.2);
 let z7:=Prod.snd (BeF.wk M z4);
 let z8:=(Prod.fst (BeF.wk M z4),z7.1,z7.2); .br (L.cmp .eql (L.cast (L.llen (Ty.sl It) z1.1)) (L.cast (L.llen (Ty.sl It) (Prod.fst
  z2)))) (.obl (BeF.bE M z3) (.obl (BeF.bE M z4) (.obl (BxF.be F z6∧BxF.be F z8) (.br (BxF.sameE F z6 z8) (.ok ((true,()) = (BeF.same M a b,()))) (.ok ((false,())
  = (BeF.same M a b,()))))))) (.ok ((false,()) = (BeF.same M a b,())))
theorem nb18_go (L:Lv) (F:BxF) (M:BeF) (a b:BeD) (h:VC.holds (nb18 L F M a b)):Holds (vcE L F M [] [72,71] 3 (Db18 a0) (Sb18 M) (a,b,())):=Holds.of_eq (by kernel_rfl) h
def nb59 (L:Lv) (F:BxF) (M:BeF) (I:Ds [It]→Prop) (mu:Ds [It]→Nat) (a b:List BeD)  : VC :=
 let z1:=L.cast (L.llen Be a); .br (L.cmp .neq z1 (L.cast (L.llen Be b))) (.ok ((false,()) = (BeF.sames M a b,()))) (.obl (St.mk 27 [(0,V.c (C.sl Be
  a)),(1,V.c (C.sl Be b)),(5,V.c (C.int .i64 0))] [(0,Ob.amb)] 1 = St.mk 27 [(0,V.c (C.sl Be a)),(1,V.c (C.sl Be b)),(5,V.c (C.int .i64 0))] [(0,Ob.amb)]
  1) (.obl (I (0,())) (.all (Int × Unit) fun (v1:Int × Unit) =>
 let z2:=v1.1;
 let z3:=L.toN z2;
 let z4:=L.get Be a z3;
 let z5:=z4.2;
 let z6:=(Prod.fst z4,z5.1,z5.2);
 let z7:=L.get Be b z3;
 let z8:=z7.2;
 let z9:=(Prod.fst z7,z8.1,z8.2);
 let z10:=L.ar .add .i64 z2 1;
 let z11:=(L.ar .add .i64 z2 1,()); .imp (I v1) (.br (L.cmp .lss z2 z1) (.obl (L.inR z2 (L.llen Be a)) (.obl (L.inR z2 (L.llen Be b))
  (.obl (BeF.bE M z6∧BeF.bE M z9) (.br (BeF.same M z6 z9) (.ok (St.mk 27 [(0,V.c (C.sl Be a)),(1,V.c (C.sl Be b)),(5,V.c (C.int .i64 z10))] [(0,Ob.amb)] 1 =
  St.mk 27 [(0,V.c (C.sl Be a)),(1,V.c (C.sl Be b)),(5,V.c (C.int .i64 z10))] [(0,Ob.amb)] 1∧I z11∧mu z11 < mu v1)) (.ok ((false,()) = (BeF.sames M a b,
  ()))))))) (.ok ((true,()) = (BeF.sames M a b,())))))))
theorem nb59_go (L:Lv) (F:BxF) (M:BeF) (I:Ds [It]→Prop) (mu:Ds [It]→Nat) (a b:List BeD) (h:VC.holds (nb59 L F M I mu a b)):Holds (vcE L F M [] [18] 3 (Db59 (ab59 L I mu)) (Sb59 M) (a,b,())):=Holds.of_eq (by kernel_rfl) h
def nb105 (L:Lv) (F:BxF) (M:BeF) (a b:BeD)  : VC :=
 let z1:=a.2.1;
 let z2:=a.2.2;
 let z3:=(L.take It [BeF.cmpN M a.1 b.1,BxF.cmpLL F z1 b.2.1,BxF.cmpL F z2 b.2.2] 3); .obl True (.obl (BxF.bll F z1)
  (.obl (BxF.bl F z2) (.obl (BxF.bl F z3) (.ok ((BxF.or1 F z3,()) = (BeF.cmpB M a b,()))))))
theorem nb105_go (L:Lv) (F:BxF) (M:BeF) (a b:BeD) (h:VC.holds (nb105 L F M a b)):Holds (vcE L F M [] [122,123,124,167] 3 (Db105 a0) (Sb105 M) (a,b,())):=Holds.of_eq (by kernel_rfl) h
def nb123 (L:Lv) (F:BxF) (M:BeF) (a b:Int)  : VC :=
 let z1:=L.cmp .neq b b;
 let z2:=(Int.negSucc 0,()); .br (L.cmp .neq a a) (.br z1 (.ok ((0,()) = (BeF.cmpN M a b,()))) (.ok (z2 = (BeF.cmpN M a b,())))) (.br z1 (.ok ((1,()) =
  (BeF.cmpN M a b,()))) (.br (L.cmp .lss a b) (.ok (z2 = (BeF.cmpN M a b,()))) (.br (L.cmp .gtr a b) (.ok ((1,()) = (BeF.cmpN M a b,()))) (.ok ((0,
  ()) = (BeF.cmpN M a b,()))))))
theorem nb123_go (L:Lv) (F:BxF) (M:BeF) (a b:Int) (h:VC.holds (nb123 L F M a b)):Holds (vcE L F M [(179,.inl (Db179 a0))] [179] 3 (Db123 a0) (Sb123 M) (a,b,())):=Holds.of_eq (by kernel_rfl) h
def nb107 (L:Lv) (F:BxF) (M:BeF) (a b:BeD)  : VC :=
 let z1:=(Prod.fst a,a.2.1,a.2.2); .obl (BeF.bE M z1) (.br (L.cmp .eql (BeF.cmpB M z1 (Prod.fst b,b.2.1,Prod.snd
  b.2)) 0) (.ok ((true,()) = (BeF.same M a b,()))) (.ok ((false,()) = (BeF.same M a b,()))))
theorem nb107_go (L:Lv) (F:BxF) (M:BeF) (a b:BeD) (h:VC.holds (nb107 L F M a b)):Holds (vcE L F M [] [105] 3 (Db107 a0) (Sb107 M) (a,b,())):=Holds.of_eq (by kernel_rfl) h
def nb62 (L:Lv) (F:BxF) (M:BeF) (b:BlD)  : VC :=
 let z1:=b.2.2;
 let z2:=z1.2;
 let z3:=(Prod.fst b,b.2.1,z1.1,z2.1,z2.2); .obl (BeF.bB M z3) (.ok ((z3,BeF.chk M z3,()) = (b,BeF.chk M b,())))
theorem nb62_go (L:Lv) (F:BxF) (M:BeF) (b:BlD) (h:VC.holds (nb62 L F M b)):Holds (vcE L F M [] [22] 3 (Db62 a0) (Sb62 M) (b,())):=Holds.of_eq (by kernel_rfl) h
def nb34 (L:Lv) (F:BxF) (M:BeF) (b:BlD)  : VC :=
 let z1:=b.2.2;
 let z2:=z1.2;
 let z3:=(Prod.fst b,b.2.1,z1.1,z2.1,z2.2);
 let z4:=(Prod.fst (BeF.sumE M b),Prod.snd (BeF.sumE M b),()); .obl (BeF.bB M z3) (.br (L.cmp .neq (BeF.chk M z3) 0) (.ok ((0,BeF.chk M z3,()) = z4)) (.obl
  (BeF.bB M z3) (.ok ((BeF.sum M z3,0,()) = z4))))
theorem nb34_go (L:Lv) (F:BxF) (M:BeF) (b:BlD) (h:VC.holds (nb34 L F M b)):Holds (vcE L F M [] [62,88] 3 (Db34 a0) (Sb34 M) (b,())):=Holds.of_eq (by kernel_rfl) h
def nb147 (L:Lv) (F:BxF) (M:BeF) (I:Ds [It,It]→Prop) (mu:Ds [It,It]→Nat) (l:List Int)  : VC :=
 let z1:=L.llen It l;
 let z2:=L.cast z1;
 let z3:=L.get It l (L.toN 0); .br (L.cmp .lss z2 1) .bad (.obl (L.inR 0 z1) (.obl (St.mk 25 [(0,V.c (C.sl It l)),(3,V.c (C.int .i64 z3)),(4,
  V.c (C.int .i64 1))] [(0,Ob.amb)] 1 = St.mk 25 [(0,V.c (C.sl It l)),(3,V.c (C.int .i64 z3)),(4,V.c (C.int .i64 1))] [(0,Ob.amb)] 1) (.obl (I (Lv.get
  L It l (L.toN 0),1,())) (.all (Int × Int × Unit) fun (v1:Int × Int × Unit) =>
 let z4:=v1.2.1;
 let z5:=L.get It l (L.toN z4);
 let z6:=L.mx v1.1 z5;
 let z7:=L.ar .add .i64 z4 1;
 let z8:=(L.mx v1.1 z5,L.ar .add .i64 z4 1,()); .imp (I v1) (.br (L.cmp .lss z4 z2) (.obl (L.inR z4 z1) (.ok (St.mk 25 [(0,V.c
  (C.sl It l)),(3,V.c (C.int .i64 z6)),(4,V.c (C.int .i64 z7))] [(0,Ob.amb)] 1 = St.mk 25 [(0,V.c (C.sl It l)),(3,V.c (C.int .i64 z6)),(4,V.c (C.int
  .i64 z7))] [(0,Ob.amb)] 1∧I z8∧mu z8 < mu v1))) (.ok ((Prod.fst v1,()) = (BeF.max M l,()))))))))
theorem nb147_go (L:Lv) (F:BxF) (M:BeF) (I:Ds [It,It]→Prop) (mu:Ds [It,It]→Nat) (l:List Int) (h:VC.holds (nb147 L F M I mu l)):Holds (vcE L F M [] [] 3 (Db147 (ab147 L I mu)) (Sb147 M) (l,())):=Holds.of_eq (by kernel_rfl) h
def rb148 (L:Lv) (F:BxF) (M:BeF) (I:List (List Int) × Unit→Ds [It,It]→Prop) (mu:List (List Int) × Unit→Ds [It,It]→Nat) (I2:List (List Int) × Unit→Ds [.sl It,It]→Prop) (m2:List (List Int) × Unit→Ds [.sl It,It]→Nat) (l:List (List Int))  : VC :=
 let z1:=L.llen (Ty.sl It) l;
 let z2:=L.cast z1; .obl (St.mk 36 [(0,V.c (C.sl (Ty.sl It) l)),(3,V.c (C.int .i64 0)),(9,V.c (C.sl (Ty.sl It) l)),(10,V.c (C.int .i64 z2)),(11,V.c
  (C.int .i64 0))] [(0,Ob.amb)] 1 = St.mk 36 [(0,V.c (C.sl (Ty.sl It) l)),(3,V.c (C.int .i64 0)),(9,V.c (C.sl (Ty.sl It) l)),(10,V.c (C.int .i64 z2)),
  (11,V.c (C.int .i64 0))] [(0,Ob.amb)] 1) (.obl (I (l,()) (0,0,())) (.all (Int × Int × Unit) fun (v1:Int × Int × Unit) =>
 let z3:=v1.2.1;
 let z4:=v1.1;
 let z5:=L.cast (L.llen It (L.get (Ty.sl It) l (L.toN z3)));
 let z6:=L.ar .add .i64 z4 z5;
 let z7:=L.ar .add .i64 z3 1;
 let z8:=(L.ar .add .i64 z4 z5,L.ar .add .i64 z3 1,()); .imp (I (l,()) v1) (.br (L.cmp .lss z3 z2) (.obl (L.inR z3 z1) (.br
  (L.cmp .lss z6 0) .bad (.ok (St.mk 36 [(0,V.c (C.sl (Ty.sl It) l)),(3,V.c (C.int .i64 z6)),(9,V.c (C.sl (Ty.sl It) l)),(10,V.c (C.int .i64 z2)),
  (11,V.c (C.int .i64 z7))] [(0,Ob.amb)] 1 = St.mk 36 [(0,V.c (C.sl (Ty.sl It) l)),(3,V.c (C.int .i64 z6)),(9,V.c (C.sl (Ty.sl It) l)),(10,V.c (C.int
  .i64 z2)),(11,V.c (C.int .i64 z7))] [(0,Ob.amb)] 1∧I (l,()) z8∧mu (l,()) z8 < mu (l,()) v1)))) (.obl (L.mkOk z4 z4 8) (.obl (St.mk 36 [(6,V.c
  (C.own 2 0)),(25,V.c (C.sl (Ty.sl It) l)),(26,V.c (C.int .i64 z2)),(27,V.c (C.int .i64 0))] [(0,Ob.amb),(2,Ob.row 3 It [])] 3 = St.mk 36 [(6,V.c (C.own 2
  (L.llen It []))),(25,V.c (C.sl (Ty.sl It) l)),(26,V.c (C.int .i64 z2)),(27,V.c (C.int .i64 0))] [(0,Ob.amb),(2,Ob.row 3 It [])] 3) (.obl (I2 (l,())
  ([],0,())) (.all (List Int × Int × Unit) fun (v2:List Int × Int × Unit) =>
 let z9:=v2.2.1;
 let z10:=v2.1;
 let z11:=L.take It z10 (L.llen It z10);
 let z12:=L.get (Ty.sl It) l (L.toN z9);
 let z13:=L.add (L.llen It z11) (L.llen It z12);
 let z14:=L.ar .add .i64 z9 1;
 let z15:=L.app It z11 z12;
 let z16:=(L.app It z11 z12,L.ar .add .i64 z9 1,()); .imp (I2 (l,()) v2) (.br (L.cmp .lss z9 z2) (.obl (L.inR z9 z1) (.obl (L.room z13
  8) (.ok (St.mk 36 [(6,V.c (C.own 2 z13)),(25,V.c (C.sl (Ty.sl It) l)),(26,V.c (C.int .i64 z2)),(27,V.c (C.int .i64 z14))] [(0,Ob.amb),(2,Ob.row 3 It
  z15)] 3 = St.mk 36 [(6,V.c (C.own 2 (L.llen It z15))),(25,V.c (C.sl (Ty.sl It) l)),(26,V.c (C.int .i64 z2)),(27,V.c (C.int .i64 z14))] [(0,Ob.amb),(2,
  Ob.row 3 It z15)] 3∧I2 (l,()) z16∧m2 (l,()) z16 < m2 (l,()) v2)))) (.ok (3 = 3∧Prod.fst v2 = BeF.cat M l∧L.llen It z10 = L.llen It z10))))))))))
theorem rb148_go (L:Lv) (F:BxF) (M:BeF) (I:List (List Int) × Unit→Ds [It,It]→Prop) (mu:List (List Int) × Unit→Ds [It,It]→Nat) (I2:List (List Int) × Unit→Ds [.sl It,It]→Prop) (m2:List (List Int) × Unit→Ds [.sl It,It]→Nat) (l:List (List Int)) (h:VC.holds (rb148 L F M I mu I2 m2 l)):Holds (vcER L F M [] [184] 3 (Db148 (ab148 L I mu I2 m2)) (Rb148 M) (l,())):=Holds.of_eq (by kernel_rfl) h
def nb88 (L:Lv) (F:BxF) (M:BeF) (b:BlD)  : VC :=
 let z1:=b.2.2.2.2;
 let z2:=L.take It (BeF.cat M z1) (L.llen It (BeF.cat M z1));
 let z3:=L.take It [Prod.fst b] 1;
 let z4:=L.add (L.llen It z2) (L.llen It z3);
 let z5:=L.take It (L.app It z2 z3) z4; .obl (BeF.bLL M z1) (.obl (L.room z4 8) (.obl (BeF.pMax M z5) (.ok ((BeF.max M z5,()) = (BeF.sum M b,())))))
theorem nb88_go (L:Lv) (F:BxF) (M:BeF) (b:BlD) (h:VC.holds (nb88 L F M b)):Holds (vcE L F M [] [147,148] 3 (Db88 a0) (Sb88 M) (b,())):=Holds.of_eq (by kernel_rfl) h
def nb70 (L:Lv) (F:BxF) (M:BeF) (I:Ds [.sl (.sl It),It]→Prop) (mu:Ds [.sl (.sl It),It]→Nat) (s:StD)  : VC :=
 let z1:=s.2;
 let z2:=L.llen Th z1;
 let z3:=L.cast z2;
 let z4:=s.1; .obl (St.mk 19 [(2,V.c (C.own 3 0)),(6,V.c (C.sl Th z1)),(7,V.c (C.int .i64 z3)),(8,V.c (C.int .i64 0))] [(0,Ob.amb),(1,Ob.box 45
  [C.sl It z4,C.sl Th z1]),(3,Ob.row 22 (Ty.sl It) [])] 4 = St.mk 19 [(2,V.c (C.own 3 (L.llen (Ty.sl It) []))),(6,V.c (C.sl Th z1)),(7,V.c (C.int .i64 z3)),(8,
  V.c (C.int .i64 0))] [(0,Ob.amb),(1,Ob.box 45 [C.sl It z4,C.sl Th z1]),(3,Ob.row 22 (Ty.sl It) [])] 4) (.obl (I ([],0,())) (.all (List (List Int) × Int × Unit)
  fun (v1:List (List Int) × Int × Unit) =>
 let z5:=v1.2.1;
 let z6:=v1.1;
 let z7:=L.llen (Ty.sl It) z6;
 let z8:=L.take (Ty.sl It) z6 z7;
 let z9:=L.take (Ty.sl It) [Prod.fst (Prod.snd (Prod.snd (Prod.snd (L.get Th z1 (L.toN z5)))))] 1;
 let z10:=L.add (L.llen (Ty.sl It) z8) (L.llen (Ty.sl It) z9);
 let z11:=L.ar .add .i64 z5 1;
 let z12:=L.app (Ty.sl It) z8 z9;
 let z13:=(L.app (Ty.sl It) z8 z9,L.ar .add .i64 z5 1,()); .imp (I v1) (.br (L.cmp .lss z5 z3) (.obl (L.inR z5 z2) (.obl (L.room z10 24)
  (.ok (St.mk 19 [(2,V.c (C.own 3 z10)),(6,V.c (C.sl Th z1)),(7,V.c (C.int .i64 z3)),(8,V.c (C.int .i64 z11))] [(0,Ob.amb),(1,Ob.box 45 [C.sl It z4,C.sl
  Th z1]),(3,Ob.row 22 (Ty.sl It) z12)] 4 = St.mk 19 [(2,V.c (C.own 3 (L.llen (Ty.sl It) z12))),(6,V.c (C.sl Th z1)),(7,V.c (C.int .i64 z3)),(8,V.c (C.int
  .i64 z11))] [(0,Ob.amb),(1,Ob.box 45 [C.sl It z4,C.sl Th z1]),(3,Ob.row 22 (Ty.sl It) z12)] 4∧I z13∧mu z13 < mu v1)))) (.ok ((L.take (Ty.sl It) z6 z7,()) =
  (BeF.told M s,()))))))
theorem nb70_go (L:Lv) (F:BxF) (M:BeF) (I:Ds [.sl (.sl It),It]→Prop) (mu:Ds [.sl (.sl It),It]→Nat) (s:StD) (h:VC.holds (nb70 L F M I mu s)):Holds (vcE L F M [] [] 3 (Db70 (ab70 L I mu)) (Sb70 F M) (s,())):=Holds.of_eq (by kernel_rfl) h
theorem okb16 (F:BxF) (M:BeF) (h:M.ex = exF):SpecOk prog 16 (Sb16 M):=by
 refine Zc hm hE Db16 fnokb16 _ fun (z:Int × Bool × Unit) hpre=>?_
 obtain ⟨w,r,⟨⟩⟩:=z
 refine Yp _ 3 a0 (Zs (T:=tabO [] (eT F M)) (l:=[]) Z4) ?_
 refine nb16_go Lv.std F M w r ?_
 simp only [nb16,VC.holds,ZJ,ZO,Zb,Zh,Zm,Yj,Ym,Z5,ZM,Yl,Yk,Yf,ZX,ZY,ZT,ZR,Ye,ZN,Zz,ZD,Zr,Z1,ZS,Z2,ZK,ZW,Yb,ZV,ZP,ZQ,Zt,ZH,Ya,Z3,ZI,Yd,Yc,Z6,Z7,Zg,ZC,ZL,ZU,Z8,Z9,Zd,Ze,ZA,ZB,Zu,Zv,Zx,Zy,Zk,Zl,Zp,Zq,Zi,Zj,Zn,Zo,ZG,ZF,ZZ,Yg,ZE,h,exF,Prod.mk.injEq,and_true,true_and]
 exact ⟨fun h=>⟨h.symm,rfl,rfl⟩,fun h=>⟨h.symm,rfl,rfl⟩⟩
theorem okb19 (F:BxF) (M:BeF) (h:M.en = enF):SpecOk prog 19 (Sb19 M):=by
 refine Zc hm hE Db19 fnokb19 _ fun (z:Int × List Int × List Int × Unit) hpre=>?_
 obtain ⟨w,s,l,⟨⟩⟩:=z
 refine Yp _ 3 a0 (Zs (T:=tabO [] (eT F M)) (l:=[]) Z4) ?_
 refine nb19_go Lv.std F M w s l ?_
 simp only [nb19,VC.holds,ZJ,ZO,Zb,Zh,Zm,Yj,Ym,Z5,ZM,Yl,Yk,Yf,ZX,ZY,ZT,ZR,Ye,ZN,Zz,ZD,Zr,Z1,ZS,Z2,ZK,ZW,Yb,ZV,ZP,ZQ,Zt,ZH,Ya,Z3,ZI,Yd,Yc,Z6,Z7,Zg,ZC,ZL,ZU,Z8,Z9,Zd,Ze,ZA,ZB,Zu,Zv,Zx,Zy,Zk,Zl,Zp,Zq,Zi,Zj,Zn,Zo,ZG,ZF,ZZ,Yg,ZE,h,enF,Prod.mk.injEq,and_true,true_and]
 rfl
theorem okb72 (F:BxF) (M:BeF) (h:M.wk = wkF) (hp:M.bE = bEF):SpecOk prog 72 (Sb72 M):=by
 refine Zc hm hE Db72 fnokb72 _ fun (z:BeD × Unit) hpre=>?_
 obtain ⟨e,⟨⟩⟩:=z
 have hpre':M.bE e:=hpre
 rw [hp] at hpre'
 obtain ⟨g1,g2,g3⟩:=hpre'
 refine Yp _ 3 a0 (Zs (T:=tabO [] (eT F M)) (l:=[]) Z4) ?_
 refine nb72_go Lv.std F M e ?_
 simp only [nb72,VC.holds,ZJ,ZO,Zb,Zh,Zm,Yj,Ym,Z5,ZM,Yl,Yk,Yf,ZX,ZY,ZT,ZR,Ye,ZN,Zz,ZD,Zr,Z1,ZS,Z2,ZK,ZW,Yb,ZV,ZP,ZQ,Zt,ZH,Ya,Z3,ZI,Yd,Yc,Z6,Z7,Zg,ZC,ZL,ZU,Z8,Z9,Zd,Ze,ZA,ZB,Zu,Zv,Zx,Zy,Zk,Zl,Zp,Zq,Zi,Zj,Zn,Zo,ZG,ZF,ZZ,Yg,ZE,h,wkF,List.take_nil,List.nil_append,List.length_nil,Nat.zero_add,List.take_length,List.take_succ_cons,List.take_zero,List.length_cons,List.length_append,Prod.mk.injEq,and_true,true_and]
 refine ⟨⟨by omega,by omega⟩,⟨by omega,by omega⟩,?_⟩
 exact List.take_of_length_le (by rw [List.length_append]; simp)
theorem okb18 (F:BxF) (M:BeF) (h:M.same = fun a b=>decide (a = b)) (h1:M.wk = wkF) (h2:F.sameE = fun a b=>decide (a = b)) (q:M.bE = bEF) (q1:F.be = sEn) (k1:SpecOk prog 72 (Sb72 M)) (k2:SpecOk prog 71 (S46 F)):SpecOk prog 18 (Sb18 M):=by
 refine Zc hm hE Db18 fnokb18 _ fun (z:BeD × BeD × Unit) hpre=>?_
 obtain ⟨a,b,⟨⟩⟩:=z
 have hpre':M.bE a∧M.bE b:=hpre
 rw [q] at hpre'
 refine Yp _ 3 a0 (Zs (T:=tabO [] (eT F M)) (l:=[72,71]) (Za (Yh k1 (by kernel_rfl)) (Za (Yh k2 (by kernel_rfl)) Z4))) ?_
 refine nb18_go Lv.std F M a b ?_
 simp only [nb18,VC.holds,ZJ,ZO,Zb,Zh,Zm,Yj,Ym,Z5,ZM,Yl,Yk,Yf,ZX,ZY,ZT,ZR,Ye,ZN,Zz,ZD,Zr,Z1,ZS,Z2,ZK,ZW,Yb,ZV,ZP,ZQ,Zt,ZH,Ya,Z3,ZI,Yd,Yc,Z6,Z7,Zg,ZC,ZL,ZU,Z8,Z9,Zd,Ze,ZA,ZB,Zu,Zv,Zx,Zy,Zk,Zl,Zp,Zq,Zi,Zj,Zn,Zo,ZG,ZF,ZZ,Yg,ZE,h,h1,h2,q,q1,pe5,Prod.mk.injEq,and_true,true_and]
 refine ⟨fun hl=>⟨hpre'.1,hpre'.2,⟨wk_be hpre'.1,wk_be hpre'.2⟩,fun he=>?_,fun he=>?_⟩,fun hl=>?_⟩
 ·have he:=wk_inj (of_decide_eq_true he)
  exact (decide_eq_true he).symm
 ·have he:=of_decide_eq_false he
  exact (decide_eq_false fun e=>he (by rw [e])).symm
 ·exact (decide_eq_false fun e=>hl (by rw [e])).symm
theorem okb59 (F:BxF) (M:BeF) (h:M.sames = fun a b=>decide (a = b)) (h1:M.same = fun a b=>decide (a = b)) (q:M.bEs = bEsF) (q1:M.bE = bEF) (k1:SpecOk prog 18 (Sb18 M)):SpecOk prog 59 (Sb59 M):=by
 refine Zc hm hE Db59 fnokb59 _ fun (z:List BeD × List BeD × Unit) hpre=>?_
 obtain ⟨a,b,⟨⟩⟩:=z
 have hpre':M.bEs a∧M.bEs b:=hpre
 rw [q] at hpre'
 obtain ⟨⟨g1,g2⟩,g3,g4⟩:=hpre'
 let I:Int × Unit→Prop:=Iv a.length fun k=>a.take k = b.take k
 refine Yp _ 3 (ab59 Lv.std I (Mu a.length)) (Zs (T:=tabO [] (eT F M)) (l:=[18]) (Za (Yh k1 (by kernel_rfl)) Z4)) ?_
 refine nb59_go Lv.std F M I (Mu a.length) a b ?_
 have e1:∀ (l:List BeD) (k:Int),Lv.std.get Be l k.toNat = (l[k.toNat]?).getD (0,[],[]):=fun _ _=>rfl
 simp only [nb59,VC.holds,ZJ,Zt,Zr,ZH,e1,ZI,Zb,Zd,Ze,Zp,Zq,h,h1,q1,pe5,Prod.mk.injEq,and_true,true_and]
 refine ⟨fun hl=>(decide_eq_false fun e=>hl (by rw [e])).symm,fun hl=>⟨Iv.zero rfl,fun x hx=>?_⟩⟩
 have hl:a.length = b.length:=by omega
 obtain ⟨k,rfl,hk,i3⟩:=Iv.elim hx
 simp only [Int.toNat_natCast]
 refine ⟨fun hlt=>?_,fun hge=>?_⟩
 ·have hk':k < a.length:=by omega
  have hk2:k < b.length:=by omega
  simp only [List.getElem?_eq_getElem hk',List.getElem?_eq_getElem hk2,Option.getD_some,wr hlt g1]
  refine ⟨⟨by omega,hlt⟩,⟨by omega,by omega⟩,⟨g2 _ (List.getElem_mem hk'),g4 _ (List.getElem_mem hk2)⟩,fun he=>?_,fun he=>?_⟩
  ·have he:=of_decide_eq_true he
   refine ⟨Iv.mk (by omega) ?_,Mu.lt hk'⟩
   rw [List.take_succ,List.take_succ,List.getElem?_eq_getElem hk',List.getElem?_eq_getElem hk2,i3,he]
  ·have he:=of_decide_eq_false he
   exact (decide_eq_false fun e=>he (by subst e; rfl)).symm
 ·rw [List.take_of_length_le (by omega),List.take_of_length_le (by omega)] at i3
  exact (decide_eq_true i3).symm
theorem okb123 (F:BxF) (M:BeF) (h:M.cmpN = cmpI):SpecOk prog 123 (Sb123 M):=by
 refine Zc hm hE Db123 fnokb123 _ fun (z:Int × Int × Unit) hpre=>?_
 obtain ⟨a,b,⟨⟩⟩:=z
 refine Yp _ 3 a0 (Zs (T:=tabO [(179,.inl (Db179 a0))] (eT F M)) (l:=[179]) (Za (Yy (fnokb179 a0) (by kernel_rfl)) Z4)) ?_
 refine nb123_go Lv.std F M a b ?_
 simp only [nb123,VC.holds,ZJ,ZO,Zb,Zh,Zm,Yj,Ym,Z5,ZM,Yl,Yk,Yf,ZX,ZY,ZT,ZR,Ye,ZN,Zz,ZD,Zr,Z1,ZS,Z2,ZK,ZW,Yb,ZV,ZP,ZQ,Zt,ZH,Ya,Z3,ZI,Yd,Yc,Z6,Z7,Zg,ZC,ZL,ZU,Z8,Z9,Zd,Ze,ZA,ZB,Zu,Zv,Zx,Zy,Zk,Zl,Zp,Zq,Zi,Zj,Zn,Zo,ZG,ZF,ZZ,Yg,ZE,h,cmpI,Prod.mk.injEq,and_true,true_and]
 refine ⟨fun h=>absurd rfl h,fun _=>⟨fun h=>absurd rfl h,fun _=>⟨fun h=>by rw [if_pos h]; rfl,fun h=>⟨fun h1=>by rw [if_neg (by omega),if_pos h1],fun h1=>by rw [if_neg (by omega),if_neg (by omega)]⟩⟩⟩⟩
theorem okb105 (F:BxF) (M:BeF) (h:M.cmpB = cmpBF) (h1:M.cmpN = cmpI) (h2:F.cmpL = cmpLF) (h3:F.cmpLL = cmpLLF) (h4:F.or1 = orF3) (q:M.bE = bEF) (q1:F.bl = bL) (q2:F.bll = fun l=>l.length≤1000000∧∀ x ∈ l,x.length≤1000000)
  (k1:SpecOk prog 122 (S111 F)) (k2:SpecOk prog 123 (Sb123 M)) (k3:SpecOk prog 124 (S112 F)) (k4:XOk prog 167 (R113 F).x):SpecOk prog 105 (Sb105 M):=by
 refine Zc hm hE Db105 fnokb105 _ fun (z:BeD × BeD × Unit) hpre=>?_
 obtain ⟨a,b,⟨⟩⟩:=z
 have hpre':M.bE a:=hpre
 rw [q] at hpre'
 obtain ⟨g1,g2,g3⟩:=hpre'
 refine Yp _ 3 a0 (Zs (T:=tabO [] (eT F M)) (l:=[122,123,124,167]) (Za (Yh k1 (by kernel_rfl)) (Za (Yh k2 (by kernel_rfl)) (Za (Yh k3 (by kernel_rfl)) (Za (XB k4 (by kernel_rfl)) Z4))))) ?_
 refine nb105_go Lv.std F M a b ?_
 simp only [nb105,VC.holds,ZJ,ZO,Zb,Zh,Zm,Yj,Ym,Z5,ZM,Yl,Yk,Yf,ZX,ZY,ZT,ZR,Ye,ZN,Zz,ZD,Zr,Z1,ZS,Z2,ZK,ZW,Yb,ZV,ZP,ZQ,Zt,ZH,Ya,Z3,ZI,Yd,Yc,Z6,Z7,Zg,ZC,ZL,ZU,Z8,Z9,Zd,Ze,ZA,ZB,Zu,Zv,Zx,Zy,Zk,Zl,Zp,Zq,Zi,Zj,Zn,Zo,ZG,ZF,ZZ,Yg,ZE,h,h1,h2,h3,h4,q1,q2,cmpBF,Prod.mk.injEq,and_true,true_and]
 exact ⟨⟨by omega,g3⟩,g2,by show (3:Nat)≤1000000; omega,rfl⟩
theorem okb107 (F:BxF) (M:BeF) (h:M.same = fun a b=>decide (a = b)) (h1:M.cmpB = cmpBF) (k1:SpecOk prog 105 (Sb105 M)):SpecOk prog 107 (Sb107 M):=by
 refine Zc hm hE Db107 fnokb107 _ fun (z:BeD × BeD × Unit) hpre=>?_
 obtain ⟨a,b,⟨⟩⟩:=z
 have hpre':M.bE a:=hpre
 refine Yp _ 3 a0 (Zs (T:=tabO [] (eT F M)) (l:=[105]) (Za (Yh k1 (by kernel_rfl)) Z4)) ?_
 refine nb107_go Lv.std F M a b ?_
 simp only [nb107,VC.holds,ZJ,ZO,Zb,Zh,Zm,Yj,Ym,Z5,ZM,Yl,Yk,Yf,ZX,ZY,ZT,ZR,Ye,ZN,Zz,ZD,Zr,Z1,ZS,Z2,ZK,ZW,Yb,ZV,ZP,ZQ,Zt,ZH,Ya,Z3,ZI,Yd,Yc,Z6,Z7,Zg,ZC,ZL,ZU,Z8,Z9,Zd,Ze,ZA,ZB,Zu,Zv,Zx,Zy,Zk,Zl,Zp,Zq,Zi,Zj,Zn,Zo,ZG,ZF,ZZ,Yg,ZE,h,h1,pe5,Prod.mk.injEq,and_true,true_and]
 exact ⟨hpre',fun h=>(decide_eq_true ((cmpB_eq a b).1 h)).symm,fun h=>(decide_eq_false (fun e=>h ((cmpB_eq a b).2 e))).symm⟩
theorem okb62 (F:BxF) (M:BeF) (k1:SpecOk prog 22 (Sb22 M)):SpecOk prog 62 (Sb62 M):=by
 refine Zc hm hE Db62 fnokb62 _ fun (z:BlD × Unit) hpre=>?_
 obtain ⟨b,⟨⟩⟩:=z
 have hpre':M.bB b:=hpre
 refine Yp _ 3 a0 (Zs (T:=tabO [] (eT F M)) (l:=[22]) (Za (Yh k1 (by kernel_rfl)) Z4)) ?_
 refine nb62_go Lv.std F M b ?_
 simp only [nb62,VC.holds,ZJ,ZO,Zb,Zh,Zm,Yj,Ym,Z5,ZM,Yl,Yk,Yf,ZX,ZY,ZT,ZR,Ye,ZN,Zz,ZD,Zr,Z1,ZS,Z2,ZK,ZW,Yb,ZV,ZP,ZQ,Zt,ZH,Ya,Z3,ZI,Yd,Yc,Z6,Z7,Zg,ZC,ZL,ZU,Z8,Z9,Zd,Ze,ZA,ZB,Zu,Zv,Zx,Zy,Zk,Zl,Zp,Zq,Zi,Zj,Zn,Zo,ZG,ZF,ZZ,Yg,ZE,pe5,Prod.mk.injEq,and_true,true_and]
 exact hpre'
theorem okb34 (F:BxF) (M:BeF) (h:M.sumE = sumEF) (h1:M.chk = chkB) (h2:M.sum = sumF) (k1:SpecOk prog 62 (Sb62 M)) (k2:SpecOk prog 88 (Sb88 M)):SpecOk prog 34 (Sb34 M):=by
 refine Zc hm hE Db34 fnokb34 _ fun (z:BlD × Unit) hpre=>?_
 obtain ⟨b,⟨⟩⟩:=z
 have hpre':M.bB b:=hpre
 refine Yp _ 3 a0 (Zs (T:=tabO [] (eT F M)) (l:=[62,88]) (Za (Yh k1 (by kernel_rfl)) (Za (Yh k2 (by kernel_rfl)) Z4))) ?_
 refine nb34_go Lv.std F M b ?_
 simp only [nb34,VC.holds,ZJ,ZO,Zb,Zh,Zm,Yj,Ym,Z5,ZM,Yl,Yk,Yf,ZX,ZY,ZT,ZR,Ye,ZN,Zz,ZD,Zr,Z1,ZS,Z2,ZK,ZW,Yb,ZV,ZP,ZQ,Zt,ZH,Ya,Z3,ZI,Yd,Yc,Z6,Z7,Zg,ZC,ZL,ZU,Z8,Z9,Zd,Ze,ZA,ZB,Zu,Zv,Zx,Zy,Zk,Zl,Zp,Zq,Zi,Zj,Zn,Zo,ZG,ZF,ZZ,Yg,ZE,h,h1,h2,sumEF,pe5,Prod.mk.injEq,and_true,true_and]
 refine ⟨hpre',fun hc=>?_,fun hc=>⟨hpre',?_⟩⟩
 ·rw [if_pos hc]; exact ⟨rfl,rfl⟩
 ·rw [if_neg (by omega)]; exact ⟨rfl,rfl⟩
theorem okb147 (F:BxF) (M:BeF) (h:M.max = maxF) (hp:M.pMax = pMaxF):SpecOk prog 147 (Sb147 M):=by
 refine Zc hm hE Db147 fnokb147 _ fun (z:List Int × Unit) hpre=>?_
 obtain ⟨l,⟨⟩⟩:=z
 have hpre':M.pMax l:=hpre
 rw [hp] at hpre'
 obtain ⟨g1,g2⟩:=hpre'
 let I:Int × Int × Unit→Prop:=fun x=>(1≤x.2.1∧x.2.1≤l.length)∧x.1 = maxF (l.take x.2.1.toNat)
 let mu:Int × Int × Unit→Nat:=fun x=>(l.length - x.2.1).toNat
 refine Yp _ 3 (ab147 Lv.std I mu) (Zs (T:=tabO [] (eT F M)) (l:=[]) Z4) ?_
 refine nb147_go Lv.std F M I mu l ?_
 simp only [nb147,VC.holds,ZJ,ZO,Zb,Zh,Zm,Yj,Ym,Z5,ZM,Yl,Yk,Yf,ZX,ZY,ZT,ZR,Ye,ZN,Zz,ZD,Zr,Z1,ZS,Z2,ZK,ZW,Yb,ZV,ZP,ZQ,Zt,ZH,Ya,Z3,ZI,Yd,Yc,Z6,Z7,Zg,ZC,ZL,ZU,Z8,Z9,Zd,Ze,ZA,ZB,Zu,Zv,Zx,Zy,Zk,Zl,Zp,Zq,Zi,Zj,Zn,Zo,ZG,ZF,ZZ,Yg,ZE,h,Prod.mk.injEq,and_true,true_and]
 obtain ⟨y,r,rfl⟩:∃ y r,l = y :: r:=by cases l with | nil=>simp at g1 | cons y r=>exact ⟨y,r,rfl⟩
 refine ⟨fun hc=>by omega,fun _=>⟨⟨Int.le_refl 0,by omega⟩,⟨⟨Int.le_refl 1,by show (1:Int)≤((y :: r).length:Int); omega⟩,rfl⟩,?_⟩⟩
 rintro ⟨m,x,⟨⟩⟩ ⟨⟨i1,i2⟩,i3⟩
 simp only at i1 i2 i3 ⊢
 obtain ⟨k,rfl⟩:=Yq (show 0≤x by omega)
 rw [Int.toNat_natCast] at i3 ⊢
 obtain ⟨k,rfl⟩:∃ j,k = j + 1:=⟨k - 1,by omega⟩
 refine ⟨fun hlt=>⟨⟨by omega,hlt⟩,?_⟩,fun hge=>?_⟩
 ·have e:IntKind.i64.wrap (((k + 1:Nat):Int) + 1) = ((k + 1 + 1:Nat):Int):=by rw [Yn (by omega) (by omega)]; omega
  rw [e]
  refine ⟨⟨⟨by show (1:Int)≤((k + 1 + 1:Nat):Int); omega,by show ((k + 1 + 1:Nat):Int)≤((y :: r).length:Int); omega⟩,?_⟩,by show (((y :: r).length:Int) - ((k + 1 + 1:Nat):Int)).toNat < (((y :: r).length:Int) - ((k + 1:Nat):Int)).toNat; omega⟩
  show max m _ = maxF ((y :: r).take ((k + 1 + 1:Nat):Int).toNat)
  rw [Int.toNat_natCast,i3,List.take_succ_cons,List.take_succ_cons]
  show max ((r.take k).foldl max y) _ = (r.take (k + 1)).foldl max y
  rw [fold_take r y k (by simp at hlt; omega)]
  rfl
 ·rw [i3,List.take_of_length_le (by omega)]
theorem okb148 (F:BxF) (M:BeF) (h:M.cat = List.flatten) (hp:M.bLL = bLLF) (k1:XOk prog 184 (growX 3 It)):XOk prog 148 (Rb148 M).x:=by
 let I:List (List Int) × Unit→Int × Int × Unit→Prop:=fun e x=>(0≤x.2.1∧x.2.1≤e.1.length)∧0≤x.1∧x.1≤1000 * x.2.1
 let mu:List (List Int) × Unit→Int × Int × Unit→Nat:=fun e x=>(e.1.length - x.2.1).toNat
 let I2:List (List Int) × Unit→List Int × Int × Unit→Prop:=fun e x=>(0≤x.2.1∧x.2.1≤e.1.length)∧x.1 = (e.1.take x.2.1.toNat).flatten
 let m2:List (List Int) × Unit→List Int × Int × Unit→Nat:=fun e x=>(e.1.length - x.2.1).toNat
 refine rowX_ok hm hE 3 (fns:=only (tabO [] (eT F M)) [184]) (Zs (Za (XB k1 (by kernel_rfl)) Z4)) (fnokb148 (ab148 Lv.std I mu I2 m2)) (Rb148 M) fun (z:List (List Int) × Unit) hpre=>?_
 obtain ⟨l,⟨⟩⟩:=z
 have hpre':M.bLL l:=hpre
 rw [hp] at hpre'
 obtain ⟨g1,g2⟩:=hpre'
 have g1':l.length≤1000000:=by omega
 refine rb148_go Lv.std F M I mu I2 m2 l ?_
 simp only [rb148,VC.holds,ZJ,ZO,Zb,Zh,Zm,Yj,Ym,Z5,ZM,Yl,Yk,Yf,ZX,ZY,ZT,ZR,Ye,ZN,Zz,ZD,Zr,Z1,ZS,Z2,ZK,ZW,Yb,ZV,ZP,ZQ,Zt,ZH,Ya,Z3,ZI,Yd,Yc,Z6,Z7,Zg,ZC,ZL,ZU,Z8,Z9,Zd,Ze,ZA,ZB,Zu,Zv,Zx,Zy,Zk,Zl,Zp,Zq,Zi,Zj,Zn,Zo,ZG,ZF,ZZ,Yg,ZE,h,List.take_length,Prod.mk.injEq,and_true,true_and]
 refine ⟨⟨⟨Int.le_refl 0,by show (0:Int)≤l.length; omega⟩,by show (0:Int)≤0; omega,by show (0:Int)≤1000 * 0; omega⟩,?_⟩
 rintro ⟨n,x,⟨⟩⟩ ⟨⟨i1,i2⟩,i3,i4⟩
 simp only at i1 i2 i3 i4 ⊢
 obtain ⟨k,rfl⟩:=Yq i1
 rw [Int.toNat_natCast]
 refine ⟨fun hlt=>⟨⟨by omega,hlt⟩,?_⟩,fun hge=>⟨⟨by omega,by omega,by omega,by omega⟩,rfl,⟨⟨Int.le_refl 0,by show (0:Int)≤l.length; omega⟩,rfl⟩,?_⟩⟩
 ·have hk:k < l.length:=by omega
  have b1:=g2 _ (List.getElem_mem hk)
  rw [List.getElem?_eq_getElem hk,Option.getD_some,wr hlt g1']
  have e:IntKind.i64.wrap (n + (l[k].length:Int)) = n + l[k].length:=by rw [Yn (by omega) (by omega)]
  rw [e]
  refine ⟨fun hc=>by omega,fun _=>⟨⟨⟨by show (0:Int)≤((k + 1:Nat):Int); omega,by show ((k + 1:Nat):Int)≤l.length; omega⟩,by show 0≤n + (l[k].length:Int); omega,by show n + (l[k].length:Int)≤1000 * ((k + 1:Nat):Int); omega⟩,by show ((l.length:Int) - ((k + 1:Nat):Int)).toNat < ((l.length:Int) - k).toNat; omega⟩⟩
 ·rintro ⟨r,x,⟨⟩⟩ ⟨⟨j1,j2⟩,j3⟩
  simp only at j1 j2 j3 ⊢
  obtain ⟨j,rfl⟩:=Yq j1
  rw [Int.toNat_natCast] at j3 ⊢
  refine ⟨fun hlt=>?_,fun hge=>?_⟩
  ·have hj:j < l.length:=by omega
   rw [wr hlt g1']
   have f1:r.length≤(l.take j).length * 1000:=by rw [j3]; exact flat_len _ _ fun y hy=>g2 y (List.mem_of_mem_take hy)
   have f2:(l.take j).length≤1000:=by rw [List.length_take]; omega
   have f3:(l.take j).length * 1000≤1000 * 1000:=Nat.mul_le_mul_right _ f2
   have b1:((l[j]?).getD []).length≤1000:=by rw [List.getElem?_eq_getElem hj]; exact g2 _ (List.getElem_mem hj)
   refine ⟨⟨by omega,hlt⟩,⟨by omega,by omega⟩,by rw [List.length_append],⟨⟨by show (0:Int)≤((j + 1:Nat):Int); omega,by show ((j + 1:Nat):Int)≤l.length; omega⟩,?_⟩,by show ((l.length:Int) - ((j + 1:Nat):Int)).toNat < ((l.length:Int) - j).toNat; omega⟩
   show r ++ (l[j]?).getD [] = (l.take ((j + 1:Nat):Int).toNat).flatten
   rw [Int.toNat_natCast,flat_take l j hj,j3]
  ·rw [j3,List.take_of_length_le (by omega)]
theorem okb88 (F:BxF) (M:BeF) (h:M.sum = sumF) (h1:M.max = maxF) (h2:M.cat = List.flatten) (q:M.bB = bBF) (q1:M.bLL = bLLF) (q2:M.pMax = pMaxF) (k1:SpecOk prog 147 (Sb147 M)) (k2:XOk prog 148 (Rb148 M).x):SpecOk prog 88 (Sb88 M):=by
 refine Zc hm hE Db88 fnokb88 _ fun (z:BlD × Unit) hpre=>?_
 obtain ⟨b,⟨⟩⟩:=z
 have hpre':M.bB b:=hpre
 rw [q] at hpre'
 have hf:=bB_flat hpre'
 refine Yp _ 3 a0 (Zs (T:=tabO [] (eT F M)) (l:=[147,148]) (Za (Yh k1 (by kernel_rfl)) (Za (XB k2 (by kernel_rfl)) Z4))) ?_
 refine nb88_go Lv.std F M b ?_
 simp only [nb88,VC.holds,ZJ,ZO,Zb,Zh,Zm,Yj,Ym,Z5,ZM,Yl,Yk,Yf,ZX,ZY,ZT,ZR,Ye,ZN,Zz,ZD,Zr,Z1,ZS,Z2,ZK,ZW,Yb,ZV,ZP,ZQ,Zt,ZH,Ya,Z3,ZI,Yd,Yc,Z6,Z7,Zg,ZC,ZL,ZU,Z8,Z9,Zd,Ze,ZA,ZB,Zu,Zv,Zx,Zy,Zk,Zl,Zp,Zq,Zi,Zj,Zn,Zo,ZG,ZF,ZZ,Yg,ZE,h,h1,h2,q1,q2,sumF,List.take_length,List.take_succ_cons,List.take_zero,List.length_cons,List.length_nil,List.length_append,Nat.zero_add,Prod.mk.injEq,and_true,true_and]
 have e:(b.2.2.2.2.flatten ++ [b.1]).take (b.2.2.2.2.flatten.length + 1) = b.2.2.2.2.flatten ++ [b.1]:=List.take_of_length_le (by rw [List.length_append]; simp)
 rw [e]
 exact ⟨⟨hpre'.2.1,hpre'.2.2⟩,⟨by omega,by omega⟩,⟨by rw [List.length_append]; show 1≤b.2.2.2.2.flatten.length + 1; omega,by rw [List.length_append]; show b.2.2.2.2.flatten.length + 1≤2000000; omega⟩,rfl⟩
theorem okb70 (F:BxF) (M:BeF) (h:M.told = toldF) (q:F.bs = bS):SpecOk prog 70 (Sb70 F M):=by
 refine Zc hm hE Db70 fnokb70 _ fun (z:StD × Unit) hpre=>?_
 obtain ⟨s,⟨⟩⟩:=z
 have hpre':F.bs s:=hpre
 rw [q] at hpre'
 obtain ⟨g1,g2,g3⟩:=hpre'
 let I:List (List Int) × Int × Unit→Prop:=fun x=>(0≤x.2.1∧x.2.1≤s.2.length)∧x.1 = toldF (s.1,s.2.take x.2.1.toNat)
 let mu:List (List Int) × Int × Unit→Nat:=fun x=>(s.2.length - x.2.1).toNat
 refine Yp _ 3 (ab70 Lv.std I mu) (Zs (T:=tabO [] (eT F M)) (l:=[]) Z4) ?_
 refine nb70_go Lv.std F M I mu s ?_
 simp only [nb70,VC.holds,ZJ,ZO,Zb,Zh,Zm,Yj,Ym,Z5,ZM,Yl,Yk,Yf,ZX,ZY,ZT,ZR,Ye,ZN,Zz,ZD,Zr,Z1,ZS,Z2,ZK,ZW,Yb,ZV,ZP,ZQ,Zt,ZH,Ya,Z3,ZI,Yd,Yc,Z6,Z7,Zg,ZC,ZL,ZU,Z8,Z9,Zd,Ze,ZA,ZB,Zu,Zv,Zx,Zy,Zk,Zl,Zp,Zq,Zi,Zj,Zn,Zo,ZG,ZF,ZZ,Yg,ZE,h,List.take_length,List.take_succ_cons,List.take_zero,List.length_append,List.length_cons,List.length_nil,Nat.zero_add,Prod.mk.injEq,and_true,true_and]
 refine ⟨⟨⟨Int.le_refl 0,by show (0:Int)≤s.2.length; omega⟩,rfl⟩,?_⟩
 rintro ⟨l,x,⟨⟩⟩ ⟨⟨i1,i2⟩,i3⟩
 simp only at i1 i2 i3 ⊢
 obtain ⟨k,rfl⟩:=Yq i1
 rw [Int.toNat_natCast] at i3 ⊢
 have hl:l.length = k:=by rw [i3]; unfold toldF; rw [List.length_map,List.length_take]; omega
 rw [hl]
 refine ⟨fun hlt=>?_,fun hge=>?_⟩
 ·rw [wr hlt g2]
  refine ⟨⟨by omega,hlt⟩,⟨by omega,by omega⟩,⟨⟨by show (0:Int)≤((k + 1:Nat):Int); omega,by show ((k + 1:Nat):Int)≤s.2.length; omega⟩,?_⟩,by show ((s.2.length:Int) - ((k + 1:Nat):Int)).toNat < ((s.2.length:Int) - k).toNat; omega⟩
  show l ++ _ = toldF (s.1,s.2.take ((k + 1:Nat):Int).toNat)
  rw [Int.toNat_natCast,map_take_told s k (by omega),i3]
 ·rw [i3,List.take_of_length_le (by omega)]
end Go.Proofs.Tryz
