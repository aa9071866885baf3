/- What functions of the weak memory compute, proved through the condition generator, and plain facts of it. Conditions: none of ours. -/
import Derived.Calls
import Derived.Orders
import Derived.Below
import Derived.Lib.ItoaNum
import Derived.Laws.Sem
import Derived.Laws.Cells
import Derived.Laws.Entries
import Derived.Laws.StructEq
import Derived.Lib.IfaceEq
import Derived.Lib.IfaceNeq
import Derived.Laws.MakeOwn
import Derived.Laws.AppendOwn
import Derived.Lib.AppendStr
import Derived.Laws.CopyRow
import Derived.Laws.BytesString
import Derived.MapKept
import Derived.OrdersIn
import Derived.RangeFuncCalls
import Derived.RangeFuncLeaves
import Derived.Test.YtljepnnnjfalcaaGreatProg
import Derived.Shelf.SlSortCmp.Insertion
import GoSem.Step
import Derived.Shelf.SlSortCmp.InsertionK
import Derived.Shelf.SlSortCmp.NoneTotal
import Derived.Ground.SlsfProg
import Derived.Shelf.Spec.SlicesGrow
import Derived.Shelf.SlGeneric
import Derived.Ground.Names8Prog
import Derived.WalkKit
import Derived.StillTactics
import Derived.Laws.Pointers
import Derived.Laws.NewBlocks
import Derived.Laws.Rows
import Derived.Handy
import Derived.Lib.SliceRun
import Derived.Sort.LotA
import Derived.Test.YtljepnnnjfalcaaGreatB0
import Derived.Test.YtljepnnnjfalcaaGreatB1
import Derived.Test.YtljepnnnjfalcaaGreatB2
import Derived.Test.YtljepnnnjfalcaaGreatB3
import Derived.Test.YtljepnnnjfalcaaGreatB4
import Derived.Test.YtljepnnnjfalcaaGreatB5
import Derived.Test.YtljepnnnjfalcaaGreatB6
import Derived.Test.YtljepnnnjfalcaaGreatB7
import Derived.Test.YtljepnnnjfalcaaGreatB8
import Derived.Test.YtljepnnnjfalcaaGreatB9
import Derived.Test.YtljepnnnjfalcaaGreatB10
import Derived.Test.YtljepnnnjfalcaaGreatB11
import Derived.Test.YtljepnnnjfalcaaGreatB12
import Derived.Test.YtljepnnnjfalcaaGreatB13
import Derived.Test.YtljepnnnjfalcaaGreatB14
import Derived.Test.YtljepnnnjfalcaaGreatB15
import Derived.Test.YtljepnnnjfalcaaGreatB16
import Derived.Test.YtljepnnnjfalcaaGreatB17
import Derived.Test.YtljepnnnjfalcaaGreatB18
import Derived.Test.YtljepnnnjfalcaaGreatB19
import Derived.Test.YtljepnnnjfalcaaGreatB20
import Derived.Test.YtljepnnnjfalcaaGreatB21
import Derived.Test.YtljepnnnjfalcaaGreatB22
import Derived.Test.YtljepnnnjfalcaaGreatB23
import Derived.Test.YtljepnnnjfalcaaGreatB24
import Derived.Test.YtljepnnnjfalcaaGreatB25
import Derived.Test.YtljepnnnjfalcaaGreatB26
import Derived.Test.YtljepnnnjfalcaaGreatB27
import Derived.Test.YtljepnnnjfalcaaGreatB28
import Derived.Test.YtljepnnnjfalcaaGreatB29
import Derived.Test.YtljepnnnjfalcaaGreatB30
import Derived.Test.YtljepnnnjfalcaaGreatB31
import Derived.Test.YtljepnnnjfalcaaGreatB32
import Derived.Test.YtljepnnnjfalcaaGreatB33
set_option autoImplicit false
set_option maxRecDepth 100000
set_option linter.all false
namespace Go.Proofs.Tryz
open Go Go.VM
theorem at40:prog.funcs[41]? = some f41:=by kernel_rfl
def pl40:Nat→Plan
 | _=>[]
noncomputable def D40 (ann:Nat→LAnn):FnD:=⟨f41.body.getD .skip,f41.ntmps,f41.results.toList,pl40,ann⟩
theorem fnok40 (ann:Nat→LAnn):FnOk prog 41 (D40 ann):=⟨f41,at40,by kernel_rfl,by kernel_rfl,rfl,rfl,by kernel_rfl⟩
theorem at41:prog.funcs[44]? = some f44:=by kernel_rfl
def pl41:Nat→Plan
 | 6=>[(0,[]),(1,[0]),(2,[0,1]),(3,[0,1]),(4,[0,1,2,3]),(5,[0,1]),(6,[0,1]),(7,[]),(8,[])]
 | _=>[]
noncomputable def D41 (ann:Nat→LAnn):FnD:=⟨f44.body.getD .skip,f44.ntmps,f44.results.toList,pl41,ann⟩
theorem fnok41 (ann:Nat→LAnn):FnOk prog 44 (D41 ann):=⟨f44,at41,by kernel_rfl,by kernel_rfl,rfl,rfl,by kernel_rfl⟩
theorem at43:prog.funcs[43]? = some f43:=by kernel_rfl
def pl43:Nat→Plan
 | 6=>[(0,[]),(1,[0]),(2,[0]),(3,[]),(4,[0,1,2,3]),(5,[0,1,2,3,4]),(6,[0,1,2,3,4]),(7,[]),(8,[0,1,2,3,4,5,6,7]),(9,[0,1,2,3,4,5,6,7,8]),(10,[0,1,2,3,4,5,6,7,8]),(11,[]),(12,[4,7,8,11]),(13,[]),(14,[]),(15,[]),(16,[]),(17,[])]
 | _=>[]
noncomputable def D43 (ann:Nat→LAnn):FnD:=⟨f43.body.getD .skip,f43.ntmps,f43.results.toList,pl43,ann⟩
theorem fnok43 (ann:Nat→LAnn):FnOk prog 43 (D43 ann):=⟨f43,at43,by kernel_rfl,by kernel_rfl,rfl,rfl,by kernel_rfl⟩
theorem at45:prog.funcs[93]? = some f93:=by kernel_rfl
def pl45:Nat→Plan
 | 10=>[(46,[46,47]),(0,[]),(1,[]),(2,[]),(3,[]),(4,[]),(5,[]),(6,[]),(7,[]),(8,[]),(9,[]),(10,[]),(11,[]),(12,[]),(13,[]),(14,[]),(15,[]),(16,[]),(17,[]),(18,[]),(19,[17,18]),(20,[17,18]),(21,[17,18,19,20]),(22,[17,18]),(23,[17,18]),(24,[17,18]),(25,[]),(26,[]),(27,[]),(28,[]),(29,[]),(30,[]),(31,[]),(32,[29,30,31]),(33,[29,30,31]),(34,[]),(35,[]),(36,[]),(37,[]),(38,[]),(39,[]),(40,[]),(41,[]),(42,[]),(43,[]),(44,[]),(45,[43,44])]
 | _=>[]
noncomputable def D45 (ann:Nat→LAnn):FnD:=⟨f93.body.getD .skip,f93.ntmps,f93.results.toList,pl45,ann⟩
theorem fnok45 (ann:Nat→LAnn):FnOk prog 93 (D45 ann):=⟨f93,at45,by kernel_rfl,by kernel_rfl,rfl,rfl,by kernel_rfl⟩
theorem at88:prog.funcs[94]? = some f94:=by kernel_rfl
def pl88:Nat→Plan
 | _=>[]
noncomputable def D88 (ann:Nat→LAnn):FnD:=⟨f94.body.getD .skip,f94.ntmps,f94.results.toList,pl88,ann⟩
theorem fnok88 (ann:Nat→LAnn):FnOk prog 94 (D88 ann):=⟨f94,at88,by kernel_rfl,by kernel_rfl,rfl,rfl,by kernel_rfl⟩
theorem at89:prog.funcs[95]? = some f95:=by kernel_rfl
def pl89:Nat→Plan
 | 4=>[(0,[]),(1,[]),(2,[0,1]),(3,[]),(4,[]),(5,[]),(6,[0,1,2,3,4,5]),(7,[0,1,2,3,4,5]),(8,[0,1,2,3,4,5]),(9,[0,1,2,3,4,5]),(10,[]),(11,[]),(12,[]),(13,[]),(14,[]),(15,[13,14]),(16,[]),(17,[]),(18,[]),(19,[]),(20,[]),(21,[])]
 | 6=>[(0,[]),(1,[]),(2,[0,1]),(3,[0,1]),(4,[0,1,2,3]),(5,[0,1]),(6,[0,1]),(7,[0,1]),(8,[]),(9,[]),(10,[]),(11,[]),(12,[]),(13,[]),(14,[]),(15,[]),(16,[]),(17,[]),(18,[]),(19,[]),(20,[]),(21,[]),(22,[]),(23,[]),(24,[21,22,23]),(25,[21,22,23]),(26,[]),(27,[]),(28,[]),(29,[]),(30,[]),(31,[]),(32,[]),(33,[]),(34,[]),(35,[]),(36,[]),(37,[]),(38,[]),(39,[])]
 | _=>[]
noncomputable def D89 (ann:Nat→LAnn):FnD:=⟨f95.body.getD .skip,f95.ntmps,f95.results.toList,pl89,ann⟩
theorem fnok89 (ann:Nat→LAnn):FnOk prog 95 (D89 ann):=⟨f95,at89,by kernel_rfl,by kernel_rfl,rfl,rfl,by kernel_rfl⟩
theorem at91:prog.funcs[150]? = some f150:=by kernel_rfl
def pl91:Nat→Plan
 | _=>[]
noncomputable def D91 (ann:Nat→LAnn):FnD:=⟨f150.body.getD .skip,f150.ntmps,f150.results.toList,pl91,ann⟩
theorem fnok91 (ann:Nat→LAnn):FnOk prog 150 (D91 ann):=⟨f150,at91,by kernel_rfl,by kernel_rfl,rfl,rfl,by kernel_rfl⟩
theorem at93:prog.funcs[153]? = some f153:=by kernel_rfl
def pl93:Nat→Plan
 | _=>[]
noncomputable def D93 (ann:Nat→LAnn):FnD:=⟨f153.body.getD .skip,f153.ntmps,f153.results.toList,pl93,ann⟩
theorem fnok93 (ann:Nat→LAnn):FnOk prog 153 (D93 ann):=⟨f153,at93,by kernel_rfl,by kernel_rfl,rfl,rfl,by kernel_rfl⟩
end Go.Proofs.Tryz
namespace Go.Proofs.Tryz
open Go Go.VM
theorem at124:prog.funcs[186]? = some f186:=by kernel_rfl
def pl124:Nat→Plan
 | _=>[]
noncomputable def D124 (ann:Nat→LAnn):FnD:=⟨f186.body.getD .skip,f186.ntmps,f186.results.toList,pl124,ann⟩
theorem fnok124 (ann:Nat→LAnn):FnOk prog 186 (D124 ann):=⟨f186,at124,by kernel_rfl,by kernel_rfl,rfl,rfl,by kernel_rfl⟩
end Go.Proofs.Tryz
namespace Go.Proofs.Tryz
open Go Go.VM
theorem thsN_step (p:WkD) (s:StD) (k:Nat) (h:k < s.2.length):thsN p s (s.2.length - k) = (thOk p k ((s.2[k]?).getD (0,[],[],[],false)) && thsN p s (s.2.length - (k + 1))):=by
 obtain ⟨n,hn⟩:∃ n,s.2.length - k = n + 1:=⟨s.2.length - k - 1,by omega⟩
 rw [hn,thsN,show s.2.length - (n + 1) = k by omega,show s.2.length - (k + 1) = n by omega]
end Go.Proofs.Tryz
namespace Go.Proofs.Tryz
open Go Go.VM
def a88 (L:Lv) (I:Ds [It]→Prop) (mu:Ds [It]→Nat):Nat→LAnn
 | 0=>anH L [0,3] [] [.s 3 It] I mu
 | _=>.no
def n88 (L:Lv) (F:BxF) (I:Ds [It]→Prop) (mu:Ds [It]→Nat) (l:List Int)  : VC :=
 .obl (St.mk 16 [(0,V.c (C.sl It l)),(3,V.c (C.int .i64 0))] [(0,Ob.amb)] 1 = St.mk 16 [(0,V.c (C.sl It l)),(3,V.c (C.int .i64 0))] [(0,Ob.amb)] 1) (.obl
  (I (0,())) (.all (Int × Unit) fun (v1:Int × Unit) =>
 let z1:=v1.1;
 let z2:=L.ar .add .i64 z1 1;
 let z3:=(L.ar .add .i64 z1 1,()); .imp (I v1) (.br (L.cmp .lss z1 (L.cast (L.llen It l))) (.obl (L.inR z1 (L.llen It l)) (.obl True
  (.br (BxF.isNum F (L.get It l (L.toN z1))) (.ok (St.mk 16 [(0,V.c (C.sl It l)),(3,V.c (C.int .i64 z2))] [(0,Ob.amb)] 1 = St.mk 16 [(0,V.c (C.sl It l)),(3,
  V.c (C.int .i64 z2))] [(0,Ob.amb)] 1∧I z3∧mu z3 < mu v1)) (.ok ((false,()) = (BxF.nums F l,())))))) (.ok ((true,()) = (BxF.nums F l,()))))))
theorem n88_go (L:Lv) (F:BxF) (I:Ds [It]→Prop) (mu:Ds [It]→Nat) (l:List Int) (h:VC.holds (n88 L F I mu l)):Holds (vcC L F [84] (D88 (a88 L I mu)) (S87 F) (l,())):=Holds.of_eq (by kernel_rfl) h
theorem ok88 (F:BxF) (h:F.nums = numsF) (h1:F.isNum = isNumF) (hp:F.bl = bL) (k1:SpecOk prog 84 (S92 F)):SpecOk prog 94 (S87 F):=by
 refine Zc hm hE D88 fnok88 _ fun (z:List Int × Unit) hpre=>?_
 obtain ⟨l,⟨⟩⟩:=z
 have hpre':F.bl l:=hpre
 rw [hp] at hpre'
 have g:l.length≤1000000:=hpre'
 let I:Int × Unit→Prop:=fun x=>0≤x.1∧x.1≤l.length∧(l.drop x.1.toNat).all isNumF = numsF l
 let mu:Int × Unit→Nat:=fun x=>(l.length - x.1).toNat
 refine Yq _ 3 (a88 Lv.std I mu) (Zn (T:=cT F) (l:=[84]) (Za (Yh k1 (by kernel_rfl)) Z2)) ?_
 refine n88_go Lv.std F I mu l ?_
 simp only [n88,VC.holds,ZJ,ZO,Zb,Zh,Zp,Yj,Ym,Z6,ZM,Yl,Yk,Yf,ZX,ZY,ZT,ZR,Ye,ZN,ZB,ZD,Zm,Z1,ZS,Z5,ZK,ZW,Yb,ZV,ZP,ZQ,Zo,ZH,Ya,Z3,ZI,Yd,Yc,Z4,Z7,Zg,ZC,ZL,ZU,Z8,Z9,Zd,Ze,Zz,ZA,Zu,Zv,Zw,Zx,Zj,Zk,Zs,Zt,Zi,Zl,Zq,Zr,ZG,ZF,ZZ,Yg,ZE,h,h1,Prod.mk.injEq,and_true,true_and]
 refine ⟨⟨Int.le_refl 0,by show (0:Int)≤l.length; omega,rfl⟩,?_⟩
 rintro ⟨x,⟨⟩⟩ ⟨i1,i2,i3⟩
 simp only at i1 i2 i3 ⊢
 obtain ⟨k,rfl⟩:=Yp i1
 rw [Int.toNat_natCast] at i3
 refine ⟨fun hlt=>⟨⟨i1,hlt⟩,fun hn=>?_,fun hn=>?_⟩,fun hge=>?_⟩
 ·rw [wr hlt g]
  rw [Yt isNumF l k 0 (by omega),Int.toNat_natCast] at *
  rw [hn,Bool.true_and] at i3
  exact ⟨⟨by show (0:Int)≤((k + 1:Nat):Int); omega,by show ((k + 1:Nat):Int)≤l.length; omega,by show (l.drop ((k + 1:Nat):Int).toNat).all isNumF = _; rw [Int.toNat_natCast]; exact i3⟩,by show ((l.length:Int) - ((k + 1:Nat):Int)).toNat < ((l.length:Int) - k).toNat; omega⟩
 ·rw [Yt isNumF l k 0 (by omega)] at i3
  rw [Int.toNat_natCast] at hn
  rw [hn,Bool.false_and] at i3
  exact i3
 ·rw [show k = l.length by omega,List.drop_length] at i3
  exact i3
end Go.Proofs.Tryz
namespace Go.Proofs.Tryz
open Go Go.VM
theorem okT_iff (p:WkD) (k:Nat) (t:ThD):thOk p k t = true↔OkT p k t:=by
 unfold thOk
 simp only [Bool.and_eq_true,decide_eq_true_eq,withinF_t,List.all_eq_true,kpOk]
 constructor
 ·rintro ⟨⟨⟨⟨⟨⟨h1,h2⟩,h3⟩,h4⟩,h5⟩,h6⟩,h7⟩
  refine ⟨h1,h2,h3,h4.1,by rw [listAt_nat]; exact h4.2,h5,h6,fun x hx=>?_⟩
  obtain ⟨⟨a1,a2⟩,a3⟩:=h7 x hx
  exact ⟨⟨a1,by omega⟩,a3⟩
 ·rintro ⟨h1,h2,h3,h4,h4',h5,h6,h7⟩
  refine ⟨⟨⟨⟨⟨⟨h1,h2⟩,h3⟩,h4,by rw [listAt_nat] at h4'; exact h4'⟩,h5⟩,h6⟩,fun x hx=>?_⟩
  obtain ⟨⟨a1,a2⟩,a3⟩:=h7 x hx
  exact ⟨⟨a1,by omega⟩,a3⟩
theorem thsN_iff (p:WkD) (s:StD):∀ n,n≤s.2.length→(thsN p s n = true↔∀ k:Nat,s.2.length - n≤k→k < s.2.length→thOk p k (thAt s k) = true)
 | 0,_=>by
   simp only [thsN,true_iff]
   intro k h1 h2; omega
 | n + 1,hn=>by
   rw [thsN,Bool.and_eq_true,thsN_iff p s n (by omega)]
   have e:(s.2[s.2.length - (n + 1)]?).getD (0,[],[],[],false) = thAt s ((s.2.length - (n + 1):Nat):Int):=by unfold thAt; rw [Int.toNat_natCast]
   rw [e]
   constructor
   ·rintro ⟨h1,h2⟩ k hk hk2
    by_cases hx:k = s.2.length - (n + 1)
    ·subst hx; exact h1
    ·exact h2 k (by omega) hk2
   ·exact fun h=>⟨h _ (Nat.le_refl _) (by omega),fun k hk hk2=>h k (by omega) hk2⟩
theorem okS_iff (p:WkD) (s:StD):isStF p s = true↔OkS p s:=by
 unfold isStF
 simp only [Bool.and_eq_true,decide_eq_true_eq,thsN_iff p s _ (Nat.le_refl _)]
 constructor
 ·rintro ⟨⟨⟨h1,h2⟩,h3⟩,h4⟩
  exact ⟨h1,h2,h3,fun k hk=>(okT_iff p k _).1 (h4 k (by omega) hk)⟩
 ·rintro ⟨h1,h2,h3,h4⟩
  exact ⟨⟨⟨h1,h2⟩,h3⟩,fun k _ hk=>(okT_iff p k _).2 (h4 k hk)⟩
theorem ckSt_iff (p:WkD) (s:StD):ckStF p s = 0↔OkP p∧OkS p s:=by
 unfold ckStF
 rw [← okP_iff,← okS_iff]
 by_cases h:checkF p = 0
 ·rw [if_neg (by simpa using h)]
  by_cases h2:isStF p s = true
  ·simp [h,h2]
  ·simp only [h2]; simp
 ·rw [if_pos h]; simp [h]
end Go.Proofs.Tryz
namespace Go.Proofs.Tryz
open Go Go.VM
def aIk (L:Lv) (I:Int × List KpD × Unit→Ds [It]→Prop) (mu:Int × List KpD × Unit→Ds [It]→Nat):Nat→LAnn
 | 0=>anE L [0,1,7,8] [] [.fn 1,.h (.s 0 (.sl Kp))] [.s 8 It] I mu
 | _=>.no
noncomputable def o45 (L:Lv) (I:Int × List KpD × Unit→Ds [It]→Prop) (mu:Int × List KpD × Unit→Ds [It]→Nat):List (Nat × FT):=[(150,.inl (D91 a0)),(153,.inl (D93 a0)),(186,.inl (D124 (aIk L I mu)))]
def n45 (L:Lv) (F:BxF) (I0:Ds [It]→Prop) (mu0:Ds [It]→Nat) (I:Int × List KpD × Unit→Ds [It]→Prop) (mu:Int × List KpD × Unit→Ds [It]→Nat) (p:WkD) (s:StD)  : VC :=
 let z1:=p.2;
 let z2:=(Prod.fst p,z1.1,z1.2);
 let z3:=(BxF.ckSt F p s,());
 let z4:=s.1;
 let z5:=L.cast (L.llen It z4);
 let z6:=p.1;
 let z7:=s.2;
 let z8:=L.llen Th z7;
 let z9:=L.cast z8;
 let z10:=z1.1;
 let z11:=L.llen (Ty.sl In) z10;
 let z12:=z1.2; .obl (BxF.bw F z2) (.br (L.cmp .neq (BxF.check F z2) 0) (.ok ((BxF.check F z2,()) = z3)) (.br (L.cmp .neq z5 (L.cast (L.llen
  It z6))) (.ok ((2,()) = z3)) (.br (L.cmp .neq z9 (L.cast z11)) (.ok ((2,()) = z3)) (.obl (BxF.bl F z4) (.br (BxF.nums F z4) (.obl (St.mk 94 [(2,V.c
  (C.ptr 1 0)),(3,V.c (C.ptr 2 0)),(37,V.c (C.sl Th z7)),(38,V.c (C.int .i64 z9)),(39,V.c (C.int .i64 0))] [(0,Ob.amb),(1,Ob.box 50 [C.sl It z6,C.sl
  (Ty.sl In) z10,C.int .i64 z12]),(2,Ob.box 45 [C.sl It z4,C.sl Th z7])] 3 = St.mk 94 [(2,V.c (C.ptr 1 0)),(3,V.c (C.ptr 2 0)),(37,V.c (C.sl Th z7)),(38,V.c
  (C.int .i64 z9)),(39,V.c (C.int .i64 0))] [(0,Ob.amb),(1,Ob.box 50 [C.sl It z6,C.sl (Ty.sl In) z10,C.int .i64 z12]),(2,Ob.box 45 [C.sl It z4,C.sl
  Th z7])] 3) (.obl (I0 (0,())) (.all (Int × Unit) fun (v1:Int × Unit) =>
 let z13:=v1.1;
 let z14:=L.toN z13;
 let z15:=L.get Th z7 z14;
 let z16:=z15.2;
 let z17:=z16.1;
 let z18:=z16.2;
 let z19:=z18.2;
 let z20:=z19.1;
 let z21:=z15.1;
 let z22:=z18.1;
 let z23:=L.llen Kp z22;
 let z24:=L.cast z23;
 let z25:=z19.2;
 let z26:=L.ar .add .i64 z13 1;
 let z27:=(L.ar .add .i64 z13 1,()); .imp (I0 v1) (.br (L.cmp .lss z13 z9) (.obl (L.inR z13 z8) (.br (L.cmp .neq (L.cast (L.llen
  It z17)) 10) (.ok ((2,()) = z3)) (.obl (BxF.bl F z17) (.br (BxF.nums F z17) (.obl (BxF.bl F z20) (.br (BxF.nums F z20) (.obl (L.inR z13 z11) (.obl True (.br
  (BxF.within F z21 0 (L.cast (L.llen In (L.get (Ty.sl In) z10 z14)))) (.br (L.cmp .gtr z24 z12) (.ok ((2,()) = z3)) (.br (L.cmp .gtr (L.cast
  (L.llen It z20)) 20) (.ok ((2,()) = z3)) (.obl (St.mk 19 [(0,V.c (C.sl Kp z22)),(1,V.c (C.fn 150 [2])),(7,V.c (C.int .i64 z24)),(8,V.c (C.int .i64
  0))] [(0,Ob.amb),(1,Ob.box 50 [C.sl It z6,C.sl (Ty.sl In) z10,C.int .i64 z12]),(2,Ob.box 45 [C.sl It z4,C.sl Th z7]),(3,Ob.box 137 [C.int .i64 z21,C.sl It
  z17,C.sl Kp z22,C.sl It z20,C.sym z25])] 4 = St.mk 19 [(0,V.c (C.sl Kp z22)),(1,V.c (C.fn 150 [2])),(7,V.c (C.int .i64 z24)),(8,V.c (C.int .i64 0))] [(0,
  Ob.amb),(1,Ob.box 50 [C.sl It z6,C.sl (Ty.sl In) z10,C.int .i64 z12]),(2,Ob.box 45 [C.sl It z4,C.sl Th z7]),(3,Ob.box 137 [C.int .i64 z21,C.sl It z17,C.sl
  Kp z22,C.sl It z20,C.sym z25])] 4) (.obl (I (150,z18.1,()) (0,())) (.all (Int × Unit) fun (v2:Int × Unit) =>
 let z28:=v2.1;
 let z29:=L.get Kp z22 (L.toN z28);
 let z30:=L.ar .add .i64 z28 1;
 let z31:=(L.ar .add .i64 z28 1,());
 let z32:=L.cmp .geq z28 0; .imp (I (150,z18.1,()) v2) (.br (L.cmp .lss z28 z24) (.obl (L.inR z28 z23) (.obl True (.br (BxF.within F (Prod.fst
  z29) 0 (L.ar .sub .i64 z5 1)) (.obl True (.br (BxF.isNum F z29.2) (.ok (St.mk 19 [(0,V.c (C.sl Kp z22)),(1,V.c (C.fn 150 [2])),(7,V.c (C.int
  .i64 z24)),(8,V.c (C.int .i64 z30))] [(0,Ob.amb),(1,Ob.box 50 [C.sl It z6,C.sl (Ty.sl In) z10,C.int .i64 z12]),(2,Ob.box 45 [C.sl It z4,C.sl Th
  z7]),(3,Ob.box 137 [C.int .i64 z21,C.sl It z17,C.sl Kp z22,C.sl It z20,C.sym z25])] 4 = St.mk 19 [(0,V.c (C.sl Kp z22)),(1,V.c (C.fn 150 [2])),(7,V.c (C.int
  .i64 z24)),(8,V.c (C.int .i64 z30))] [(0,Ob.amb),(1,Ob.box 50 [C.sl It z6,C.sl (Ty.sl In) z10,C.int .i64 z12]),(2,Ob.box 45 [C.sl It z4,C.sl Th
  z7]),(3,Ob.box 137 [C.int .i64 z21,C.sl It z17,C.sl Kp z22,C.sl It z20,C.sym z25])] 4∧I (150,z18.1,()) z31∧mu (150,z18.1,()) z31 < mu (150,
  Prod.fst z18,()) v2)) (.br z32 (.ok ((2,()) = z3)) (.ok (St.mk 94 [(2,V.c (C.ptr 1 0)),(3,V.c (C.ptr 2 0)),(37,V.c (C.sl Th z7)),(38,V.c (C.int .i64 z9)),
  (39,V.c (C.int .i64 z26))] [(0,Ob.amb),(1,Ob.box 50 [C.sl It z6,C.sl (Ty.sl In) z10,C.int .i64 z12]),(2,Ob.box 45 [C.sl It z4,C.sl Th z7])] 3 = St.mk 94
  [(2,V.c (C.ptr 1 0)),(3,V.c (C.ptr 2 0)),(37,V.c (C.sl Th z7)),(38,V.c (C.int .i64 z9)),(39,V.c (C.int .i64 z26))] [(0,Ob.amb),(1,Ob.box 50 [C.sl It z6,
  C.sl (Ty.sl In) z10,C.int .i64 z12]),(2,Ob.box 45 [C.sl It z4,C.sl Th z7])] 3∧I0 z27∧mu0 z27 < mu0 v1))))) (.br z32 (.ok ((2,()) = z3)) (.ok (St.mk 94 [(2,
  V.c (C.ptr 1 0)),(3,V.c (C.ptr 2 0)),(37,V.c (C.sl Th z7)),(38,V.c (C.int .i64 z9)),(39,V.c (C.int .i64 z26))] [(0,Ob.amb),(1,Ob.box 50 [C.sl It z6,C.sl
  (Ty.sl In) z10,C.int .i64 z12]),(2,Ob.box 45 [C.sl It z4,C.sl Th z7])] 3 = St.mk 94 [(2,V.c (C.ptr 1 0)),(3,V.c (C.ptr 2 0)),(37,V.c (C.sl Th z7)),(38,V.c
  (C.int .i64 z9)),(39,V.c (C.int .i64 z26))] [(0,Ob.amb),(1,Ob.box 50 [C.sl It z6,C.sl (Ty.sl In) z10,C.int .i64 z12]),(2,Ob.box 45 [C.sl It z4,C.sl
  Th z7])] 3∧I0 z27∧mu0 z27 < mu0 v1)))))) (.br (L.cmp .geq (Int.negSucc 0) 0) (.ok ((2,()) = z3)) (.ok (St.mk 94 [(2,V.c (C.ptr 1 0)),(3,V.c (C.ptr 2 0)),
  (37,V.c (C.sl Th z7)),(38,V.c (C.int .i64 z9)),(39,V.c (C.int .i64 z26))] [(0,Ob.amb),(1,Ob.box 50 [C.sl It z6,C.sl (Ty.sl In) z10,C.int .i64
  z12]),(2,Ob.box 45 [C.sl It z4,C.sl Th z7])] 3 = St.mk 94 [(2,V.c (C.ptr 1 0)),(3,V.c (C.ptr 2 0)),(37,V.c (C.sl Th z7)),(38,V.c (C.int .i64 z9)),(39,V.c
  (C.int .i64 z26))] [(0,Ob.amb),(1,Ob.box 50 [C.sl It z6,C.sl (Ty.sl In) z10,C.int .i64 z12]),(2,Ob.box 45 [C.sl It z4,C.sl Th z7])] 3∧I0 z27∧mu0 z27 <
  mu0 v1))))))))) (.ok ((2,()) = z3))))) (.ok ((2,()) = z3)))) (.ok ((2,()) = z3)))))) (.ok ((0,()) = z3)))))) (.ok ((2,()) = z3)))))))
theorem n45_go (L:Lv) (F:BxF) (I0:Ds [It]→Prop) (mu0:Ds [It]→Nat) (I:Int × List KpD × Unit→Ds [It]→Prop) (mu:Int × List KpD × Unit→Ds [It]→Nat) (p:WkD) (s:StD) (h:VC.holds (n45 L F I0 mu0 I mu p s)):Holds (vcO L F (o45 L I mu) [98,151,149,152,150,153,186] 6 (D45 (a45 L I0 mu0)) (S45 F) (p,s,())):=Holds.of_eq (by kernel_rfl) h
theorem ok45 (F:BxF) (h:F.ckSt = ckStF) (h1:F.check = checkF) (h2:F.nums = numsF) (h3:F.isNum = isNumF) (h4:F.within = withinF) (hp:F.pSt = fun p s=>bW p∧bS s) (q:F.bl = bL) (q1:F.bw = bW) (k1:SpecOk prog 98 (S22 F)) (k2:SpecOk prog 151 (S86 F)) (k3:SpecOk prog 149 (S87 F)) (k4:SpecOk prog 152 (S92 F)):SpecOk prog 93 (S45 F):=by
 refine Zc hm hE D45 fnok45 _ fun (z:WkD × StD × Unit) hpre=>?_
 obtain ⟨p,s,⟨⟩⟩:=z
 have hpre':F.pSt p s:=hpre
 rw [hp] at hpre'
 obtain ⟨gw,g4,g5,g6⟩:=hpre'
 have gw':=gw
 obtain ⟨g1,g2,g3⟩:=gw
 let I0:Int × Unit→Prop:=Iv s.2.length fun j=>thsN p s (s.2.length - j) = thsN p s s.2.length
 let I:Int × List KpD × Unit→Int × Unit→Prop:=fun e=>Iv e.2.1.length fun j=>(e.2.1.drop j).all (kpOk s.1.length) = e.2.1.all (kpOk s.1.length)
 let mu:Int × List KpD × Unit→Int × Unit→Nat:=fun e=>Mu e.2.1.length
 refine Yq _ 6 (a45 Lv.std I0 (Mu s.2.length)) (Zn (T:=tabO (o45 Lv.std I mu) (cT F)) (l:=[98,151,149,152,150,153,186]) (Za (Yh k1 (by kernel_rfl)) (Za (Yh k2 (by kernel_rfl)) (Za (Yh k3 (by kernel_rfl)) (Za (Yh k4 (by kernel_rfl)) (Za (YB (fnok91 a0) (by kernel_rfl)) (Za (YB (fnok93 a0) (by kernel_rfl)) (Za (YB (fnok124 (aIk Lv.std I mu)) (by kernel_rfl)) Z2)))))))) ?_
 refine n45_go Lv.std F I0 (Mu s.2.length) I mu p s ?_
 have e1:∀ (l:List ThD) (k:Int),Lv.std.get Th l k.toNat = (l[k.toNat]?).getD (0,[],[],[],false):=fun _ _=>rfl
 have e2:∀ (l:List (List InD)) (k:Int),Lv.std.get (.sl In) l k.toNat = (l[k.toNat]?).getD []:=fun _ _=>rfl
 have e3:∀ (l:List KpD) (k:Int),Lv.std.get Kp l k.toNat = (l[k.toNat]?).getD (0,0):=fun _ _=>rfl
 have ew:IntKind.i64.wrap ((s.1.length:Int) - 1) = (s.1.length:Int) - 1:=Yn (by omega) (by omega)
 have neg1:(Int.negSucc 0:Int) = -1:=rfl
 simp only [n45,VC.holds,ZJ,Zo,Zm,ZH,e1,e2,e3,ZI,Zb,Zh,ew,neg1,Zd,Ze,Zu,Zv,Zw,Zx,Zs,Zt,Zj,Zk,h,h1,h2,h3,h4,q,q1,Prod.mk.injEq,and_true,true_and,Int.toNat_natCast]
 refine ⟨gw',fun c0=>?_,fun c0=>⟨fun c1=>?_,fun c1=>⟨fun c2=>?_,fun c2=>⟨g4,fun c3=>⟨Iv.zero rfl,fun x hx=>?_⟩,fun c3=>?_⟩⟩⟩⟩
 ·rw [ckStF,if_pos c0]
 ·rw [ckStF,if_neg (by simpa using c0),isStF,decide_eq_false (by omega:¬ s.1.length = p.1.length)]; rfl
 ·rw [ckStF,if_neg (by simpa using c0),isStF,decide_eq_false (by omega:¬ s.2.length = p.2.1.length)]; simp
 ·obtain ⟨j,rfl,hj,i3⟩:=Iv.elim hx
  simp only [Int.toNat_natCast]
  have hl:s.1.length = p.1.length:=by omega
  have e0:isStF p s = thsN p s s.2.length:=by rw [isStF,decide_eq_true hl,decide_eq_true (by omega),c3]; rfl
  refine ⟨fun hlt=>⟨⟨by omega,hlt⟩,?_⟩,fun hge=>?_⟩
  ·have hj':j < s.2.length:=by omega
   generalize ht:(s.2[j]?).getD (0,[],[],[],false) = t
   have bt:bTh t:=by rw [← ht,List.getElem?_eq_getElem hj']; exact g6 _ (List.getElem_mem hj')
   obtain ⟨b1,b2,b3⟩:=bt
   rw [thsN_step p s j hj',ht] at i3
   have no:thOk p j t = false→2 = ckStF p s:=fun e=>by
    rw [e,Bool.false_and] at i3
    rw [ckStF,if_neg (by simpa using c0),e0,← i3]; rfl
   have yes:thOk p j t = true→I0 (((j + 1:Nat):Int),()):=fun e=>by
    rw [e,Bool.true_and] at i3
    exact Iv.mk (by omega) i3
   have gen:∀ (X:Prop),(thOk p j t = false→X)→X∨thOk p j t = true:=fun X hX=>by cases hh:thOk p j t with | false=>exact .inl (hX hh) | true=>exact .inr rfl
   refine ⟨fun d1=>no ?_,fun d1=>⟨b1,fun d2=>⟨b3,fun d3=>⟨⟨by omega,by omega⟩,fun d4=>⟨fun d5=>no ?_,fun d5=>⟨fun d6=>no ?_,fun d6=>⟨Iv.zero rfl,fun x hx=>?_⟩⟩⟩,fun d4=>no ?_⟩,fun d3=>no ?_⟩,fun d2=>no ?_⟩⟩
   ·rw [thOk,decide_eq_false (by omega:¬ t.2.1.length = 10)]; simp
   ·rw [thOk,decide_eq_false (by omega:¬ (t.2.2.1.length:Int)≤p.2.2)]; simp
   ·rw [thOk,decide_eq_false (by omega:¬ t.2.2.2.1.length≤20)]; simp
   ·obtain ⟨y,rfl,hy,m3⟩:=Iv.elim hx
    have hy1:y≤t.2.2.1.length:=hy
    simp only [Int.toNat_natCast] at m3 ⊢
    have all0:t.2.2.1.all (kpOk p.1.length) = false→thOk p j t = false:=fun e=>by rw [thOk,e,Bool.and_false]
    have m3':(t.2.2.1.drop y).all (kpOk p.1.length) = t.2.2.1.all (kpOk p.1.length):=by rw [← hl]; exact m3
    refine ⟨fun hlt2=>⟨⟨by omega,hlt2⟩,fun e1=>⟨fun e2=>?_,fun e2=>⟨fun _=>no (all0 ?_),fun hc=>by omega⟩⟩,fun e1=>⟨fun _=>no (all0 ?_),fun hc=>by omega⟩⟩,fun hge2=>⟨fun hc=>by omega,fun _=>?_⟩⟩
    ·rw [Yt _ _ y (0,0) (by omega),kpOk,e1,e2,Bool.and_self,Bool.true_and] at m3
     rw [wr hlt2 b2]
     exact ⟨Iv.mk (by show y + 1≤t.2.2.1.length; omega) m3,Mu.lt (n:=t.2.2.1.length) (by omega)⟩
    ·rw [← hl,Yt _ _ y (0,0) (by omega),kpOk,e2,Bool.and_false,Bool.false_and] at m3'
     exact (by rw [← hl]; exact m3'.symm)
    ·rw [← hl,Yt _ _ y (0,0) (by omega),kpOk,e1,Bool.false_and,Bool.false_and] at m3'
     exact (by rw [← hl]; exact m3'.symm)
    ·rw [show y = t.2.2.1.length by omega,List.drop_length] at m3'
     rw [wr hlt g5]
     exact ⟨yes (by rw [thOk,decide_eq_true (by omega),d2,d3,d4,decide_eq_true d5,decide_eq_true (by omega),← m3']; rfl),Mu.lt (by omega)⟩
   ·rw [thOk,d4]; simp
   ·rw [thOk,d3]; simp
   ·rw [thOk,d2]; simp
  ·rw [show s.2.length - j = 0 by omega] at i3
   rw [ckStF,if_neg (by simpa using c0),e0,← i3]; rfl
 ·rw [ckStF,if_neg (by simpa using c0),isStF,c3]; simp
end Go.Proofs.Tryz
namespace Go.Proofs.Tryz
open Go Go.VM
def a43 (L:Lv) (I:Ds [.sl Th,It]→Prop) (mu:Ds [.sl Th,It]→Nat):Nat→LAnn
 | 0=>anH L [1,2,3,4] [(3,some 1,137,Th)] [.br 3 1 Th,.s 4 It] I mu
 | _=>.no
def n43 (L:Lv) (F:BxF) (I:Ds [.sl Th,It]→Prop) (mu:Ds [.sl Th,It]→Nat) (s:StD)  : VC :=
 let z1:=L.take It [] 0;
 let z2:=L.llen It z1;
 let z3:=s.1;
 let z4:=L.add z2 (L.llen It z3);
 let z5:=s.2;
 let z6:=L.app It z1 z3;
 let z7:=Int × List Int × List (Int × Int) × List Int × Bool;
 let z8:=L.llen Th z5;
 let z9:=L.take Kp [] 0;
 let z10:=L.llen Kp z9; .obl (L.room z4 8) (.obl (St.mk 45 [(1,V.c (C.ptr 1 0)),(2,V.c (C.ptr 2 0)),(3,V.c (C.ptr 5 0)),(4,V.c (C.int .i64 0))] [(0,
  Ob.amb),(1,Ob.box 45 [C.sl It z3,C.sl Th z5]),(2,Ob.box 45 [C.nils,C.nils]),(4,Ob.row 3 It z6),(5,Ob.box 45 [C.own 4 z4,C.own 7 0]),(7,Ob.row 137 Th [])] 8 = St.mk 45
  [(1,V.c (C.ptr 1 0)),(2,V.c (C.ptr 2 0)),(3,V.c (C.ptr 5 0)),(4,V.c (C.int .i64 0))] [(0,Ob.amb),(1,Ob.box 45 [C.sl It z3,C.sl Th z5]),(2,Ob.box 45 [C.nils,
  C.nils]),(4,Ob.row 3 It z6),(5,Ob.box 45 [C.own 4 z4,C.own 7 (L.llen Th [])]),(7,Ob.row 137 Th [])] 8) (.obl (I ([],0,())) (.all (List z7 × Int × Unit) fun (v1 :
  List (Int × List Int × List (Int × Int) × List Int × Bool) × Int × Unit) =>
 let z11:=v1.2.1;
 let z12:=L.get Th z5 (L.toN z11);
 let z13:=z12.2;
 let z14:=z13.1;
 let z15:=L.add z2 (L.llen It z14);
 let z16:=z13.2;
 let z17:=z16.1;
 let z18:=L.add z10 (L.llen Kp z17);
 let z19:=z16.2;
 let z20:=z19.1;
 let z21:=L.add z2 (L.llen It z20);
 let z22:=v1.1;
 let z23:=L.llen Th z22;
 let z24:=L.take Th z22 z23;
 let z25:=(L.take Th [(Prod.fst z12,L.take It (L.app It z1 z14) z15,L.take Kp (L.app Kp z9 z17) z18,L.take It (L.app It z1 z20) z21,z19.2)] 1);
 let z26:=L.add (L.llen Th z24) (L.llen Th z25);
 let z27:=L.ar .add .i64 z11 1;
 let z28:=L.app Th z24 z25;
 let z29:=(L.app Th z24 z25,L.ar .add .i64 z11 1,()); .imp (I v1) (.br (L.cmp .lss z11 (L.cast z8)) (.obl (L.inR z11 z8) (.obl (L.room
  z15 8) (.obl (L.room z18 16) (.obl (L.room z21 8) (.obl (L.room z26 88) (.ok (St.mk 45 [(1,V.c (C.ptr 1 0)),(2,V.c (C.ptr 2 0)),(3,V.c (C.ptr 5 0)),(4,V.c
  (C.int .i64 z27))] [(0,Ob.amb),(1,Ob.box 45 [C.sl It z3,C.sl Th z5]),(2,Ob.box 45 [C.nils,C.nils]),(4,Ob.row 3 It z6),(5,Ob.box 45 [C.own 4 z4,C.own 7 z26]),
  (7,Ob.row 137 Th z28)] 8 = St.mk 45 [(1,V.c (C.ptr 1 0)),(2,V.c (C.ptr 2 0)),(3,V.c (C.ptr 5 0)),(4,V.c (C.int .i64 z27))] [(0,Ob.amb),(1,Ob.box 45 [C.sl It z3,
  C.sl Th z5]),(2,Ob.box 45 [C.nils,C.nils]),(4,Ob.row 3 It z6),(5,Ob.box 45 [C.own 4 z4,C.own 7 (L.llen Th z28)]),(7,Ob.row 137 Th z28)] 8∧I z29∧mu z29 < mu
  v1))))))) (.ok (((L.take It z6 z4,L.take Th z22 z23),()) = (s,())))))))
theorem n43_go (L:Lv) (F:BxF) (I:Ds [.sl Th,It]→Prop) (mu:Ds [.sl Th,It]→Nat) (s:StD) (h:VC.holds (n43 L F I mu s)):Holds (vcC L F [] (D43 (a43 L I mu)) (S43 F) (s,())):=Holds.of_eq (by kernel_rfl) h
theorem ok43 (F:BxF) (hp:F.bs = bS):SpecOk prog 43 (S43 F):=by
 refine Zc hm hE D43 fnok43 _ fun (z:StD × Unit) hpre=>?_
 obtain ⟨s,⟨⟩⟩:=z
 have hpre':F.bs s:=hpre
 rw [hp] at hpre'
 obtain ⟨g1,g2,g3⟩:=hpre'
 let I:List ThD × Int × Unit→Prop:=fun x=>(0≤x.2.1∧x.2.1≤s.2.length)∧x.1 = s.2.take x.2.1.toNat
 let mu:List ThD × Int × Unit→Nat:=fun x=>(s.2.length - x.2.1).toNat
 refine Yq _ 3 (a43 Lv.std I mu) (Zn (T:=cT F) (l:=[]) Z2) ?_
 refine n43_go Lv.std F I mu s ?_
 simp only [n43,VC.holds,ZJ,ZO,Zb,Zh,Zp,Yj,Ym,Z6,ZM,Yl,Yk,Yf,ZX,ZY,ZT,ZR,Ye,ZN,ZB,ZD,Zm,Z1,ZS,Z5,ZK,ZW,Yb,ZV,ZP,ZQ,Zo,ZH,Ya,Z3,ZI,Yd,Yc,Z4,Z7,Zg,ZC,ZL,ZU,Z8,Z9,Zd,Ze,Zz,ZA,Zu,Zv,Zw,Zx,Zj,Zk,Zs,Zt,Zi,Zl,Zq,Zr,ZG,ZF,ZZ,Yg,ZE,List.take_length,List.take_succ_cons,List.take_zero,List.take_nil,List.nil_append,List.length_append,List.length_cons,List.length_nil,Nat.zero_add,pe5,Prod.mk.injEq,and_true,true_and]
 refine ⟨⟨by omega,by omega⟩,⟨⟨Int.le_refl 0,by show (0:Int)≤s.2.length; omega⟩,rfl⟩,?_⟩
 rintro ⟨l,x,⟨⟩⟩ ⟨⟨i1,i2⟩,i3⟩
 simp only at i1 i2 i3 ⊢
 obtain ⟨k,rfl⟩:=Yp i1
 rw [Int.toNat_natCast] at i3
 subst i3
 have hl:(s.2.take k).length = k:=by rw [List.length_take]; omega
 rw [hl,Int.toNat_natCast]
 refine ⟨fun hlt=>?_,fun hge=>?_⟩
 ·have hk:k < s.2.length:=by omega
  rw [wr hlt g2,List.getElem?_eq_getElem hk,Option.getD_some]
  obtain ⟨b1,b2,b3⟩:=g3 _ (List.getElem_mem hk)
  refine ⟨⟨i1,hlt⟩,⟨by omega,by omega⟩,⟨by omega,by omega⟩,⟨by omega,by omega⟩,⟨by omega,by omega⟩,⟨⟨by show (0:Int)≤((k + 1:Nat):Int); omega,by show ((k + 1:Nat):Int)≤_; omega⟩,?_⟩,by show ((s.2.length:Int) - ((k + 1:Nat):Int)).toNat < ((s.2.length:Int) - k).toNat; omega⟩
  show s.2.take k ++ [s.2[k]] = s.2.take ((k + 1:Nat):Int).toNat
  rw [Int.toNat_natCast,List.take_succ,List.getElem?_eq_getElem hk]; rfl
 ·rw [List.take_of_length_le (by omega)]
end Go.Proofs.Tryz
namespace Go.Proofs.Tryz
open Go Go.VM
def a89 (L:Lv) (I:Ds [It]→Prop) (mu:Ds [It]→Nat):Nat→LAnn
 | 0=>anH L [1,3,5,7] [] [.s 7 It] I mu
 | _=>.no
def a41 (L:Lv) (I:Ds [It]→Prop) (mu:Ds [It]→Nat):Nat→LAnn
 | 0=>anH L [2,3,5] [] [.s 5 It] I mu
 | _=>.no
def n89 (L:Lv) (F:BxF) (I:Ds [It]→Prop) (mu:Ds [It]→Nat) (p:WkD) (k:Int) (t:ThD)  : VC :=
 let z1:=p.1;
 let z2:=p.2.1;
 let z3:=p.2.2;
 let z4:=t.1;
 let z5:=t.2.1;
 let z6:=t.2.2;
 let z7:=z6.1;
 let z8:=z6.2;
 let z9:=z8.1;
 let z10:=z8.2;
 let z11:=L.llen Kp z7;
 let z12:=L.cast z11;
 let z13:=(BxF.isTh F p k t,()); .obl (St.mk 76 [(1,V.c (C.int .i64 k)),(3,V.c (C.ptr 1 0)),(5,V.c (C.ptr 2 0)),(7,V.c (C.int .i64 0))] [(0,Ob.amb),(1,
  Ob.box 50 [C.sl It z1,C.sl (Ty.sl In) z2,C.int .i64 z3]),(2,Ob.box 137 [C.int .i64 z4,C.sl It z5,C.sl Kp z7,C.sl It z9,C.sym z10])] 3 = St.mk 76 [(1,V.c
  (C.int .i64 k)),(3,V.c (C.ptr 1 0)),(5,V.c (C.ptr 2 0)),(7,V.c (C.int .i64 0))] [(0,Ob.amb),(1,Ob.box 50 [C.sl It z1,C.sl (Ty.sl In) z2,C.int .i64
  z3]),(2,Ob.box 137 [C.int .i64 z4,C.sl It z5,C.sl Kp z7,C.sl It z9,C.sym z10])] 3) (.obl (I (0,())) (.all (Int × Unit) fun (v1:Int × Unit) =>
 let z14:=v1.1;
 let z15:=L.inR z14 z11;
 let z16:=L.get Kp z7 (L.toN z14);
 let z17:=L.ar .add .i64 z14 1;
 let z18:=(L.ar .add .i64 z14 1,()); .imp (I v1) (.br (L.cmp .lss z14 z12) (.obl z15 (.obl True (.br (BxF.within F z16.1 0 (L.ar
  .sub .i64 (L.cast (L.llen It z1)) 1)) (.obl z15 (.obl True (.br (BxF.isNum F z16.2) (.ok (St.mk 76 [(1,V.c (C.int .i64 k)),(3,V.c
  (C.ptr 1 0)),(5,V.c (C.ptr 2 0)),(7,V.c (C.int .i64 z17))] [(0,Ob.amb),(1,Ob.box 50 [C.sl It z1,C.sl (Ty.sl In) z2,C.int .i64 z3]),(2,Ob.box 137 [C.int
  .i64 z4,C.sl It z5,C.sl Kp z7,C.sl It z9,C.sym z10])] 3 = St.mk 76 [(1,V.c (C.int .i64 k)),(3,V.c (C.ptr 1 0)),(5,V.c (C.ptr 2 0)),(7,V.c (C.int
  .i64 z17))] [(0,Ob.amb),(1,Ob.box 50 [C.sl It z1,C.sl (Ty.sl In) z2,C.int .i64 z3]),(2,Ob.box 137 [C.int .i64 z4,C.sl It z5,C.sl Kp z7,C.sl It z9,
  C.sym z10])] 3∧I z18∧mu z18 < mu v1)) (.ok ((false,()) = z13))))) (.ok ((false,()) = z13))))) (.obl (L.inR k (L.llen (Ty.sl In) z2)) (.obl True (.br
  (BxF.within F z4 0 (L.cast (L.llen In (L.get (Ty.sl In) z2 (L.toN k))))) (.br (L.cmp .eql (L.cast (L.llen It z5)) 10) (.obl (BxF.bl F z5) (.br
  (BxF.nums F z5) (.br (L.cmp .leq z12 z3) (.br (L.cmp .leq (L.cast (L.llen It z9)) 20) (.obl (BxF.bl F z9) (.br (BxF.nums F z9) (.ok ((true,()) =
  z13)) (.ok ((false,()) = z13)))) (.ok ((false,()) = z13))) (.ok ((false,()) = z13))) (.ok ((false,()) = z13)))) (.ok ((false,()) = z13))) (.ok ((false,()) =
  z13))))))))
theorem n89_go (L:Lv) (F:BxF) (I:Ds [It]→Prop) (mu:Ds [It]→Nat) (p:WkD) (k:Int) (t:ThD) (h:VC.holds (n89 L F I mu p k t)):Holds (vcC L F [37,84,94] (D89 (a89 L I mu)) (S89 F) (p,k,t,())):=Holds.of_eq (by kernel_rfl) h
def n41 (L:Lv) (F:BxF) (I:Ds [It]→Prop) (mu:Ds [It]→Nat) (p:WkD) (s:StD)  : VC :=
 let z1:=s.1;
 let z2:=p.1;
 let z3:=(BxF.isSt F p s,());
 let z4:=s.2;
 let z5:=L.llen Th z4;
 let z6:=L.cast z5;
 let z7:=p.2;
 let z8:=z7.1;
 let z9:=z7.2;
 let z10:=(Prod.fst p,z7.1,z7.2); .br (L.cmp .neq (L.cast (L.llen It z1)) (L.cast (L.llen It z2))) (.ok ((false,()) = z3)) (.br (Lv.cmp
  L .neq z6 (L.cast (L.llen (Ty.sl In) z8))) (.ok ((false,()) = z3)) (.obl (BxF.bl F z1) (.br (BxF.nums F z1) (.obl (St.mk 44 [(2,V.c (C.ptr 1 0)),(3,V.c
  (C.ptr 2 0)),(5,V.c (C.int .i64 0))] [(0,Ob.amb),(1,Ob.box 50 [C.sl It z2,C.sl (Ty.sl In) z8,C.int .i64 z9]),(2,Ob.box 45 [C.sl It z1,C.sl Th z4])] 3 =
  St.mk 44 [(2,V.c (C.ptr 1 0)),(3,V.c (C.ptr 2 0)),(5,V.c (C.int .i64 0))] [(0,Ob.amb),(1,Ob.box 50 [C.sl It z2,C.sl (Ty.sl In) z8,C.int .i64 z9]),(2,
  Ob.box 45 [C.sl It z1,C.sl Th z4])] 3) (.obl (I (0,())) (.all (Int × Unit) fun (v1:Int × Unit) =>
 let z11:=v1.1;
 let z12:=L.get Th z4 (L.toN z11);
 let z13:=z12.2;
 let z14:=z13.2;
 let z15:=z14.2;
 let z16:=(Prod.fst z12,z13.1,z14.1,z15.1,z15.2);
 let z17:=L.ar .add .i64 z11 1;
 let z18:=(L.ar .add .i64 z11 1,()); .imp (I v1) (.br (L.cmp .lss z11 z6) (.obl (L.inR z11 z5) (.obl (BxF.pTh F z10 z11 z16) (.br (BxF.isTh F
  z10 z11 z16) (.ok (St.mk 44 [(2,V.c (C.ptr 1 0)),(3,V.c (C.ptr 2 0)),(5,V.c (C.int .i64 z17))] [(0,Ob.amb),(1,Ob.box 50 [C.sl It z2,C.sl (Ty.sl In) z8,C.int
  .i64 z9]),(2,Ob.box 45 [C.sl It z1,C.sl Th z4])] 3 = St.mk 44 [(2,V.c (C.ptr 1 0)),(3,V.c (C.ptr 2 0)),(5,V.c (C.int .i64 z17))] [(0,Ob.amb),(1,Ob.box 50
  [C.sl It z2,C.sl (Ty.sl In) z8,C.int .i64 z9]),(2,Ob.box 45 [C.sl It z1,C.sl Th z4])] 3∧I z18∧mu z18 < mu v1)) (.ok ((false,()) = z3))))) (.ok ((true,()) =
  z3)))))) (.ok ((false,()) = z3)))))
theorem n41_go (L:Lv) (F:BxF) (I:Ds [It]→Prop) (mu:Ds [It]→Nat) (p:WkD) (s:StD) (h:VC.holds (n41 L F I mu p s)):Holds (vcC L F [94,95] (D41 (a41 L I mu)) (S41 F) (p,s,())):=Holds.of_eq (by kernel_rfl) h
theorem ok89 (F:BxF) (h:F.isTh = fun p k t=>thOk p k.toNat t) (h1:F.isNum = isNumF) (h2:F.within = withinF) (h3:F.nums = numsF) (hp:F.pTh = fun p k t=>p.1.length≤1000000∧(0≤k∧k < p.2.1.length)∧bTh t) (q:F.bl = bL) (k1:SpecOk prog 37 (S86 F)) (k2:SpecOk prog 84 (S92 F)) (k3:SpecOk prog 94 (S87 F)):SpecOk prog 95 (S89 F):=by
 refine Zc hm hE D89 fnok89 _ fun (z:WkD × Int × ThD × Unit) hpre=>?_
 obtain ⟨p,k,t,⟨⟩⟩:=z
 have hpre':F.pTh p k t:=hpre
 rw [hp] at hpre'
 obtain ⟨g1,g2,g3,g4,g5⟩:=hpre'
 obtain ⟨k,rfl⟩:=Yp g2.1
 let I:Int × Unit→Prop:=Iv t.2.2.1.length fun j=>(t.2.2.1.drop j).all (kpOk p.1.length) = t.2.2.1.all (kpOk p.1.length)
 refine Yq _ 3 (a89 Lv.std I (Mu t.2.2.1.length)) (Zn (T:=cT F) (l:=[37,84,94]) (Za (Yh k1 (by kernel_rfl)) (Za (Yh k2 (by kernel_rfl)) (Za (Yh k3 (by kernel_rfl)) Z2)))) ?_
 refine n89_go Lv.std F I (Mu t.2.2.1.length) p k t ?_
 have eI:∀ (l:List (List InD)) (k:Int),Lv.std.get (.sl In) l k.toNat = (l[k.toNat]?).getD []:=fun _ _=>rfl
 have eJ:∀ (l:List KpD) (k:Int),Lv.std.get Kp l k.toNat = (l[k.toNat]?).getD (0,0):=fun _ _=>rfl
 have ew:IntKind.i64.wrap ((p.1.length:Int) - 1) = (p.1.length:Int) - 1:=Yn (by omega) (by omega)
 simp only [n89,VC.holds,ZJ,Zo,Zm,ZH,eI,eJ,ZI,Zb,Zh,ew,Zd,Ze,Zz,ZA,Zj,Zk,h,h1,h2,h3,q,Prod.mk.injEq,and_true,true_and,Int.toNat_natCast]
 refine ⟨Iv.zero rfl,fun x hx=>?_⟩
 obtain ⟨j,rfl,hj,i3⟩:=Iv.elim hx
 simp only [Int.toNat_natCast]
 have no:t.2.2.1.all (kpOk p.1.length) = false→false = thOk p k t:=fun e=>by rw [thOk,e,Bool.and_false]
 refine ⟨fun hlt=>⟨⟨by omega,hlt⟩,fun ha=>⟨⟨by omega,hlt⟩,fun hb=>?_,fun hb=>?_⟩,fun ha=>?_⟩,fun hge=>⟨g2,fun a1=>⟨fun a2=>⟨g3,fun a3=>⟨fun a4=>⟨fun a5=>⟨g5,fun a6=>?_,fun a6=>?_⟩,fun a5=>?_⟩,fun a4=>?_⟩,fun a3=>?_⟩,fun a2=>?_⟩,fun a1=>?_⟩⟩
 ·rw [Yt _ _ j (0,0) (by omega),kpOk,ha,hb,Bool.and_self,Bool.true_and] at i3
  rw [wr hlt g4]
  exact ⟨Iv.mk (by omega) i3,Mu.lt (by omega)⟩
 ·rw [Yt _ _ j (0,0) (by omega),kpOk,hb,Bool.and_false,Bool.false_and] at i3
  exact no i3.symm
 ·rw [Yt _ _ j (0,0) (by omega),kpOk,ha,Bool.false_and,Bool.false_and] at i3
  exact no i3.symm
 ·have a1':withinF t.1 0 (((p.2.1[k]?).getD []).length:Int) = true:=a1
  rw [show j = t.2.2.1.length by omega,List.drop_length] at i3
  rw [thOk,decide_eq_true (by omega),a3,a6,a1',decide_eq_true a4,decide_eq_true (by omega),← i3]; rfl
 ·rw [thOk,a6]; simp
 ·rw [thOk,decide_eq_false (by omega:¬ t.2.2.2.1.length≤20)]; simp
 ·rw [thOk,decide_eq_false (by omega:¬ (t.2.2.1.length:Int)≤p.2.2)]; simp
 ·rw [thOk,a3]; simp
 ·rw [thOk,decide_eq_false (by omega:¬ t.2.1.length = 10)]; simp
 ·have a1':withinF t.1 0 (((p.2.1[k]?).getD []).length:Int) = false:=a1
  rw [thOk,a1']; simp
theorem ok41 (F:BxF) (h:F.isSt = isStF) (h1:F.isTh = fun p k t=>thOk p k.toNat t) (h2:F.nums = numsF) (hp:F.pSt = fun p s=>bW p∧bS s) (q:F.bl = bL) (q1:F.pTh = fun p k t=>p.1.length≤1000000∧(0≤k∧k < p.2.1.length)∧bTh t) (k1:SpecOk prog 94 (S87 F)) (k2:SpecOk prog 95 (S89 F)):SpecOk prog 44 (S41 F):=by
 refine Zc hm hE D41 fnok41 _ fun (z:WkD × StD × Unit) hpre=>?_
 obtain ⟨p,s,⟨⟩⟩:=z
 have hpre':F.pSt p s:=hpre
 rw [hp] at hpre'
 obtain ⟨⟨g1,g2,g3⟩,g4,g5,g6⟩:=hpre'
 let I:Int × Unit→Prop:=Iv s.2.length fun j=>thsN p s (s.2.length - j) = thsN p s s.2.length
 refine Yq _ 3 (a41 Lv.std I (Mu s.2.length)) (Zn (T:=cT F) (l:=[94,95]) (Za (Yh k1 (by kernel_rfl)) (Za (Yh k2 (by kernel_rfl)) Z2))) ?_
 refine n41_go Lv.std F I (Mu s.2.length) p s ?_
 have eT:∀ (l:List ThD) (k:Int),Lv.std.get Th l k.toNat = (l[k.toNat]?).getD (0,[],[],[],false):=fun _ _=>rfl
 simp only [n41,VC.holds,ZJ,Zo,Zm,ZH,eT,ZI,Zb,Zd,Ze,Zs,Zt,h,h1,h2,q,q1,Prod.mk.injEq,and_true,true_and]
 refine ⟨fun c1=>?_,fun c1=>⟨fun c2=>?_,fun c2=>⟨g4,fun c3=>⟨Iv.zero rfl,fun x hx=>?_⟩,fun c3=>?_⟩⟩⟩
 ·rw [isStF,decide_eq_false (by omega:¬ s.1.length = p.1.length)]; rfl
 ·rw [isStF,decide_eq_false (by omega:¬ s.2.length = p.2.1.length)]; simp
 ·obtain ⟨j,rfl,hj,i3⟩:=Iv.elim hx
  simp only [Int.toNat_natCast]
  have e0:isStF p s = thsN p s s.2.length:=by rw [isStF,decide_eq_true (by omega),decide_eq_true (by omega),c3]; rfl
  refine ⟨fun hlt=>⟨⟨by omega,hlt⟩,⟨g1,⟨by omega,by omega⟩,?_⟩,fun ha=>?_,fun ha=>?_⟩,fun hge=>?_⟩
  ·rw [List.getElem?_eq_getElem (by omega)]; exact g6 _ (List.getElem_mem (by omega))
  ·rw [thsN_step p s j (by omega)] at i3
   have ha':thOk p j ((s.2[j]?).getD (0,[],[],[],false)) = true:=ha
   rw [ha',Bool.true_and] at i3
   rw [wr hlt g5]
   exact ⟨Iv.mk (by omega) i3,Mu.lt (by omega)⟩
  ·rw [thsN_step p s j (by omega)] at i3
   have ha':thOk p j ((s.2[j]?).getD (0,[],[],[],false)) = false:=ha
   rw [ha',Bool.false_and] at i3
   rw [e0]; exact i3
  ·rw [show s.2.length - j = 0 by omega] at i3
   rw [e0]; exact i3
 ·rw [isStF,c3]; simp
end Go.Proofs.Tryz
namespace Go.Proofs.Tryz
open Go Go.VM
def aT3 (L:Lv) (I:Ds [It]→Prop) (mu:Ds [It]→Nat):Nat→LAnn
 | 0=>anH L [1,3] [] [.s 3 It] I mu
 | _=>.no
def n40 (L:Lv) (F:BxF) (I:Ds [It]→Prop) (mu:Ds [It]→Nat) (s:StD)  : VC :=
 let z1:=s.1;
 let z2:=(BxF.thinS F s,());
 let z3:=s.2;
 let z4:=L.llen Th z3;
 let z5:=L.cast z4; .br (L.cmp .gtr (L.cast (L.llen It z1)) 70) (.ok ((false,()) = z2)) (.br (L.cmp .gtr z5 5) (.ok ((false,()) = z2)) (.obl
  (St.mk 43 [(1,V.c (C.ptr 1 0)),(3,V.c (C.int .i64 0))] [(0,Ob.amb),(1,Ob.box 45 [C.sl It z1,C.sl Th z3])] 2 = St.mk 43 [(1,V.c (C.ptr 1 0)),(3,V.c (C.int
  .i64 0))] [(0,Ob.amb),(1,Ob.box 45 [C.sl It z1,C.sl Th z3])] 2) (.obl (I (0,())) (.all (Int × Unit) fun (v1:Int × Unit) =>
 let z6:=v1.1;
 let z7:=Prod.snd (L.get Th z3 (L.toN z6));
 let z8:=z7.2;
 let z9:=L.ar .add .i64 z6 1;
 let z10:=(L.ar .add .i64 z6 1,()); .imp (I v1) (.br (L.cmp .lss z6 z5) (.obl (L.inR z6 z4) (.br (L.cmp .gtr (L.cast (L.llen It
  z7.1)) 12) (.ok ((false,()) = z2)) (.br (L.cmp .gtr (L.cast (L.llen Kp z8.1)) 25) (.ok ((false,()) = z2)) (.br (L.cmp .gtr
  (L.cast (L.llen It z8.2.1)) 25) (.ok ((false,()) = z2)) (.ok (St.mk 43 [(1,V.c (C.ptr 1 0)),(3,V.c (C.int .i64 z9))] [(0,Ob.amb),(1,
  Ob.box 45 [C.sl It z1,C.sl Th z3])] 2 = St.mk 43 [(1,V.c (C.ptr 1 0)),(3,V.c (C.int .i64 z9))] [(0,Ob.amb),(1,Ob.box 45 [C.sl It z1,C.sl Th z3])] 2∧I z10∧mu
  z10 < mu v1)))))) (.ok ((true,()) = z2)))))))
theorem n40_go (L:Lv) (F:BxF) (I:Ds [It]→Prop) (mu:Ds [It]→Nat) (s:StD) (h:VC.holds (n40 L F I mu s)):Holds (vcC L F [] (D40 (aT3 L I mu)) (S40 F) (s,())):=Holds.of_eq (by kernel_rfl) h
theorem wrB {k:Nat} {n:Nat} (h:(k:Int) < n) (hn:n≤9223372036854775807):IntKind.i64.wrap ((k:Int) + 1) = ((k + 1:Nat):Int):=by rw [Yn (by omega) (by omega)]; omega
theorem ok40 (F:BxF) (h:F.thinS = thinSF) (hp:F.bsT = bsTF):SpecOk prog 41 (S40 F):=by
 refine Zc hm hE D40 fnok40 _ fun (z:StD × Unit) hpre=>?_
 obtain ⟨s,⟨⟩⟩:=z
 have hpre':F.bsT s:=hpre
 rw [hp] at hpre'
 obtain ⟨g1,g2⟩:=hpre'
 let I:Int × Unit→Prop:=Iv s.2.length fun k=>(s.2.drop k).all thinT = s.2.all thinT
 refine Yq _ 3 (aT3 Lv.std I (Mu s.2.length)) (Zn (T:=cT F) (l:=[]) Z2) ?_
 refine n40_go Lv.std F I (Mu s.2.length) s ?_
 have e2:∀ (l:List ThD) (k:Int),Lv.std.get Th l k.toNat = (l[k.toNat]?).getD (0,[],[],[],false):=fun _ _=>rfl
 simp only [n40,VC.holds,ZJ,Zo,Zm,ZH,e2,ZI,Zb,Zd,Ze,Zu,Zv,Zz,ZA,h,and_true,true_and]
 have et:∀ t,thinT t = true↔¬ (12 < (t.2.1.length:Int)∨25 < (t.2.2.1.length:Int)∨25 < (t.2.2.2.1.length:Int)):=fun t=>by
  unfold thinT; simp only [Bool.not_eq_true',Bool.or_eq_false_iff,decide_eq_false_iff_not]; omega
 have ew:thinSF s = true↔¬ (70 < (s.1.length:Int)∨5 < (s.2.length:Int))∧s.2.all thinT = true:=by
  unfold thinSF; simp only [Bool.and_eq_true,Bool.not_eq_true',Bool.or_eq_false_iff,decide_eq_false_iff_not]
  constructor
  ·rintro ⟨h1,h2⟩; exact ⟨by omega,h2⟩
  ·rintro ⟨h1,h2⟩; exact ⟨by omega,h2⟩
 have fls:¬ (thinSF s = true)→(false,()) = (thinSF s,()):=fun h=>by rw [Bool.not_eq_true] at h; rw [h]
 have fw:(70 < (s.1.length:Int)∨5 < (s.2.length:Int))→(false,()) = (thinSF s,()):=fun h=>fls fun e=>(ew.1 e).1 h
 refine ⟨fun a=>fw (by omega),fun a=>⟨fun b=>fw (by omega),fun b=>⟨Iv.zero rfl,fun x hx=>?_⟩⟩⟩
 obtain ⟨k,rfl,hk,i3⟩:=Iv.elim hx
 simp only [Int.toNat_natCast]
 refine ⟨fun hlt=>⟨⟨by omega,hlt⟩,?_⟩,fun hge=>?_⟩
 ·have hk':k < s.2.length:=by omega
  have fail':(12 < (((s.2[k]?).getD (0,[],[],[],false)).2.1.length:Int)∨25 < (((s.2[k]?).getD (0,[],[],[],false)).2.2.1.length:Int)∨25 < (((s.2[k]?).getD (0,[],[],[],false)).2.2.2.1.length:Int))→(false,()) = (thinSF s,()):=fun h=>fls fun e=>by
   rw [(ew.1 e).2,Yt _ _ k (0,[],[],[],false) hk',Bool.and_eq_true] at i3
   exact (et _).1 i3.1 h
  have passI':¬ (12 < (((s.2[k]?).getD (0,[],[],[],false)).2.1.length:Int)∨25 < (((s.2[k]?).getD (0,[],[],[],false)).2.2.1.length:Int)∨25 < (((s.2[k]?).getD (0,[],[],[],false)).2.2.2.1.length:Int))→I (IntKind.i64.wrap ((k:Int) + 1),()):=fun h=>by
   rw [Yt _ _ k (0,[],[],[],false) hk',(et _).2 h,Bool.true_and] at i3
   rw [wrB hlt g2]
   exact Iv.mk (by omega) i3
  have passM':Mu s.2.length (IntKind.i64.wrap ((k:Int) + 1),()) < Mu s.2.length ((k:Int),()):=by rw [wrB hlt g2]; exact Mu.lt hk'
  clear_value I
  repeat' (first | refine And.intro ?_ ?_ | intro _)
  all_goals first | exact passM' | exact fail' (by omega) | exact passI' (by omega)
 ·rw [show k = s.2.length by omega,List.drop_length] at i3
  have i3:true = s.2.all thinT:=i3
  rw [ew.2 ⟨by omega,i3.symm⟩]
end Go.Proofs.Tryz
namespace Go.Proofs.Tryz
open Go Go.VM
theorem h40:SpecOk prog 41 (S40 FF):=ok40 FF rfl rfl
theorem h88:SpecOk prog 94 (S87 FF):=ok88 FF rfl rfl rfl h63
theorem h89:SpecOk prog 95 (S89 FF):=ok89 FF rfl rfl rfl rfl rfl rfl h54 h63 h88
theorem h41:SpecOk prog 44 (S41 FF):=ok41 FF rfl rfl rfl rfl rfl rfl h88 h89
theorem h45:SpecOk prog 93 (S45 FF):=ok45 FF rfl rfl rfl rfl rfl rfl rfl rfl h38 h86 h87 h92
theorem h43:SpecOk prog 43 (S43 FF):=ok43 FF rfl
end Go.Proofs.Tryz
namespace Go.Proofs.Tryz
open Go Go.VM
theorem atb9:prog.funcs[9]? = some f9:=by kernel_rfl
def plb9:Nat→Plan
 | 3=>[(8,[]),(0,[8]),(1,[8]),(2,[8,0,1]),(3,[8]),(4,[8]),(5,[8]),(6,[8]),(7,[8,6]),(9,[7]),(10,[])]
 | 5=>[(0,[]),(1,[]),(2,[]),(3,[]),(4,[]),(5,[3,4]),(6,[]),(7,[]),(8,[])]
 | _=>[]
noncomputable def Db9 (ann:Nat→LAnn):FnD:=⟨f9.body.getD .skip,f9.ntmps,f9.results.toList,plb9,ann⟩
theorem fnokb9 (ann:Nat→LAnn):FnOk prog 9 (Db9 ann):=⟨f9,atb9,by kernel_rfl,by kernel_rfl,rfl,rfl,by kernel_rfl⟩
theorem atb28:prog.funcs[28]? = some f28:=by kernel_rfl
def plb28:Nat→Plan
 | 1=>[(9,[]),(0,[9]),(1,[9]),(2,[9]),(3,[9]),(4,[9]),(5,[9]),(6,[9,0,1,2,3,4,5]),(7,[9,0,1,2,3,4,5]),(8,[9]),(10,[])]
 | 6=>[(0,[]),(1,[]),(2,[0,1]),(3,[0,1,2]),(4,[0,1]),(5,[0,1]),(6,[]),(7,[]),(8,[])]
 | 10=>[(0,[]),(1,[]),(2,[0,1]),(3,[0,1,2]),(4,[0,1]),(5,[0,1]),(6,[]),(7,[]),(8,[])]
 | _=>[]
noncomputable def Db28 (ann:Nat→LAnn):FnD:=⟨f28.body.getD .skip,f28.ntmps,f28.results.toList,plb28,ann⟩
theorem fnokb28 (ann:Nat→LAnn):FnOk prog 28 (Db28 ann):=⟨f28,atb28,by kernel_rfl,by kernel_rfl,rfl,rfl,by kernel_rfl⟩
theorem atb29:prog.funcs[29]? = some f29:=by kernel_rfl
def plb29:Nat→Plan
 | 5=>[(0,[]),(1,[]),(2,[0,1]),(3,[0,1,2]),(4,[0,1,2]),(5,[0,1,2,3,4]),(6,[0,1,2]),(7,[0,1,2]),(8,[0,1,2]),(9,[0,1]),(10,[0,1]),(11,[]),(12,[]),(13,[])]
 | _=>[]
noncomputable def Db29 (ann:Nat→LAnn):FnD:=⟨f29.body.getD .skip,f29.ntmps,f29.results.toList,plb29,ann⟩
theorem fnokb29 (ann:Nat→LAnn):FnOk prog 29 (Db29 ann):=⟨f29,atb29,by kernel_rfl,by kernel_rfl,rfl,rfl,by kernel_rfl⟩
theorem atb38:prog.funcs[38]? = some f38:=by kernel_rfl
def plb38:Nat→Plan
 | 5=>[(0,[]),(1,[]),(2,[]),(3,[0,1,2]),(4,[0,1,2]),(5,[0,1,2,3,4]),(6,[0,1,2]),(7,[0,1,2]),(8,[]),(9,[]),(10,[]),(11,[0,1,2,3,4,5,6,7,8,9,10]),(12,[]),(13,[]),(14,[0,1,2,3,4,5,6,7,8,9,10,11,12,13]),(15,[0,1,2,3,4,5,6,7,8,9,10,11,12,13]),(16,[0,1,2,3,4,5,6,7,8,9,10,11,12,13]),(17,[]),(18,[]),(19,[]),(20,[]),(21,[])]
 | _=>[]
noncomputable def Db38 (ann:Nat→LAnn):FnD:=⟨f38.body.getD .skip,f38.ntmps,f38.results.toList,plb38,ann⟩
theorem fnokb38 (ann:Nat→LAnn):FnOk prog 38 (Db38 ann):=⟨f38,atb38,by kernel_rfl,by kernel_rfl,rfl,rfl,by kernel_rfl⟩
theorem atb39:prog.funcs[39]? = some f39:=by kernel_rfl
def plb39:Nat→Plan
 | _=>[]
noncomputable def Db39 (ann:Nat→LAnn):FnD:=⟨f39.body.getD .skip,f39.ntmps,f39.results.toList,plb39,ann⟩
theorem fnokb39 (ann:Nat→LAnn):FnOk prog 39 (Db39 ann):=⟨f39,atb39,by kernel_rfl,by kernel_rfl,rfl,rfl,by kernel_rfl⟩
theorem atb42:prog.funcs[42]? = some f42:=by kernel_rfl
def plb42:Nat→Plan
 | 4=>[(0,[]),(1,[]),(2,[0,1]),(3,[]),(4,[])]
 | 6=>[(0,[]),(1,[0]),(2,[0]),(3,[0,1,2]),(4,[0,1,2]),(5,[]),(6,[]),(7,[])]
 | _=>[]
noncomputable def Db42 (ann:Nat→LAnn):FnD:=⟨f42.body.getD .skip,f42.ntmps,f42.results.toList,plb42,ann⟩
theorem fnokb42 (ann:Nat→LAnn):FnOk prog 42 (Db42 ann):=⟨f42,atb42,by kernel_rfl,by kernel_rfl,rfl,rfl,by kernel_rfl⟩
theorem atb89:prog.funcs[89]? = some f89:=by kernel_rfl
def plb89:Nat→Plan
 | _=>[]
noncomputable def Db89 (ann:Nat→LAnn):FnD:=⟨f89.body.getD .skip,f89.ntmps,f89.results.toList,plb89,ann⟩
theorem fnokb89 (ann:Nat→LAnn):FnOk prog 89 (Db89 ann):=⟨f89,atb89,by kernel_rfl,by kernel_rfl,rfl,rfl,by kernel_rfl⟩
theorem atb90:prog.funcs[90]? = some f90:=by kernel_rfl
def plb90:Nat→Plan
 | _=>[]
noncomputable def Db90 (ann:Nat→LAnn):FnD:=⟨f90.body.getD .skip,f90.ntmps,f90.results.toList,plb90,ann⟩
theorem fnokb90 (ann:Nat→LAnn):FnOk prog 90 (Db90 ann):=⟨f90,atb90,by kernel_rfl,by kernel_rfl,rfl,rfl,by kernel_rfl⟩
theorem atb91:prog.funcs[91]? = some f91:=by kernel_rfl
def plb91:Nat→Plan
 | _=>[]
noncomputable def Db91 (ann:Nat→LAnn):FnD:=⟨f91.body.getD .skip,f91.ntmps,f91.results.toList,plb91,ann⟩
theorem fnokb91 (ann:Nat→LAnn):FnOk prog 91 (Db91 ann):=⟨f91,atb91,by kernel_rfl,by kernel_rfl,rfl,rfl,by kernel_rfl⟩
theorem atb92:prog.funcs[92]? = some f92:=by kernel_rfl
def plb92:Nat→Plan
 | _=>[]
noncomputable def Db92 (ann:Nat→LAnn):FnD:=⟨f92.body.getD .skip,f92.ntmps,f92.results.toList,plb92,ann⟩
theorem fnokb92 (ann:Nat→LAnn):FnOk prog 92 (Db92 ann):=⟨f92,atb92,by kernel_rfl,by kernel_rfl,rfl,rfl,by kernel_rfl⟩
end Go.Proofs.Tryz
namespace Go.Proofs.Tryz
open Go Go.VM
def ab28 (L:Lv) (I:Ds [.sl (.sl In),It]→Prop) (mu:Ds [.sl (.sl In),It]→Nat) (I2:Ds [.sl (.sl In),It]→Prop) (m2:Ds [.sl (.sl In),It]→Nat):Nat→LAnn
 | 0=>anH L [1,2,3,4] [(3,some 1,36,.sl In)] [.br 3 1 (.sl In),.s 4 It] I mu
 | 2=>anH L [1,2,3,5] [] [.br 3 1 (.sl In),.s 5 It] I2 m2
 | _=>.no
def nb28 (L:Lv) (F:BxF) (M:BeF) (I:Ds [.sl (.sl In),It]→Prop) (mu:Ds [.sl (.sl In),It]→Nat) (I2:Ds [.sl (.sl In),It]→Prop) (m2:Ds [.sl (.sl In),It]→Nat) (b:BlD)  : VC :=
 let z1:=b.2;
 let z2:=z1.2;
 let z3:=z2.2;
 let z4:=z3.1;
 let z5:=L.cast (L.llen It z4);
 let z6:=L.ar .add .i64 2 (L.ar .mul .i64 2 z5);
 let z7:=L.toN z6;
 let z8:=L.rep It z7 0;
 let z9:=b.1;
 let z10:=z1.1;
 let z11:=z2.1;
 let z12:=z3.2;
 let z13:=L.setl It z8 (L.toN 0) z9;
 let z14:=List (Int × Int × Int × Int × Int × Int);
 let z15:=List z14 × Int × Unit;
 let z16:=(Prod.fst b,z1.1,z2.1,z3.1,z3.2); .obl (L.mkOk z6 z6 8) (.obl (L.inR 0 z7) (.obl (L.ltN (L.toN 0) (L.llen It z8))
  (.obl (St.mk 51 [(1,V.c (C.ptr 1 0)),(2,V.c (C.ptr 2 0)),(3,V.c (C.ptr 3 0)),(4,V.c (C.int .i64 0))] [(0,Ob.amb),(1,Ob.box 28 [C.int .i64 z9,C.int
  .i64 z10,C.sym z11,C.sl It z4,C.sl (Ty.sl It) z12]),(2,Ob.box 50 [C.nils,C.nils,C.int .i64 0]),(3,Ob.box 50 [C.own 4 z7,C.own 6 0,C.int .i64
  z10]),(4,Ob.row 3 It z13),(6,Ob.row 36 (Ty.sl In) [])] 7 = St.mk 51 [(1,V.c (C.ptr 1 0)),(2,V.c (C.ptr 2 0)),(3,V.c (C.ptr 3 0)),(4,V.c (C.int .i64 0))] [(0,
  Ob.amb),(1,Ob.box 28 [C.int .i64 z9,C.int .i64 z10,C.sym z11,C.sl It z4,C.sl (Ty.sl It) z12]),(2,Ob.box 50 [C.nils,C.nils,C.int .i64 0]),(3,
  Ob.box 50 [C.own 4 z7,C.own 6 (L.llen (Ty.sl In) []),C.int .i64 z10]),(4,Ob.row 3 It z13),(6,Ob.row 36 (Ty.sl In) [])] 7) (.obl (I ([],0,())) (.all z15 fun
  (v1:List (List (Int × Int × Int × Int × Int × Int)) × Int × Unit) =>
 let z17:=v1.2.1;
 let z18:=v1.1;
 let z19:=L.llen (Ty.sl In) z18;
 let z20:=L.take (Ty.sl In) z18 z19;
 let z21:=L.take (Ty.sl In) [BeF.wtr M z16 z17] 1;
 let z22:=L.add (L.llen (Ty.sl In) z20) (L.llen (Ty.sl In) z21);
 let z23:=L.ar .add .i64 z17 1;
 let z24:=L.app (Ty.sl In) z20 z21;
 let z25:=(L.app (Ty.sl In) z20 z21,L.ar .add .i64 z17 1,()); .imp (I v1) (.br (L.cmp .lss z17 z5) (.obl (BeF.pWt M z16 z17) (.obl (L.room
  z22 24) (.ok (St.mk 51 [(1,V.c (C.ptr 1 0)),(2,V.c (C.ptr 2 0)),(3,V.c (C.ptr 3 0)),(4,V.c (C.int .i64 z23))] [(0,Ob.amb),(1,Ob.box 28 [C.int .i64 z9,
  C.int .i64 z10,C.sym z11,C.sl It z4,C.sl (Ty.sl It) z12]),(2,Ob.box 50 [C.nils,C.nils,C.int .i64 0]),(3,Ob.box 50 [C.own 4 z7,C.own 6 z22,C.int
  .i64 z10]),(4,Ob.row 3 It z13),(6,Ob.row 36 (Ty.sl In) z24)] 7 = St.mk 51 [(1,V.c (C.ptr 1 0)),(2,V.c (C.ptr 2 0)),(3,V.c (C.ptr 3 0)),(4,V.c (C.int .i64
  z23))] [(0,Ob.amb),(1,Ob.box 28 [C.int .i64 z9,C.int .i64 z10,C.sym z11,C.sl It z4,C.sl (Ty.sl It) z12]),(2,Ob.box 50 [C.nils,C.nils,C.int .i64
  0]),(3,Ob.box 50 [C.own 4 z7,C.own 6 (L.llen (Ty.sl In) z24),C.int .i64 z10]),(4,Ob.row 3 It z13),(6,Ob.row 36 (Ty.sl In) z24)] 7∧I z25∧mu z25 < mu v1))))
  (.obl (St.mk 51 [(1,V.c (C.ptr 1 0)),(2,V.c (C.ptr 2 0)),(3,V.c (C.ptr 3 0)),(5,V.c (C.int .i64 0))] [(0,Ob.amb),(1,Ob.box 28 [C.int .i64 z9,C.int
  .i64 z10,C.sym z11,C.sl It z4,C.sl (Ty.sl It) z12]),(2,Ob.box 50 [C.nils,C.nils,C.int .i64 0]),(3,Ob.box 50 [C.own 4 z7,C.own 7 z19,C.int .i64
  z10]),(4,Ob.row 3 It z13),(7,Ob.row 36 (Ty.sl In) z18)] 8 = St.mk 51 [(1,V.c (C.ptr 1 0)),(2,V.c (C.ptr 2 0)),(3,V.c (C.ptr 3 0)),(5,V.c (C.int .i64 0))] [(0,
  Ob.amb),(1,Ob.box 28 [C.int .i64 z9,C.int .i64 z10,C.sym z11,C.sl It z4,C.sl (Ty.sl It) z12]),(2,Ob.box 50 [C.nils,C.nils,C.int .i64 0]),(3,
  Ob.box 50 [C.own 4 z7,C.own 7 z19,C.int .i64 z10]),(4,Ob.row 3 It z13),(7,Ob.row 36 (Ty.sl In) z18)] 8) (.obl (I2 (Prod.fst v1,0,())) (.all z15 fun (v2:List
  (List (Int × Int × Int × Int × Int × Int)) × Int × Unit) =>
 let z26:=v2.2.1;
 let z27:=v2.1;
 let z28:=L.llen (Ty.sl In) z27;
 let z29:=L.take (Ty.sl In) z27 z28;
 let z30:=L.take (Ty.sl In) [BeF.wrt M z16 z26] 1;
 let z31:=L.add (L.llen (Ty.sl In) z29) (L.llen (Ty.sl In) z30);
 let z32:=L.ar .add .i64 z26 1;
 let z33:=L.app (Ty.sl In) z29 z30;
 let z34:=(L.app (Ty.sl In) z29 z30,L.ar .add .i64 z26 1,()); .imp (I2 v2) (.br (L.cmp .lss z26 (L.cast (L.llen (Ty.sl It) z12))) (.obl
  (BeF.pWr M z16 z26) (.obl (L.room z31 24) (.ok (St.mk 51 [(1,V.c (C.ptr 1 0)),(2,V.c (C.ptr 2 0)),(3,V.c (C.ptr 3 0)),(5,V.c (C.int .i64 z32))] [(0,Ob.amb),
  (1,Ob.box 28 [C.int .i64 z9,C.int .i64 z10,C.sym z11,C.sl It z4,C.sl (Ty.sl It) z12]),(2,Ob.box 50 [C.nils,C.nils,C.int .i64 0]),(3,Ob.box 50
  [C.own 4 z7,C.own 7 z31,C.int .i64 z10]),(4,Ob.row 3 It z13),(7,Ob.row 36 (Ty.sl In) z33)] 8 = St.mk 51 [(1,V.c (C.ptr 1 0)),(2,V.c (C.ptr 2 0)),(3,V.c (C.ptr 3
  0)),(5,V.c (C.int .i64 z32))] [(0,Ob.amb),(1,Ob.box 28 [C.int .i64 z9,C.int .i64 z10,C.sym z11,C.sl It z4,C.sl (Ty.sl It) z12]),(2,Ob.box 50
  [C.nils,C.nils,C.int .i64 0]),(3,Ob.box 50 [C.own 4 z7,C.own 7 (L.llen (Ty.sl In) z33),C.int .i64 z10]),(4,Ob.row 3 It z13),(7,Ob.row 36 (Ty.sl In)
  z33)] 8∧I2 z34∧m2 z34 < m2 v2)))) (.ok (((L.take It z13 z7,L.take (Ty.sl In) z27 z28,z1.1),()) = (BeF.prg M b,())))))))))))))
theorem nb28_go (L:Lv) (F:BxF) (M:BeF) (I:Ds [.sl (.sl In),It]→Prop) (mu:Ds [.sl (.sl In),It]→Nat) (I2:Ds [.sl (.sl In),It]→Prop) (m2:Ds [.sl (.sl In),It]→Nat) (b:BlD) (h:VC.holds (nb28 L F M I mu I2 m2 b)):Holds (vcE L F M [] [38,39] 3 (Db28 (ab28 L I mu I2 m2)) (Sb28 M) (b,())):=Holds.of_eq (by kernel_rfl) h
theorem okb28 (F:BxF) (M:BeF) (h:M.prg = prgF) (h1:M.wtr = wtrF) (h2:M.wrt = wrtF) (q:M.pP = bBF) (q1:M.pWt = pWtF) (q2:M.pWr = pWrF) (k1:SpecOk prog 38 (Sb38 M)) (k2:SpecOk prog 39 (Sb39 M)):SpecOk prog 28 (Sb28 M):=by
 refine Zc hm hE Db28 fnokb28 _ fun (z:BlD × Unit) hpre=>?_
 obtain ⟨b,⟨⟩⟩:=z
 have hpre':M.pP b:=hpre
 rw [q] at hpre'
 obtain ⟨g1,g2,g3⟩:=hpre'
 have w1:IntKind.i64.wrap (2 + IntKind.i64.wrap (2 * (b.2.2.2.1.length:Int))) = ((2 + 2 * b.2.2.2.1.length:Nat):Int):=by rw [Yn (x:=2 * (b.2.2.2.1.length:Int)) (by omega) (by omega),Yn (by omega) (by omega)]; omega
 have w2:IntKind.i64.wrap (IntKind.i64.wrap (2 * (b.2.2.2.1.length:Int)) + 2) = ((2 + 2 * b.2.2.2.1.length:Nat):Int):=by rw [Yn (x:=2 * (b.2.2.2.1.length:Int)) (by omega) (by omega),Yn (by omega) (by omega)]; omega
 have w3:IntKind.i64.wrap (2 * (b.2.2.2.1.length:Int)) = 2 * (b.2.2.2.1.length:Int):=Yn (by omega) (by omega)
 let f1:Nat→List InD:=fun i=>wtrF b (i:Int)
 let f2:Nat→List InD:=fun k=>wrtF b (k:Int)
 let I:List (List InD) × Int × Unit→Prop:=fun x=>(0≤x.2.1∧x.2.1≤b.2.2.2.1.length)∧x.1 = (List.range x.2.1.toNat).map f1
 let mu:List (List InD) × Int × Unit→Nat:=fun x=>(b.2.2.2.1.length - x.2.1).toNat
 let I2:List (List InD) × Int × Unit→Prop:=fun x=>(0≤x.2.1∧x.2.1≤b.2.2.2.2.length)∧x.1 = (List.range b.2.2.2.1.length).map f1 ++ (List.range x.2.1.toNat).map f2
 let m2:List (List InD) × Int × Unit→Nat:=fun x=>(b.2.2.2.2.length - x.2.1).toNat
 refine Yq _ 3 (ab28 Lv.std I mu I2 m2) (Zn (T:=tabO [] (eT F M)) (l:=[38,39]) (Za (Yh k1 (by kernel_rfl)) (Za (Yh k2 (by kernel_rfl)) Z2))) ?_
 refine nb28_go Lv.std F M I mu I2 m2 b ?_
 simp only [nb28,VC.holds,ZJ,ZO,Zb,Zh,Zp,Yj,Ym,Z6,ZM,Yl,Yk,Yf,ZX,ZY,ZT,ZR,Ye,ZN,ZB,ZD,Zm,Z1,ZS,Z5,ZK,ZW,Yb,ZV,ZP,ZQ,Zo,ZH,Ya,Z3,ZI,Yd,Yc,Z4,Z7,Zg,ZC,ZL,ZU,Z8,Z9,Zd,Ze,Zz,ZA,Zu,Zv,Zw,Zx,Zj,Zk,Zs,Zt,Zi,Zl,Zq,Zr,ZG,ZF,ZZ,Yg,ZE,w1,w2,Int.toNat_natCast,h,h1,h2,q1,q2,pe5,List.length_set,List.length_replicate,List.take_length,List.take_succ_cons,List.take_zero,List.take_nil,List.nil_append,List.length_append,List.length_cons,List.length_nil,Nat.zero_add,Prod.mk.injEq,and_true,true_and]
 refine ⟨⟨by omega,by omega,by omega,by omega⟩,⟨by omega,by omega⟩,by show (0:Nat) < _; omega,⟨⟨Int.le_refl 0,by show (0:Int)≤b.2.2.2.1.length; omega⟩,rfl⟩,?_⟩
 rintro ⟨l,x,⟨⟩⟩ ⟨⟨i1,i2⟩,i3⟩
 simp only at i1 i2 i3 ⊢
 obtain ⟨j,rfl⟩:=Yp i1
 rw [Int.toNat_natCast] at i3
 have hl:l.length = j:=by rw [i3,List.length_map,List.length_range]
 refine ⟨fun hlt=>?_,fun hge=>⟨⟨⟨Int.le_refl 0,by show (0:Int)≤b.2.2.2.2.length; omega⟩,?_⟩,?_⟩⟩
 ·rw [wr hlt (by omega)]
  refine ⟨⟨⟨g1,g2,g3⟩,i1,hlt⟩,⟨by omega,by omega⟩,⟨⟨by show (0:Int)≤((j + 1:Nat):Int); omega,by show ((j + 1:Nat):Int)≤b.2.2.2.1.length; omega⟩,?_⟩,by show ((b.2.2.2.1.length:Int) - ((j + 1:Nat):Int)).toNat < ((b.2.2.2.1.length:Int) - j).toNat; omega⟩
  show l ++ [wtrF b j] = (List.range ((j + 1:Nat):Int).toNat).map f1
  rw [Int.toNat_natCast,range_map,i3]
 ·show l = (List.range b.2.2.2.1.length).map f1 ++ []
  rw [List.append_nil,i3,show j = b.2.2.2.1.length by omega]
 ·rintro ⟨r,x,⟨⟩⟩ ⟨⟨j1,j2⟩,j3⟩
  simp only at j1 j2 j3 ⊢
  obtain ⟨k,rfl⟩:=Yp j1
  rw [Int.toNat_natCast] at j3
  have hr:r.length = b.2.2.2.1.length + k:=by rw [j3,List.length_append,List.length_map,List.length_range,List.length_map,List.length_range]
  refine ⟨fun hlt=>?_,fun hge=>?_⟩
  ·rw [wr hlt (by omega)]
   refine ⟨⟨⟨g1,g2,g3⟩,j1,hlt⟩,⟨by omega,by omega⟩,⟨⟨by show (0:Int)≤((k + 1:Nat):Int); omega,by show ((k + 1:Nat):Int)≤b.2.2.2.2.length; omega⟩,?_⟩,by show ((b.2.2.2.2.length:Int) - ((k + 1:Nat):Int)).toNat < ((b.2.2.2.2.length:Int) - k).toNat; omega⟩
   show r ++ [wrtF b k] = (List.range b.2.2.2.1.length).map f1 ++ (List.range ((k + 1:Nat):Int).toNat).map f2
   rw [Int.toNat_natCast,range_map,j3,List.append_assoc]
  ·rw [List.take_of_length_le (by rw [List.length_set,List.length_replicate]; omega),j3,show k = b.2.2.2.2.length by omega]
   rfl
end Go.Proofs.Tryz
namespace Go.Proofs.Tryz
open Go Go.VM
def ab39 (L:Lv) (I:Ds [.sl In,It]→Prop) (mu:Ds [.sl In,It]→Nat):Nat→LAnn
 | 0=>anH L [1,2,5,6] [] [.r 5 In,.s 6 It] I mu
 | _=>.no
def nb89 (L:Lv) (F:BxF) (M:BeF) (o a b c n:Int)  : VC :=
 .ok (((o,a,b,c,0,n),()) = (BeF.i3 M o a b c n,()))
theorem nb89_go (L:Lv) (F:BxF) (M:BeF) (o a b c n:Int) (h:VC.holds (nb89 L F M o a b c n)):Holds (vcE L F M [] [] 3 (Db89 a0) (Sb89 M) (o,a,b,c,n,())):=Holds.of_eq (by kernel_rfl) h
def nb90 (L:Lv) (F:BxF) (M:BeF) (a b:Int)  : VC :=
 let z1:=Prod.snd (BeF.i3 M 14 a 0 0 b);
 let z2:=z1.2;
 let z3:=z2.2;
 let z4:=z3.2; .obl True (.ok (((Prod.fst (BeF.i3 M 14 a 0 0 b),z1.1,z2.1,z3.1,z4.1,z4.2),()) = (BeF.izero M a b,())))
theorem nb90_go (L:Lv) (F:BxF) (M:BeF) (a b:Int) (h:VC.holds (nb90 L F M a b)):Holds (vcE L F M [] [89] 3 (Db90 a0) (Sb90 M) (a,b,())):=Holds.of_eq (by kernel_rfl) h
def nb91 (L:Lv) (F:BxF) (M:BeF) (a b c:Int)  : VC :=
 .ok (((10,5,0,a,b,c),()) = (BeF.iswR M a b c,()))
theorem nb91_go (L:Lv) (F:BxF) (M:BeF) (a b c:Int) (h:VC.holds (nb91 L F M a b c)):Holds (vcE L F M [] [] 3 (Db91 a0) (Sb91 M) (a,b,c,())):=Holds.of_eq (by kernel_rfl) h
def nb92 (L:Lv) (F:BxF) (M:BeF) (a:Int)  : VC :=
 let z1:=Prod.snd (BeF.i3 M 13 0 0 0 a);
 let z2:=z1.2;
 let z3:=z2.2;
 let z4:=z3.2; .obl True (.ok (((Prod.fst (BeF.i3 M 13 0 0 0 a),z1.1,z2.1,z3.1,z4.1,z4.2),()) = (BeF.ijmp M a,())))
theorem nb92_go (L:Lv) (F:BxF) (M:BeF) (a:Int) (h:VC.holds (nb92 L F M a)):Holds (vcE L F M [] [89] 3 (Db92 a0) (Sb92 M) (a,())):=Holds.of_eq (by kernel_rfl) h
def nb38 (L:Lv) (F:BxF) (M:BeF) (b:BlD) (i:Int)  : VC :=
 let z1:=b.2.2;
 let z2:=z1.1;
 let z3:=z1.2.1;
 let z4:=L.inR i (L.llen It z3);
 let z5:=L.ar .add .i64 i 1;
 let z6:=Prod.snd (BeF.i3 M 1 8 0 0 z5);
 let z7:=z6.2;
 let z8:=z7.2;
 let z9:=z8.2;
 let z10:=(Prod.fst (BeF.i3 M 1 8 0 0 z5),z6.1,z7.1,z8.1,z9.1,z9.2);
 let z11:=L.get It z3 (L.toN i);
 let z12:=Prod.snd (BeF.i3 M 1 9 0 0 z11);
 let z13:=z12.2;
 let z14:=z13.2;
 let z15:=z14.2;
 let z16:=(Prod.fst (BeF.i3 M 1 9 0 0 z11),z12.1,z13.1,z14.1,z15.1,z15.2);
 let z17:=Prod.snd (BeF.i3 M 8 1 0 0 0);
 let z18:=z17.2;
 let z19:=z18.2;
 let z20:=z19.2;
 let z21:=(Prod.fst (BeF.i3 M 8 1 0 0 0),z17.1,z18.1,z19.1,z20.1,z20.2);
 let z22:=Prod.snd (BeF.i3 M 6 5 9 1 0);
 let z23:=z22.2;
 let z24:=z23.2;
 let z25:=z24.2;
 let z26:=(Prod.fst (BeF.i3 M 6 5 9 1 0),z22.1,z23.1,z24.1,z25.1,z25.2);
 let z27:=L.ar .sub .i64 15 3;
 let z28:=Prod.snd (BeF.izero M 5 z27);
 let z29:=z28.2;
 let z30:=z29.2;
 let z31:=z30.2;
 let z32:=(Prod.fst (BeF.izero M 5 z27),z28.1,z29.1,z30.1,z31.1,z31.2);
 let z33:=Prod.snd (BeF.i3 M 8 2 0 0 1);
 let z34:=z33.2;
 let z35:=z34.2;
 let z36:=z35.2;
 let z37:=(Prod.fst (BeF.i3 M 8 2 0 0 1),z33.1,z34.1,z35.1,z36.1,z36.2);
 let z38:=L.ar .mul .i64 2 i;
 let z39:=L.ar .add .i64 z38 2;
 let z40:=Prod.snd (BeF.i3 M 9 2 0 0 z39);
 let z41:=z40.2;
 let z42:=z41.2;
 let z43:=z42.2;
 let z44:=(Prod.fst (BeF.i3 M 9 2 0 0 z39),z40.1,z41.1,z42.1,z43.1,z43.2);
 let z45:=Prod.snd (BeF.iswR M 2 8 1);
 let z46:=z45.2;
 let z47:=z46.2;
 let z48:=z47.2;
 let z49:=(Prod.fst (BeF.iswR M 2 8 1),z45.1,z46.1,z47.1,z48.1,z48.2);
 let z50:=Prod.snd (BeF.izero M 5 5);
 let z51:=z50.2;
 let z52:=z51.2;
 let z53:=z52.2;
 let z54:=(Prod.fst (BeF.izero M 5 5),z50.1,z51.1,z52.1,z53.1,z53.2);
 let z55:=(L.take In [z10,z16,z21,z26,z32,z37,z44,z49,z54] 9);
 let z56:=L.llen In z55;
 let z57:=L.ar .add .i64 z38 3;
 let z58:=Prod.snd (BeF.i3 M 12 0 0 0 z57);
 let z59:=z58.2;
 let z60:=z59.2;
 let z61:=z60.2;
 let z62:=Prod.snd (BeF.i3 M 9 0 0 0 z57);
 let z63:=z62.2;
 let z64:=z63.2;
 let z65:=z64.2;
 let z66:=Prod.snd (BeF.ijmp M 2);
 let z67:=z66.2;
 let z68:=z67.2;
 let z69:=z68.2;
 let z70:=Prod.snd (BeF.i3 M 15 1 0 0 0);
 let z71:=z70.2;
 let z72:=z71.2;
 let z73:=z72.2;
 let z74:=(L.take In [(Prod.fst (BeF.i3 M 12 0 0 0 z57),z58.1,z59.1,z60.1,z61.1,z61.2),(Prod.fst (BeF.i3 M 9 0 0 0 z57),z62.1,
  Prod.fst z63,z64.1,z65.1,z65.2),(Prod.fst (BeF.ijmp M 2),z66.1,z67.1,z68.1,z69.1,z69.2),(Prod.fst (BeF.i3 M 15 1
  0 0 0),z70.1,z71.1,z72.1,z73.1,z73.2)] 4);
 let z75:=L.llen In z74;
 let z76:=L.add z56 z75;
 let z77:=(L.take In [z21,z26,z32] 3);
 let z78:=L.add z56 (L.llen In z77);
 let z79:=L.take In (L.app In z55 z77) z78;
 let z80:=L.add (L.llen In z79) z75;
 let z81:=L.ar .sub .i64 15 0;
 let z82:=Prod.snd (BeF.izero M 5 z81);
 let z83:=z82.2;
 let z84:=z83.2;
 let z85:=z84.2;
 let z86:=(Prod.fst (BeF.izero M 5 z81),z82.1,z83.1,z84.1,z85.1,z85.2);
 let z87:=(L.take In [z10,z16,z21,z26,z86,z37,z44,z49,z54] 9);
 let z88:=L.llen In z87;
 let z89:=L.add z88 z75;
 let z90:=(L.take In [z21,z26,z86] 3);
 let z91:=L.add z88 (L.llen In z90);
 let z92:=L.take In (L.app In z87 z90) z91;
 let z93:=L.add (L.llen In z92) z75; .br z2 (.obl True (.obl z4 (.obl True (.obl True (.obl True (.obl True (.obl True (.obl True (.obl True (.obl True
  (.br z2 (.obl True (.obl True (.obl True (.obl True (.obl (L.room z76 48) (.ok ((L.take In (L.app In z55 z74) z76,()) = (BeF.wtr M b i,())))))))) (.obl
  True (.obl True (.obl True (.obl (L.room z78 48) (.obl True (.obl True (.obl True (.obl True (.obl (L.room z80 48) (.ok ((L.take In (L.app In z79
  z74) z80,()) = (BeF.wtr M b i,()))))))))))))))))))))))) (.obl True (.obl z4 (.obl True (.obl True (.obl True (.obl True (.obl True (.obl True (.obl True
  (.obl True (.br z2 (.obl True (.obl True (.obl True (.obl True (.obl (L.room z89 48) (.ok ((L.take In (L.app In z87 z74) z89,()) = (BeF.wtr M b i,
  ())))))))) (.obl True (.obl True (.obl True (.obl (L.room z91 48) (.obl True (.obl True (.obl True (.obl True (.obl (L.room z93 48) (.ok ((L.take In
  (L.app In z92 z74) z93,()) = (BeF.wtr M b i,())))))))))))))))))))))))
theorem nb38_go (L:Lv) (F:BxF) (M:BeF) (b:BlD) (i:Int) (h:VC.holds (nb38 L F M b i)):Holds (vcE L F M [] [89,90,91,92] 3 (Db38 a0) (Sb38 M) (b,i,())):=Holds.of_eq (by kernel_rfl) h
def nb39 (L:Lv) (F:BxF) (M:BeF) (I:Ds [.sl In,It]→Prop) (mu:Ds [.sl In,It]→Nat) (b:BlD) (i:Int)  : VC :=
 let z1:=b.1;
 let z2:=b.2.1;
 let z3:=b.2.2;
 let z4:=z3.1;
 let z5:=z3.2;
 let z6:=z5.1;
 let z7:=z5.2;
 let z8:=Prod.snd (BeF.i3 M 1 7 0 0 1);
 let z9:=z8.2;
 let z10:=z9.2;
 let z11:=z10.2;
 let z12:=(Prod.fst (BeF.i3 M 1 7 0 0 1),z8.1,z9.1,z10.1,z11.1,z11.2);
 let z13:=Int × Int × Int × Int × Int × Int;
 let z14:=L.inR i (L.llen (Ty.sl It) z7);
 let z15:=L.get (Ty.sl It) z7 (L.toN i);
 let z16:=L.llen It z15;
 let z17:=Prod.snd (BeF.i3 M 8 1 0 0 0);
 let z18:=z17.2;
 let z19:=z18.2;
 let z20:=z19.2;
 let z21:=(Prod.fst (BeF.i3 M 8 1 0 0 0),z17.1,z18.1,z19.1,z20.1,z20.2);
 let z22:=Prod.snd (BeF.i3 M 6 5 3 1 0);
 let z23:=z22.2;
 let z24:=z23.2;
 let z25:=z24.2;
 let z26:=(Prod.fst (BeF.i3 M 6 5 3 1 0),z22.1,z23.1,z24.1,z25.1,z25.2);
 let z27:=Prod.snd (BeF.iswR M 1 3 0);
 let z28:=z27.2;
 let z29:=z28.2;
 let z30:=z29.2;
 let z31:=(Prod.fst (BeF.iswR M 1 3 0),z27.1,z28.1,z29.1,z30.1,z30.2);
 let z32:=Prod.snd (BeF.i3 M 8 2 0 0 1);
 let z33:=z32.2;
 let z34:=z33.2;
 let z35:=z34.2;
 let z36:=(Prod.fst (BeF.i3 M 8 2 0 0 1),z32.1,z33.1,z34.1,z35.1,z35.2);
 let z37:=Prod.snd (BeF.iswR M 2 0 1);
 let z38:=z37.2;
 let z39:=z38.2;
 let z40:=z39.2;
 let z41:=(Prod.fst (BeF.iswR M 2 0 1),z37.1,z38.1,z39.1,z40.1,z40.2);
 let z42:=Prod.snd (BeF.i3 M 2 4 2 2 0);
 let z43:=z42.2;
 let z44:=z43.2;
 let z45:=z44.2;
 let z46:=(Prod.fst (BeF.i3 M 2 4 2 2 0),z42.1,z43.1,z44.1,z45.1,z45.2);
 let z47:=Prod.snd (BeF.i3 M 8 6 4 0 0);
 let z48:=z47.2;
 let z49:=z48.2;
 let z50:=z49.2;
 let z51:=(Prod.fst (BeF.i3 M 8 6 4 0 0),z47.1,z48.1,z49.1,z50.1,z50.2);
 let z52:=Prod.snd (BeF.i3 M 9 7 4 0 1);
 let z53:=z52.2;
 let z54:=z53.2;
 let z55:=z54.2;
 let z56:=(Prod.fst (BeF.i3 M 9 7 4 0 1),z52.1,z53.1,z54.1,z55.1,z55.2);
 let z57:=Prod.snd (BeF.i3 M 2 2 6 0 0);
 let z58:=z57.2;
 let z59:=z58.2;
 let z60:=z59.2;
 let z61:=(Prod.fst (BeF.i3 M 2 2 6 0 0),z57.1,z58.1,z59.1,z60.1,z60.2); .obl True (.obl (St.mk 65 [(1,V.c (C.int .i64 i)),(2,
  V.c (C.ptr 1 0)),(5,V.c (C.own 3 1)),(6,V.c (C.int .i64 0))] [(0,Ob.amb),(1,Ob.box 28 [C.int .i64 z1,C.int .i64 z2,C.sym z4,C.sl It z6,C.sl (Ty.sl
  It) z7]),(3,Ob.row 140 In [z12])] 4 = St.mk 65 [(1,V.c (C.int .i64 i)),(2,V.c (C.ptr 1 0)),(5,V.c (C.own 3 (L.llen In [z12]))),(6,V.c (C.int .i64 0))]
  [(0,Ob.amb),(1,Ob.box 28 [C.int .i64 z1,C.int .i64 z2,C.sym z4,C.sl It z6,C.sl (Ty.sl It) z7]),(3,Ob.row 140 In [z12])] 4) (.obl (I ([z12],0,()))
  (.all (List z13 × Int × Unit) fun (v1:List (Int × Int × Int × Int × Int × Int) × Int × Unit) =>
 let z62:=v1.2.1;
 let z63:=v1.1;
 let z64:=L.llen In z63;
 let z65:=L.take In z63 z64;
 let z66:=L.get It z15 (L.toN z62);
 let z67:=Prod.snd (BeF.i3 M 1 3 0 0 z66);
 let z68:=z67.2;
 let z69:=z68.2;
 let z70:=z69.2;
 let z71:=L.cast z64;
 let z72:=L.ar .add .i64 z71 17;
 let z73:=Prod.snd (BeF.izero M 5 z72);
 let z74:=z73.2;
 let z75:=z74.2;
 let z76:=z75.2;
 let z77:=L.ar .add .i64 z71 1;
 let z78:=Prod.snd (BeF.izero M 5 z77);
 let z79:=z78.2;
 let z80:=z79.2;
 let z81:=z80.2;
 let z82:=Prod.snd (BeF.izero M 2 z72);
 let z83:=z82.2;
 let z84:=z83.2;
 let z85:=z84.2;
 let z86:=(Prod.fst (BeF.izero M 2 z72),z82.1,z83.1,z84.1,z85.1,z85.2);
 let z87:=L.ar .add .i64 z71 6;
 let z88:=Prod.snd (BeF.izero M 5 z87);
 let z89:=z88.2;
 let z90:=z89.2;
 let z91:=z90.2;
 let z92:=L.ar .add .i64 z71 11;
 let z93:=Prod.snd (BeF.ijmp M z92);
 let z94:=z93.2;
 let z95:=z94.2;
 let z96:=z95.2;
 let z97:=(L.take In [(Prod.fst (BeF.i3 M 1 3 0 0 z66),z67.1,z68.1,z69.1,z70.1,z70.2),z21,z26,(Prod.fst (BeF.izero M 5 z72),Prod.fst
  z73,z74.1,z75.1,z76.1,z76.2),z31,(Prod.fst (BeF.izero M 5 z77),z78.1,z79.1,z80.1,z81.1,z81.2),z36,z86,
  z41,(Prod.fst (BeF.izero M 5 z87),z88.1,z89.1,z90.1,z91.1,z91.2),z86,z46,z51,z56,z61,z86,(Prod.fst (BeF.ijmp M z92),z93.1,
  Prod.fst z94,z95.1,z96.1,z96.2)] 17);
 let z98:=L.add (L.llen In z65) (L.llen In z97);
 let z99:=L.ar .add .i64 z62 1;
 let z100:=L.app In z65 z97;
 let z101:=(L.app In z65 z97,L.ar .add .i64 z62 1,()); .imp (I v1) (.obl z14 (.br (L.cmp .lss z62 (L.cast z16)) (.obl z14 (.obl (L.inR
  z62 z16) (.obl True (.obl True (.obl True (.obl True (.obl True (.obl True (.obl True (.obl True (.obl True (.obl True (.obl True (.obl True (.obl True
  (.obl True (.obl True (.obl True (.obl True (.obl (L.room z98 48) (.ok (St.mk 65 [(1,V.c (C.int .i64 i)),(2,V.c (C.ptr 1 0)),(5,V.c (C.own 3 z98)),(6,
  V.c (C.int .i64 z99))] [(0,Ob.amb),(1,Ob.box 28 [C.int .i64 z1,C.int .i64 z2,C.sym z4,C.sl It z6,C.sl (Ty.sl It) z7]),(3,Ob.row 140 In z100)] 4 =
  St.mk 65 [(1,V.c (C.int .i64 i)),(2,V.c (C.ptr 1 0)),(5,V.c (C.own 3 (L.llen In z100))),(6,V.c (C.int .i64 z99))] [(0,Ob.amb),(1,Ob.box 28 [C.int
  .i64 z1,C.int .i64 z2,C.sym z4,C.sl It z6,C.sl (Ty.sl It) z7]),(3,Ob.row 140 In z100)] 4∧I z101∧mu z101 < mu v1)))))))))))))))))))))) (.ok ((L.take
  In z63 z64,()) = (BeF.wrt M b i,()))))))))
theorem nb39_go (L:Lv) (F:BxF) (M:BeF) (I:Ds [.sl In,It]→Prop) (mu:Ds [.sl In,It]→Nat) (b:BlD) (i:Int) (h:VC.holds (nb39 L F M I mu b i)):Holds (vcE L F M [] [89,90,91,92] 3 (Db39 (ab39 L I mu)) (Sb39 M) (b,i,())):=Holds.of_eq (by kernel_rfl) h
theorem okb89 (F:BxF) (M:BeF) (h:M.i3 = fun o a b c n=>(o,a,b,c,0,n)):SpecOk prog 89 (Sb89 M):=by
 refine Zc hm hE Db89 fnokb89 _ fun (z:Int × Int × Int × Int × Int × Unit) hpre=>?_
 obtain ⟨o,a,b,c,n,⟨⟩⟩:=z
 refine Yq _ 3 a0 (Zn (T:=tabO [] (eT F M)) (l:=[]) Z2) ?_
 refine nb89_go Lv.std F M o a b c n ?_
 simp only [nb89,VC.holds,ZJ,ZO,Zb,Zh,Zp,Yj,Ym,Z6,ZM,Yl,Yk,Yf,ZX,ZY,ZT,ZR,Ye,ZN,ZB,ZD,Zm,Z1,ZS,Z5,ZK,ZW,Yb,ZV,ZP,ZQ,Zo,ZH,Ya,Z3,ZI,Yd,Yc,Z4,Z7,Zg,ZC,ZL,ZU,Z8,Z9,Zd,Ze,Zz,ZA,Zu,Zv,Zw,Zx,Zj,Zk,Zs,Zt,Zi,Zl,Zq,Zr,ZG,ZF,ZZ,Yg,ZE,h]
theorem okb90 (F:BxF) (M:BeF) (h:M.izero = fun a n=>(14,a,0,0,0,n)) (h1:M.i3 = fun o a b c n=>(o,a,b,c,0,n)) (k1:SpecOk prog 89 (Sb89 M)):SpecOk prog 90 (Sb90 M):=by
 refine Zc hm hE Db90 fnokb90 _ fun (z:Int × Int × Unit) hpre=>?_
 obtain ⟨a,b,⟨⟩⟩:=z
 refine Yq _ 3 a0 (Zn (T:=tabO [] (eT F M)) (l:=[89]) (Za (Yh k1 (by kernel_rfl)) Z2)) ?_
 refine nb90_go Lv.std F M a b ?_
 simp only [nb90,VC.holds,ZJ,ZO,Zb,Zh,Zp,Yj,Ym,Z6,ZM,Yl,Yk,Yf,ZX,ZY,ZT,ZR,Ye,ZN,ZB,ZD,Zm,Z1,ZS,Z5,ZK,ZW,Yb,ZV,ZP,ZQ,Zo,ZH,Ya,Z3,ZI,Yd,Yc,Z4,Z7,Zg,ZC,ZL,ZU,Z8,Z9,Zd,Ze,Zz,ZA,Zu,Zv,Zw,Zx,Zj,Zk,Zs,Zt,Zi,Zl,Zq,Zr,ZG,ZF,ZZ,Yg,ZE,h,h1,and_true]
theorem okb91 (F:BxF) (M:BeF) (h:M.iswR = fun a b c=>(10,5,0,a,b,c)):SpecOk prog 91 (Sb91 M):=by
 refine Zc hm hE Db91 fnokb91 _ fun (z:Int × Int × Int × Unit) hpre=>?_
 obtain ⟨a,b,c,⟨⟩⟩:=z
 refine Yq _ 3 a0 (Zn (T:=tabO [] (eT F M)) (l:=[]) Z2) ?_
 refine nb91_go Lv.std F M a b c ?_
 simp only [nb91,VC.holds,ZJ,ZO,Zb,Zh,Zp,Yj,Ym,Z6,ZM,Yl,Yk,Yf,ZX,ZY,ZT,ZR,Ye,ZN,ZB,ZD,Zm,Z1,ZS,Z5,ZK,ZW,Yb,ZV,ZP,ZQ,Zo,ZH,Ya,Z3,ZI,Yd,Yc,Z4,Z7,Zg,ZC,ZL,ZU,Z8,Z9,Zd,Ze,Zz,ZA,Zu,Zv,Zw,Zx,Zj,Zk,Zs,Zt,Zi,Zl,Zq,Zr,ZG,ZF,ZZ,Yg,ZE,h]
theorem okb92 (F:BxF) (M:BeF) (h:M.ijmp = fun n=>(13,0,0,0,0,n)) (h1:M.i3 = fun o a b c n=>(o,a,b,c,0,n)) (k1:SpecOk prog 89 (Sb89 M)):SpecOk prog 92 (Sb92 M):=by
 refine Zc hm hE Db92 fnokb92 _ fun (z:Int × Unit) hpre=>?_
 obtain ⟨a,⟨⟩⟩:=z
 refine Yq _ 3 a0 (Zn (T:=tabO [] (eT F M)) (l:=[89]) (Za (Yh k1 (by kernel_rfl)) Z2)) ?_
 refine nb92_go Lv.std F M a ?_
 simp only [nb92,VC.holds,ZJ,ZO,Zb,Zh,Zp,Yj,Ym,Z6,ZM,Yl,Yk,Yf,ZX,ZY,ZT,ZR,Ye,ZN,ZB,ZD,Zm,Z1,ZS,Z5,ZK,ZW,Yb,ZV,ZP,ZQ,Zo,ZH,Ya,Z3,ZI,Yd,Yc,Z4,Z7,Zg,ZC,ZL,ZU,Z8,Z9,Zd,Ze,Zz,ZA,Zu,Zv,Zw,Zx,Zj,Zk,Zs,Zt,Zi,Zl,Zq,Zr,ZG,ZF,ZZ,Yg,ZE,h,h1,and_true]
theorem okb38 (F:BxF) (M:BeF) (h:M.wtr = wtrF) (hp:M.pWt = pWtF) (e1:M.i3 = fun o a b c n=>(o,a,b,c,0,n)) (e2:M.izero = fun a n=>(14,a,0,0,0,n)) (e3:M.iswR = fun a b c=>(10,5,0,a,b,c)) (e4:M.ijmp = fun n=>(13,0,0,0,0,n))
  (k1:SpecOk prog 89 (Sb89 M)) (k2:SpecOk prog 90 (Sb90 M)) (k3:SpecOk prog 91 (Sb91 M)) (k4:SpecOk prog 92 (Sb92 M)):SpecOk prog 38 (Sb38 M):=by
 refine Zc hm hE Db38 fnokb38 _ fun (z:BlD × Int × Unit) hpre=>?_
 obtain ⟨b,i,⟨⟩⟩:=z
 have hpre':M.pWt b i:=hpre
 rw [hp] at hpre'
 obtain ⟨⟨g1,g2,g3⟩,g4,g5⟩:=hpre'
 refine Yq _ 3 a0 (Zn (T:=tabO [] (eT F M)) (l:=[89,90,91,92]) (Za (Yh k1 (by kernel_rfl)) (Za (Yh k2 (by kernel_rfl)) (Za (Yh k3 (by kernel_rfl)) (Za (Yh k4 (by kernel_rfl)) Z2))))) ?_
 refine nb38_go Lv.std F M b i ?_
 have wi:IntKind.i64.wrap (i + 1) = i + 1:=Yn (by omega) (by omega)
 have w2:IntKind.i64.wrap (2 * i) = 2 * i:=Yn (by omega) (by omega)
 have w3:IntKind.i64.wrap (2 * i + 2) = 2 + 2 * i:=by rw [Yn (by omega) (by omega)]; omega
 have w4:IntKind.i64.wrap (2 * i + 3) = 2 + 2 * i + 1:=by rw [Yn (by omega) (by omega)]; omega
 have w5:IntKind.i64.wrap (15 - 3) = 12:=rfl
 have w6:IntKind.i64.wrap (15 - 0) = 15:=rfl
 simp only [nb38,VC.holds,ZJ,ZO,Zb,Zh,Zp,Yj,Ym,Z6,ZM,Yl,Yk,Yf,ZX,ZY,ZT,ZR,Ye,ZN,ZB,ZD,Zm,Z1,ZS,Z5,ZK,ZW,Yb,ZV,ZP,ZQ,Zo,ZH,Ya,Z3,ZI,Yd,Yc,Z4,Z7,Zg,ZC,ZL,ZU,Z8,Z9,Zd,Ze,Zz,ZA,Zu,Zv,Zw,Zx,Zj,Zk,Zs,Zt,Zi,Zl,Zq,Zr,ZG,ZF,ZZ,Yg,ZE,h,e1,e2,e3,e4,wi,w2,w3,w4,w5,w6,List.take_succ_cons,List.take_zero,List.take_nil,List.nil_append,List.cons_append,List.append_nil,List.length_cons,List.length_nil,Nat.zero_add,Nat.reduceAdd,Nat.reduceMul,Nat.reduceLeDiff,Prod.mk.injEq,and_true,true_and,wtrF]
 exact ⟨fun c=>⟨⟨g4,g5⟩,(fun _=>by rw [c]; rfl),fun d=>by rw [c] at d; cases d⟩,fun c=>⟨⟨g4,g5⟩,(fun d=>by rw [c] at d; cases d),fun _=>by rw [c]; rfl⟩⟩
theorem okb39 (F:BxF) (M:BeF) (h:M.wrt = wrtF) (hp:M.pWr = pWrF) (e1:M.i3 = fun o a b c n=>(o,a,b,c,0,n)) (e2:M.izero = fun a n=>(14,a,0,0,0,n)) (e3:M.iswR = fun a b c=>(10,5,0,a,b,c)) (e4:M.ijmp = fun n=>(13,0,0,0,0,n))
  (k1:SpecOk prog 89 (Sb89 M)) (k2:SpecOk prog 90 (Sb90 M)) (k3:SpecOk prog 91 (Sb91 M)) (k4:SpecOk prog 92 (Sb92 M)):SpecOk prog 39 (Sb39 M):=by
 refine Zc hm hE Db39 fnokb39 _ fun (z:BlD × Int × Unit) hpre=>?_
 obtain ⟨b,i,⟨⟩⟩:=z
 have hpre':M.pWr b i:=hpre
 rw [hp] at hpre'
 obtain ⟨⟨g1,g2,g3⟩,g4,g5⟩:=hpre'
 obtain ⟨k,rfl⟩:=Yp g4
 have hk:k < b.2.2.2.2.length:=by omega
 obtain ⟨row,hrow⟩:∃ r,r = (b.2.2.2.2[k]?).getD []:=⟨_,rfl⟩
 have g6:row.length≤1000:=by rw [hrow,List.getElem?_eq_getElem hk]; exact g3 _ (List.getElem_mem hk)
 let I:List InD × Int × Unit→Prop:=fun x=>(0≤x.2.1∧x.2.1≤row.length)∧x.1 = ringsF (row.take x.2.1.toNat)
 let mu:List InD × Int × Unit→Nat:=fun x=>(row.length - x.2.1).toNat
 refine Yq _ 3 (ab39 Lv.std I mu) (Zn (T:=tabO [] (eT F M)) (l:=[89,90,91,92]) (Za (Yh k1 (by kernel_rfl)) (Za (Yh k2 (by kernel_rfl)) (Za (Yh k3 (by kernel_rfl)) (Za (Yh k4 (by kernel_rfl)) Z2))))) ?_
 refine nb39_go Lv.std F M I mu b k ?_
 simp only [nb39,VC.holds,ZJ,ZO,Zb,Zh,Zp,Yj,Ym,Z6,ZM,Yl,Yk,Yf,ZX,ZY,ZT,ZR,Ye,ZN,ZB,ZD,Zm,Z1,ZS,Z5,ZK,ZW,Yb,ZV,ZP,ZQ,Zo,ZH,Ya,Z3,ZI,Yd,Yc,Z4,Z7,Zg,ZC,ZL,ZU,Z8,Z9,Zd,Ze,Zz,ZA,Zu,Zv,Zw,Zx,Zj,Zk,Zs,Zt,Zi,Zl,Zq,Zr,ZG,ZF,ZZ,Yg,ZE,h,tkI,e1,e2,e3,e4,Int.toNat_natCast,← hrow,List.take_succ_cons,List.take_zero,List.take_nil,List.take_length,List.nil_append,List.cons_append,List.append_nil,List.length_cons,List.length_nil,Nat.zero_add,Nat.reduceAdd,Nat.reduceMul,Nat.reduceLeDiff,Prod.mk.injEq,and_true,true_and]
 refine ⟨⟨⟨Int.le_refl 0,by show (0:Int)≤row.length; omega⟩,rfl⟩,?_⟩
 rintro ⟨l,x,⟨⟩⟩ ⟨⟨i1,i2⟩,i3⟩
 simp only at i1 i2 i3 ⊢
 obtain ⟨j,rfl⟩:=Yp i1
 rw [Int.toNat_natCast] at i3 ⊢
 have hl:l.length = 1 + 17 * j:=by rw [i3,rings_len,List.length_take]; omega
 have wl:∀ n:Int,0≤n→n≤100→IntKind.i64.wrap ((l.length:Int) + n) = (l.length:Int) + n:=fun n h0 h1=>Yn (by omega) (by omega)
 rw [wl 17 (by omega) (by omega),wl 1 (by omega) (by omega),wl 6 (by omega) (by omega),wl 11 (by omega) (by omega)]
 refine ⟨⟨g4,by omega⟩,fun hlt=>?_,fun hge=>?_⟩
 ·have hj:j < row.length:=by omega
  rw [wr hlt (by omega)]
  refine ⟨⟨g4,by omega⟩,⟨by omega,hlt⟩,⟨by omega,by omega⟩,?_,⟨⟨by show (0:Int)≤((j + 1:Nat):Int); omega,by show ((j + 1:Nat):Int)≤row.length; omega⟩,?_⟩,by show ((row.length:Int) - ((j + 1:Nat):Int)).toNat < ((row.length:Int) - j).toNat; omega⟩
  ·simp only [List.length_append,List.length_cons,List.length_nil]
  ·show _ = ringsF (row.take ((j + 1:Nat):Int).toNat)
   rw [Int.toNat_natCast,rings_take row j hj,← i3]
   rfl
 ·rw [i3,List.take_of_length_le (by omega),hrow]
  unfold wrtF
  rw [Int.toNat_natCast]
end Go.Proofs.Tryz
namespace Go.Proofs.Tryz
open Go Go.VM
def ab29 (L:Lv) (I:Ds [.sl (.sl It),It]→Prop) (mu:Ds [.sl (.sl It),It]→Nat) (I2:Ds [.sl It,It]→Prop) (m2:Ds [.sl It,It]→Nat):Nat→LAnn
 | 0=>anH L [2,3,4,5,6] [(5,some 1,22,.sl It)] [.br 5 1 (.sl It),.s 6 It] I mu
 | 2=>anH L [2,3,4,5,7] [(5,some 2,3,It)] [.br 5 2 It,.s 7 It] I2 m2
 | _=>.no
def nb29 (L:Lv) (F:BxF) (M:BeF) (I:Ds [.sl (.sl It),It]→Prop) (mu:Ds [.sl (.sl It),It]→Nat) (I2:Ds [.sl It,It]→Prop) (m2:Ds [.sl It,It]→Nat) (b:BlD) (s:StD)  : VC :=
 let z1:=s.1;
 let z2:=L.llen It z1;
 let z3:=b.1;
 let z4:=b.2.1;
 let z5:=b.2.2;
 let z6:=z5.1;
 let z7:=z5.2;
 let z8:=z7.1;
 let z9:=z7.2;
 let z10:=s.2;
 let z11:=L.toN 0;
 let z12:=L.get It z1 z11;
 let z13:=L.cast (L.llen It z8);
 let z14:=L.take It [] 0;
 let z15:=L.llen It z14;
 let z16:=L.get It z1 (L.toN 1); .obl (L.inR 0 z2) (.obl (St.mk 65 [(2,V.c (C.ptr 1 0)),(3,V.c (C.ptr 2 0)),(4,V.c (C.ptr 3 0)),(5,V.c (C.ptr 4 0)),(6,V.c
  (C.int .i64 0))] [(0,Ob.amb),(1,Ob.box 28 [C.int .i64 z3,C.int .i64 z4,C.sym z6,C.sl It z8,C.sl (Ty.sl It) z9]),(2,Ob.box 45 [C.sl It z1,C.sl Th
  z10]),(3,Ob.box 31 [C.int .i64 0,C.nils,C.nils]),(4,Ob.box 31 [C.int .i64 z12,C.own 6 0,C.nils]),(6,Ob.row 22 (Ty.sl It) [])] 7 = St.mk 65 [(2,V.c (C.ptr
  1 0)),(3,V.c (C.ptr 2 0)),(4,V.c (C.ptr 3 0)),(5,V.c (C.ptr 4 0)),(6,V.c (C.int .i64 0))] [(0,Ob.amb),(1,Ob.box 28 [C.int .i64 z3,C.int .i64 z4,
  C.sym z6,C.sl It z8,C.sl (Ty.sl It) z9]),(2,Ob.box 45 [C.sl It z1,C.sl Th z10]),(3,Ob.box 31 [C.int .i64 0,C.nils,C.nils]),(4,Ob.box 31 [C.int .i64 z12,
  C.own 6 (L.llen (Ty.sl It) []),C.nils]),(6,Ob.row 22 (Ty.sl It) [])] 7) (.obl (I ([],0,())) (.all (List (List Int) × Int × Unit) fun (v1:List (List Int) × Int ×
  Unit) =>
 let z17:=v1.2.1;
 let z18:=Prod.fst (Prod.snd (Prod.snd (Prod.snd (L.get Th z10 (L.toN z17)))));
 let z19:=L.add z15 (L.llen It z18);
 let z20:=v1.1;
 let z21:=L.llen (Ty.sl It) z20;
 let z22:=L.take (Ty.sl It) z20 z21;
 let z23:=L.take (Ty.sl It) [L.take It (L.app It z14 z18) z19] 1;
 let z24:=L.add (L.llen (Ty.sl It) z22) (L.llen (Ty.sl It) z23);
 let z25:=L.ar .add .i64 z17 1;
 let z26:=L.app (Ty.sl It) z22 z23;
 let z27:=(L.app (Ty.sl It) z22 z23,L.ar .add .i64 z17 1,()); .imp (I v1) (.br (L.cmp .lss z17 z13) (.obl (L.inR z17 (L.llen Th z10))
  (.obl (L.room z19 8) (.obl (L.room z24 24) (.ok (St.mk 65 [(2,V.c (C.ptr 1 0)),(3,V.c (C.ptr 2 0)),(4,V.c (C.ptr 3 0)),(5,V.c (C.ptr 4 0)),(6,V.c (C.int
  .i64 z25))] [(0,Ob.amb),(1,Ob.box 28 [C.int .i64 z3,C.int .i64 z4,C.sym z6,C.sl It z8,C.sl (Ty.sl It) z9]),(2,Ob.box 45 [C.sl It z1,C.sl Th z10]),
  (3,Ob.box 31 [C.int .i64 0,C.nils,C.nils]),(4,Ob.box 31 [C.int .i64 z12,C.own 6 z24,C.nils]),(6,Ob.row 22 (Ty.sl It) z26)] 7 = St.mk 65 [(2,V.c (C.ptr 1
  0)),(3,V.c (C.ptr 2 0)),(4,V.c (C.ptr 3 0)),(5,V.c (C.ptr 4 0)),(6,V.c (C.int .i64 z25))] [(0,Ob.amb),(1,Ob.box 28 [C.int .i64 z3,C.int .i64 z4,
  C.sym z6,C.sl It z8,C.sl (Ty.sl It) z9]),(2,Ob.box 45 [C.sl It z1,C.sl Th z10]),(3,Ob.box 31 [C.int .i64 0,C.nils,C.nils]),(4,Ob.box 31 [C.int .i64 z12,
  C.own 6 (L.llen (Ty.sl It) z26),C.nils]),(6,Ob.row 22 (Ty.sl It) z26)] 7∧I z27∧mu z27 < mu v1))))) (.obl (L.inR 1 z2) (.obl (St.mk 65 [(2,V.c (C.ptr 1 0)),(3,
  V.c (C.ptr 2 0)),(4,V.c (C.ptr 3 0)),(5,V.c (C.ptr 4 0)),(7,V.c (C.int .i64 z16))] [(0,Ob.amb),(1,Ob.box 28 [C.int .i64 z3,C.int .i64 z4,C.sym z6,
  C.sl It z8,C.sl (Ty.sl It) z9]),(2,Ob.box 45 [C.sl It z1,C.sl Th z10]),(3,Ob.box 31 [C.int .i64 0,C.nils,C.nils]),(4,Ob.box 31 [C.int .i64 z12,C.own 6
  z21,C.own 8 0]),(6,Ob.row 22 (Ty.sl It) z20),(8,Ob.row 3 It [])] 9 = St.mk 65 [(2,V.c (C.ptr 1 0)),(3,V.c (C.ptr 2 0)),(4,V.c (C.ptr 3 0)),(5,V.c (C.ptr 4 0)),(7,
  V.c (C.int .i64 z16))] [(0,Ob.amb),(1,Ob.box 28 [C.int .i64 z3,C.int .i64 z4,C.sym z6,C.sl It z8,C.sl (Ty.sl It) z9]),(2,Ob.box 45 [C.sl It z1,C.sl
  Th z10]),(3,Ob.box 31 [C.int .i64 0,C.nils,C.nils]),(4,Ob.box 31 [C.int .i64 z12,C.own 6 z21,C.own 8 (L.llen It [])]),(6,Ob.row 22 (Ty.sl It) z20),(8,
  Ob.row 3 It [])] 9) (.obl (I2 ([],L.get It z1 (L.toN 1),())) (.all (List Int × Int × Unit) fun (v2:List Int × Int × Unit) =>
 let z28:=v2.2.1;
 let z29:=v2.1;
 let z30:=L.llen It z29;
 let z31:=L.take It z29 z30;
 let z32:=L.take It [L.ar .sub .i64 z28 1] 1;
 let z33:=L.add (L.llen It z31) (L.llen It z32);
 let z34:=L.ar .mul .i64 2 z28;
 let z35:=L.toN z34;
 let z36:=L.get It z1 z35;
 let z37:=L.app It z31 z32;
 let z38:=(L.app It z31 z32,L.get It z1 z35,());
 let z39:=(L.get It z1 z11,L.take (Ty.sl It) z20 z21,L.take It z29 z30); .imp (I2 v2) (.obl True (.br (BxF.within F z28 1 z13) (.br (L.cmp .lss (Lv.cast
  L z30) z13) (.obl (L.room z33 8) (.obl (L.inR z34 z2) (.ok (St.mk 65 [(2,V.c (C.ptr 1 0)),(3,V.c (C.ptr 2 0)),(4,V.c (C.ptr 3 0)),(5,V.c (C.ptr 4 0)),(7,V.c
  (C.int .i64 z36))] [(0,Ob.amb),(1,Ob.box 28 [C.int .i64 z3,C.int .i64 z4,C.sym z6,C.sl It z8,C.sl (Ty.sl It) z9]),(2,Ob.box 45 [C.sl It z1,C.sl Th
  z10]),(3,Ob.box 31 [C.int .i64 0,C.nils,C.nils]),(4,Ob.box 31 [C.int .i64 z12,C.own 6 z21,C.own 8 z33]),(6,Ob.row 22 (Ty.sl It) z20),(8,Ob.row 3 It
  z37)] 9 = St.mk 65 [(2,V.c (C.ptr 1 0)),(3,V.c (C.ptr 2 0)),(4,V.c (C.ptr 3 0)),(5,V.c (C.ptr 4 0)),(7,V.c (C.int .i64 z36))] [(0,Ob.amb),(1,Ob.box 28 [C.int
  .i64 z3,C.int .i64 z4,C.sym z6,C.sl It z8,C.sl (Ty.sl It) z9]),(2,Ob.box 45 [C.sl It z1,C.sl Th z10]),(3,Ob.box 31 [C.int .i64 0,C.nils,C.nils]),
  (4,Ob.box 31 [C.int .i64 z12,C.own 6 z21,C.own 8 (L.llen It z37)]),(6,Ob.row 22 (Ty.sl It) z20),(8,Ob.row 3 It z37)] 9∧I2 z38∧m2 z38 < m2 v2)))) (.ok
  ((z39,()) = (BeF.viewR M b s,())))) (.ok ((z39,()) = (BeF.viewR M b s,())))))))))))))
theorem nb29_go (L:Lv) (F:BxF) (M:BeF) (I:Ds [.sl (.sl It),It]→Prop) (mu:Ds [.sl (.sl It),It]→Nat) (I2:Ds [.sl It,It]→Prop) (m2:Ds [.sl It,It]→Nat) (b:BlD) (s:StD) (h:VC.holds (nb29 L F M I mu I2 m2 b s)):Holds (vcE L F M [(37,.spec (S86 F))] [37] 3 (Db29 (ab29 L I mu I2 m2)) (Sb29 M) (b,s,())):=Holds.of_eq (by kernel_rfl) h
theorem okb29 (F:BxF) (M:BeF) (h:M.viewR = fun b s=>viewF b s.1 (toldF s)) (q:M.pVR = fun b s=>pVF b s.1 (toldF s)∧bS s) (h1:F.within = withinF) (k1:SpecOk prog 37 (S86 F)):SpecOk prog 29 (Sb29 M):=by
 refine Zc hm hE Db29 fnokb29 _ fun (z:BlD × StD × Unit) hpre=>?_
 obtain ⟨b,s,⟨⟩⟩:=z
 have hpre':M.pVR b s:=hpre
 rw [q] at hpre'
 obtain ⟨⟨⟨⟨g1,g2,g3⟩,g4⟩,g5,g6⟩,g7⟩:=hpre'
 let f:Nat→List Int:=fun i=>((toldF s)[i]?).getD []
 let I:List (List Int) × Int × Unit→Prop:=fun x=>(0≤x.2.1∧x.2.1≤b.2.2.2.1.length)∧x.1 = (List.range x.2.1.toNat).map f
 let mu:List (List Int) × Int × Unit→Nat:=fun x=>(b.2.2.2.1.length - x.2.1).toNat
 let I2:List Int × Int × Unit→Prop:=fun x=>x.1.length≤b.2.2.2.1.length∧(lstF b s.1).map Prod.fst = x.1 ++ (lstN b.2.2.2.1.length s.1 (b.2.2.2.1.length - x.1.length) x.2.1).map Prod.fst
 let m2:List Int × Int × Unit→Nat:=fun x=>b.2.2.2.1.length - x.1.length
 refine Yq _ 3 (ab29 Lv.std I mu I2 m2) (Zn (T:=tabO [(37,.spec (S86 F))] (eT F M)) (l:=[37]) (Za (Yh k1 (by kernel_rfl)) Z2)) ?_
 refine nb29_go Lv.std F M I mu I2 m2 b s ?_
 simp only [nb29,VC.holds,ZJ,ZO,Zb,Zh,Zp,Yj,Ym,Z6,ZM,Yl,Yk,Yf,ZX,ZY,ZT,ZR,Ye,ZN,ZB,ZD,Zm,Z1,ZS,Z5,ZK,ZW,Yb,ZV,ZP,ZQ,Zo,ZH,Ya,Z3,ZI,Yd,Yc,Z4,Z7,Zg,ZC,ZL,ZU,Z8,Z9,Zd,Ze,Zz,ZA,Zu,Zv,Zw,Zx,Zj,Zk,Zs,Zt,Zi,Zl,Zq,Zr,ZG,ZF,ZZ,Yg,ZE,h,h1,pe5,List.take_length,List.take_succ_cons,List.take_zero,List.take_nil,List.nil_append,List.length_append,List.length_cons,List.length_nil,Nat.zero_add,Prod.mk.injEq,and_true,true_and]
 have tl:(toldF s).length = s.2.length:=by unfold toldF; rw [List.length_map]
 have te:∀ j:Nat,j < s.2.length→((s.2[j]?).getD (0,[],[],[],false)).2.2.2.1 = f j:=fun j hj=>by
  show _ = ((s.2.map fun t=>t.2.2.2.1)[j]?).getD []
  rw [List.getElem?_map,List.getElem?_eq_getElem hj]; rfl
 refine ⟨⟨Int.le_refl 0,by omega⟩,⟨⟨Int.le_refl 0,by show (0:Int)≤b.2.2.2.1.length; omega⟩,rfl⟩,?_⟩
 rintro ⟨l,x,⟨⟩⟩ ⟨⟨i1,i2⟩,i3⟩
 simp only at i1 i2 i3 ⊢
 obtain ⟨j,rfl⟩:=Yp i1
 rw [Int.toNat_natCast] at i3 ⊢
 have hl:l.length = j:=by rw [i3,List.length_map,List.length_range]
 refine ⟨fun hlt=>?_,fun hge=>⟨⟨by omega,by omega⟩,⟨Nat.zero_le _,?_⟩,?_⟩⟩
 ·have hj:j < s.2.length:=by omega
  have b1:(f j).length≤1000000:=by
   show (((toldF s)[j]?).getD []).length≤_
   rw [List.getElem?_eq_getElem (by omega)]; exact g6 _ (List.getElem_mem _)
  rw [te j hj,wr hlt (by omega)]
  refine ⟨⟨by omega,by omega⟩,⟨by omega,by omega⟩,⟨by omega,by omega⟩,⟨⟨by show (0:Int)≤((j + 1:Nat):Int); omega,by show ((j + 1:Nat):Int)≤b.2.2.2.1.length; omega⟩,?_⟩,by show ((b.2.2.2.1.length:Int) - ((j + 1:Nat):Int)).toNat < ((b.2.2.2.1.length:Int) - j).toNat; omega⟩
  show l ++ [f j] = (List.range ((j + 1:Nat):Int).toNat).map f
  rw [Int.toNat_natCast,range_map,i3]
 ·show (lstF b s.1).map Prod.fst = [] ++ (lstN _ s.1 (b.2.2.2.1.length - 0) _).map Prod.fst
  rfl
 ·rintro ⟨r,n,⟨⟩⟩ ⟨j1,j2⟩
  simp only at j1 j2 ⊢
  have fin:lstN b.2.2.2.1.length s.1 (b.2.2.2.1.length - r.length) n = []→(s.1[Int.toNat 0]?.getD 0,l,r) = viewF b s.1 (toldF s):=fun he=>by
   rw [he,List.map_nil,List.append_nil] at j2
   rw [← j2,i3,show j = b.2.2.2.1.length by omega]
   rfl
  refine ⟨fun hw=>⟨fun hlt=>?_,fun hge2=>?_⟩,fun hw=>?_⟩
  ·unfold withinF at hw
   simp only [Bool.and_eq_true,decide_eq_true_eq] at hw
   have w1:IntKind.i64.wrap (2 * n) = 2 * n:=Yn (by omega) (by omega)
   have w2:IntKind.i64.wrap (n - 1) = n - 1:=Yn (by omega) (by omega)
   rw [w1,w2]
   obtain ⟨k,hk⟩:∃ k,b.2.2.2.1.length - r.length = k + 1:=⟨b.2.2.2.1.length - r.length - 1,by omega⟩
   refine ⟨⟨by omega,by omega⟩,⟨by omega,by omega⟩,⟨by show (r ++ [n - 1]).length≤_; rw [List.length_append]; show r.length + 1≤_; omega,?_⟩,by show _ - (r ++ [n - 1]).length < _ - r.length; rw [List.length_append]; show _ - (r.length + 1) < _; omega⟩
   show (lstF b s.1).map Prod.fst = (r ++ [n - 1]) ++ (lstN _ s.1 (b.2.2.2.1.length - (r ++ [n - 1]).length) ((s.1[(2 * n).toNat]?).getD 0)).map Prod.fst
   rw [j2,hk,lstN,if_neg (by omega),List.length_append,show b.2.2.2.1.length - (r.length + [n - 1].length) = k by show _ - (r.length + 1) = k; omega,List.append_assoc,show 2 + 2 * (n - 1) = 2 * n by omega]
   rfl
  ·refine fin ?_
   rw [show b.2.2.2.1.length - r.length = 0 by omega,lstN]
  ·refine fin ?_
   unfold withinF at hw
   simp only [Bool.and_eq_false_iff,decide_eq_false_iff_not] at hw
   cases b.2.2.2.1.length - r.length with
   | zero=>rw [lstN]
   | succ k=>rw [lstN,if_pos (by omega)]
end Go.Proofs.Tryz
namespace Go.Proofs.Tryz
open Go Go.VM
theorem chk_ok {b:BlD} (h:chkB b = 0):((b.2.2.2.1.length + b.2.2.2.2.length≤4∧0 < b.2.2.2.1.length + b.2.2.2.2.length)∧(∀ l ∈ b.2.2.2.2,l.length≤4∧∀ n ∈ l,isNumF n = true)∧(1≤b.2.1∧b.2.1≤8)∧isNumF b.1 = true∧∀ n ∈ b.2.2.2.1,isNumF n = true):=by
 unfold chkB at h
 split at h; · cases h
 rename_i h1
 split at h; · cases h
 rename_i h2
 split at h; · cases h
 rename_i h3
 split at h; · cases h
 rename_i h4
 split at h; · cases h
 rename_i h5
 simp only [not_or,Bool.not_eq_false,Int.not_lt] at h2 h3 h4
 refine ⟨⟨by omega,by omega⟩,fun l hl=>⟨?_,fun n hn=>?_⟩,⟨h3.1,h3.2.1⟩,h3.2.2.1,fun n hn=>List.all_eq_true.1 h3.2.2.2 n hn⟩
 ·have:=of_decide_eq_true (List.all_eq_true.1 h2 l hl); omega
 ·exact List.all_eq_true.1 (List.all_eq_true.1 h4 l hl) n hn
theorem ins_1 {a n:Int} {m:Int} (ha:0≤a∧a≤9) (hn:isNumF n = true):insOkF (1,a,0,0,0,n) m = true:=by
 unfold insOkF regOk
 simp [withinF_t.2 ha,hn,withinF_t.2 (show (0:Int)≤0∧(0:Int)≤9 by omega)]
theorem ins_j {a n:Int} {m:Int} (ha:0≤a∧a≤9) (hn:0≤n∧n≤m):insOkF (14,a,0,0,0,n) m = true:=by
 unfold insOkF regOk
 simp [withinF_t.2 ha,withinF_t.2 hn]
theorem ins_jump {n:Int} {m:Int} (hn:0≤n∧n≤m):insOkF (13,0,0,0,0,n) m = true:=by
 unfold insOkF regOk
 simp [withinF_t.2 hn]
theorem ins_8 {a b n:Int} {m:Int} (ha:0≤a∧a≤9) (hb:0≤b∧b≤9) (hn:0≤n∧n≤63):insOkF (8,a,b,0,0,n) m = true:=by
 unfold insOkF regOk
 simp [withinF_t.2 ha,withinF_t.2 hb,withinF_t.2 hn]
theorem ins_9 {a b n:Int} {m:Int} (ha:0≤a∧a≤9) (hb:0≤b∧b≤9) (hn:0≤n∧n≤63):insOkF (9,a,b,0,0,n) m = true:=by
 unfold insOkF regOk
 simp [withinF_t.2 ha,withinF_t.2 hb,withinF_t.2 hn]
theorem ins_12 {b n:Int} {m:Int} (hb:0≤b∧b≤9) (hn:0≤n∧n≤63):insOkF (12,0,b,0,0,n) m = true:=by
 unfold insOkF regOk
 simp [withinF_t.2 hb,withinF_t.2 hn]
theorem num_small {n:Int} (h:-1000≤n∧n≤1000):isNumF n = true:=isNum_t.2 (by omega)
theorem wtr_ok {b:BlD} (h:chkB b = 0) {i:Nat} (hi:i < b.2.2.2.1.length):(wtrF b (i:Int)).length≤200∧∀ x ∈ wtrF b (i:Int),insOkF x ((wtrF b (i:Int)).length:Int) = true:=by
 obtain ⟨⟨h1,h1'⟩,h2,h3,h4,h5⟩:=chk_ok h
 refine ⟨by have:=wtr_len b i; omega,?_⟩
 have hn:isNumF ((b.2.2.2.1[((i:Nat):Int).toNat]?).getD 0) = true:=by
  rw [Int.toNat_natCast,List.getElem?_eq_getElem hi]; exact h5 _ (List.getElem_mem hi)
 intro x hx
 cases hr:b.2.2.1 with
 | true =>
   have hl:(wtrF b (i:Int)).length = 13:=by unfold wtrF; rw [hr]; rfl
   rw [hl]
   unfold wtrF at hx
   rw [hr] at hx
   simp only [if_true,List.cons_append,List.nil_append,List.mem_cons,List.not_mem_nil,or_false] at hx
   rcases hx with rfl | rfl | rfl | rfl | rfl | rfl | rfl | rfl | rfl | rfl | rfl | rfl | rfl
   ·exact ins_1 (by omega) (num_small (by omega))
   ·exact ins_1 (by omega) hn
   ·exact ins_8 (by omega) (by omega) (by omega)
   ·decide
   ·exact ins_j (by omega) (by omega)
   ·exact ins_8 (by omega) (by omega) (by omega)
   ·exact ins_9 (by omega) (by omega) (by omega)
   ·decide
   ·exact ins_j (by omega) (by omega)
   ·exact ins_12 (by omega) (by omega)
   ·exact ins_9 (by omega) (by omega) (by omega)
   ·exact ins_jump (by omega)
   ·decide
 | false =>
   have hl:(wtrF b (i:Int)).length = 16:=by unfold wtrF; rw [hr]; rfl
   rw [hl]
   unfold wtrF at hx
   rw [hr] at hx
   simp only [if_false,Bool.false_eq_true,List.cons_append,List.nil_append,List.mem_cons,List.not_mem_nil,or_false] at hx
   rcases hx with rfl | rfl | rfl | rfl | rfl | rfl | rfl | rfl | rfl | rfl | rfl | rfl | rfl | rfl | rfl | rfl
   ·exact ins_1 (by omega) (num_small (by omega))
   ·exact ins_1 (by omega) hn
   ·exact ins_8 (by omega) (by omega) (by omega)
   ·decide
   ·exact ins_j (by omega) (by omega)
   ·exact ins_8 (by omega) (by omega) (by omega)
   ·exact ins_9 (by omega) (by omega) (by omega)
   ·decide
   ·exact ins_j (by omega) (by omega)
   ·exact ins_8 (by omega) (by omega) (by omega)
   ·decide
   ·exact ins_j (by omega) (by omega)
   ·exact ins_12 (by omega) (by omega)
   ·exact ins_9 (by omega) (by omega) (by omega)
   ·exact ins_jump (by omega)
   ·decide
theorem ring_ok {a n m:Int} (ha:0≤a∧a + 17≤m) (hn:isNumF n = true):∀ x ∈ ringF a n,insOkF x m = true:=by
 intro x hx
 unfold ringF at hx
 simp only [List.mem_cons,List.not_mem_nil,or_false] at hx
 rcases hx with rfl | rfl | rfl | rfl | rfl | rfl | rfl | rfl | rfl | rfl | rfl | rfl | rfl | rfl | rfl | rfl | rfl
 ·exact ins_1 (by omega) hn
 ·exact ins_8 (by omega) (by omega) (by omega)
 ·rfl
 ·exact ins_j (by omega) (by omega)
 ·rfl
 ·exact ins_j (by omega) (by omega)
 ·exact ins_8 (by omega) (by omega) (by omega)
 ·exact ins_j (by omega) (by omega)
 ·rfl
 ·exact ins_j (by omega) (by omega)
 ·exact ins_j (by omega) (by omega)
 ·rfl
 ·exact ins_8 (by omega) (by omega) (by omega)
 ·exact ins_9 (by omega) (by omega) (by omega)
 ·rfl
 ·exact ins_j (by omega) (by omega)
 ·exact ins_jump (by omega)
theorem rings_ok (m:Int):∀ (k:Nat) (l:List Int),k≤l.length→(∀ n ∈ l,isNumF n = true)→1 + 17 * (l.length:Int)≤m→∀ x ∈ ringsF (l.take k),insOkF x m = true
 | 0,l,_,_,_=>fun x hx=>by
   have:x = (1,7,0,0,0,1):=by simpa [ringsF] using hx
   rw [this]; exact ins_1 (by omega) isNum1
 | k + 1,l,hk,hn,hm=>fun x hx=>by
   have hk':k < l.length:=hk
   rw [rings_take l k hk'] at hx
   rcases List.mem_append.1 hx with hx | hx
   ·exact rings_ok m k l (by omega) hn hm x hx
   ·refine ring_ok ?_ ?_ x hx
    ·rw [rings_len,List.length_take]; omega
    ·rw [List.getElem?_eq_getElem hk']; exact hn _ (List.getElem_mem hk')
theorem wrt_ok {b:BlD} (h:chkB b = 0) {k:Nat} (hk:k < b.2.2.2.2.length):(wrtF b (k:Int)).length≤200∧∀ x ∈ wrtF b (k:Int),insOkF x ((wrtF b (k:Int)).length:Int) = true:=by
 obtain ⟨⟨h1,h1'⟩,h2,h3,h4,h5⟩:=chk_ok h
 obtain ⟨g1,g2⟩:=h2 _ (List.getElem_mem hk)
 unfold wrtF
 rw [Int.toNat_natCast,List.getElem?_eq_getElem hk]
 show (ringsF b.2.2.2.2[k]).length≤200∧_
 refine ⟨by rw [rings_len]; omega,fun x hx=>?_⟩
 refine rings_ok _ b.2.2.2.2[k].length b.2.2.2.2[k] (Nat.le_refl _) g2 ?_ x (by rw [List.take_length]; exact hx)
 show _≤((ringsF b.2.2.2.2[k]).length:Int)
 rw [rings_len]; omega
theorem prg_okP {b:BlD} (h:chkB b = 0):OkP (prgF b):=by
 obtain ⟨⟨h1,h1'⟩,h2,h3,h4,h5⟩:=chk_ok h
 refine ⟨by rw [prg_len1]; omega,by rw [prg_len2]; omega,by rw [prg_len1]; omega,by rw [prg_len2]; omega,h3,?_,fun l hl=>?_⟩
 ·refine List.all_eq_true.2 fun n hn=>?_
  have hn':n ∈ (List.replicate (2 + 2 * b.2.2.2.1.length) (0:Int)).set 0 b.1:=hn
  rcases List.mem_or_eq_of_mem_set hn' with hx | rfl
  ·rw [(List.mem_replicate.1 hx).2]; exact isNum0
  ·exact h4
 ·have hl':l ∈ (List.range b.2.2.2.1.length).map (fun (i:Nat)=>wtrF b (i:Int)) ++ (List.range b.2.2.2.2.length).map (fun (k:Nat)=>wrtF b (k:Int)):=hl
  rcases List.mem_append.1 hl' with hx | hx
  ·obtain ⟨i,hi,rfl⟩:=List.mem_map.1 hx
   exact wtr_ok h (List.mem_range.1 hi)
  ·obtain ⟨k,hk,rfl⟩:=List.mem_map.1 hx
   exact wrt_ok h (List.mem_range.1 hk)
theorem prg_chk {b:BlD} (h:chkB b = 0):checkF (prgF b) = 0:=(okP_iff _).2 (prg_okP h)
def viewEF (b:BlD) (s:StD):BeD × Int:=if chkB b ≠ 0 then ((0,[],[]),chkB b) else if ckStF (prgF b) s ≠ 0 then ((0,[],[]),2) else (viewF b s.1 (toldF s),0)
def pVEF (b:BlD) (s:StD):Prop:=bBF b∧bS s
end Go.Proofs.Tryz
namespace Go.Proofs.Tryz
open Go Go.VM
def bsTF' (s:StD):Prop:=s.1.length≤9223372036854775807∧s.2.length≤9223372036854775807
def LBS:VM.Spec:=⟨[Bl,Sta],[.bool],fun x=>bTF x.1∧bsTF' x.2.1,fun _=>(true,())⟩
def nb42 (L:Lv) (F:BxF) (M:BeF) (b:BlD) (s:StD)  : VC :=
 let z1:=b.2.2;
 let z2:=z1.2;
 let z3:=(Prod.fst b,b.2.1,z1.1,z2.1,z2.2);
 let z4:=(Prod.fst (BeF.viewE M b s),Prod.snd (BeF.viewE M b s),());
 let z5:=Prod.snd (BeF.prg M z3);
 let z6:=(Prod.fst (BeF.prg M z3),z5.1,z5.2);
 let z7:=(Prod.fst s,s.2);
 let z8:=s.1;
 let z9:=Prod.snd (BeF.view M z3 z8 (BeF.told M z7)); .obl (BeF.bB M z3) (.br (L.cmp .neq (BeF.chk M z3) 0) (.ok (((0,[],[]),BeF.chk M z3,()) = z4)) (.obl
  (BeF.pP M z3) (.obl (BxF.pSt F z6 z7) (.br (L.cmp .neq (BxF.ckSt F z6 z7) 0) (.ok (((0,[],[]),2,()) = z4)) (.obl (BxF.bs F z7) (.obl (BeF.pV M z3 z8
  (BeF.told M z7)) (.ok (((Prod.fst (BeF.view M z3 z8 (BeF.told M z7)),z9.1,z9.2),0,()) = z4))))))))
theorem nb42_go (L:Lv) (F:BxF) (M:BeF) (b:BlD) (s:StD) (h:VC.holds (nb42 L F M b s)):Holds (vcE L F M [] [62,63,93,70,66] 3 (Db42 a0) (Sb42 M) (b,s,())):=Holds.of_eq (by kernel_rfl) h
def nb9 (L:Lv) (F:BxF) (M:BeF) (b:BlD) (s:StD)  : VC :=
 let z1:=b.2.2;
 let z2:=z1.2;
 let z3:=(Prod.fst b,b.2.1,z1.1,z2.1,z2.2);
 let z4:=(Prod.fst s,s.2);
 let z5:=L.cmp .eql (BeF.chk M z3) 0;
 let z6:=Prod.snd (BeF.prg M z3);
 let z7:=(Prod.fst (BeF.prg M z3),z6.1,z6.2);
 let z8:=Prod.snd (BeF.viewE M z3 z4);
 let z9:=L.cmp .eql z8 (BeF.chk M z3);
 let z10:=Prod.fst (BeF.viewE M z3 z4);
 let z11:=z10.2;
 let z12:=(Prod.fst z10,z11.1,z11.2);
 let z13:=Prod.snd (BeF.viewR M z3 z4);
 let z14:=(Prod.fst (BeF.viewR M z3 z4),z13.1,z13.2);
 let z15:=L.cmp .eql z8 2; .obl (BeF.bT M z3) (.br (BeF.thin M z3) (.obl (BxF.bsT F z4) (.br (BxF.thinS F z4) (.obl (BeF.bB M z3) (.obl (BxF.bs F z4) (.obl
  (BeF.pVE M z3 z4) (.obl (BeF.bB M z3) (.br z5 (.obl (BeF.pP M z3) (.obl (BxF.pSt F z7 z4) (.br (BxF.isSt F z7 z4) (.br z5 (.obl (BeF.pVR M z3 z4) (.br z9 (.obl
  (BeF.bE M z12∧BeF.bE M z14) (.br (BeF.same M z12 z14) (.obl True (.br (BeF.aw M) (.ok ((true,()) = (true,()))) (.ok ((false,()) = (true,()))))) (.ok ((false,
  ()) = (true,()))))) (.ok ((false,()) = (true,()))))) (.br z9 (.obl (BeF.bE M z12∧BeF.bE M (0,[],[])) (.br (BeF.same M z12 (0,[],[])) (.obl True (.br (BeF.aw
  M) (.ok ((true,()) = (true,()))) (.ok ((false,()) = (true,()))))) (.ok ((false,()) = (true,()))))) (.ok ((false,()) = (true,()))))) (.br (L.cmp .eql 2
  0) (.obl (BeF.pVR M z3 z4) (.br z15 (.obl (BeF.bE M z12∧BeF.bE M z14) (.br (BeF.same M z12 z14) (.obl True (.br (BeF.aw M) (.ok ((true,()) = (true,()))) (.ok
  ((false,()) = (true,()))))) (.ok ((false,()) = (true,()))))) (.ok ((false,()) = (true,()))))) (.br z15 (.obl (BeF.bE M z12∧BeF.bE M (0,[],[])) (.br (BeF.same
  M z12 (0,[],[])) (.obl True (.br (BeF.aw M) (.ok ((true,()) = (true,()))) (.ok ((false,()) = (true,()))))) (.ok ((false,()) = (true,()))))) (.ok ((false,())
  = (true,())))))))) (.br z5 (.obl (BeF.pVR M z3 z4) (.br z9 (.obl (BeF.bE M z12∧BeF.bE M z14) (.br (BeF.same M z12 z14) (.obl True (.br (BeF.aw M) (.ok ((true,
  ()) = (true,()))) (.ok ((false,()) = (true,()))))) (.ok ((false,()) = (true,()))))) (.ok ((false,()) = (true,()))))) (.br z9 (.obl (BeF.bE M z12∧BeF.bE M (0,
  [],[])) (.br (BeF.same M z12 (0,[],[])) (.obl True (.br (BeF.aw M) (.ok ((true,()) = (true,()))) (.ok ((false,()) = (true,()))))) (.ok ((false,()) = (true,
  ()))))) (.ok ((false,()) = (true,())))))))))) (.obl True (.br (BeF.aw M) (.ok ((true,()) = (true,()))) (.ok ((false,()) = (true,()))))))) (.obl True (.br
  (BeF.aw M) (.ok ((true,()) = (true,()))) (.ok ((false,()) = (true,()))))))
theorem nb9_go (L:Lv) (F:BxF) (M:BeF) (b:BlD) (s:StD) (h:VC.holds (nb9 L F M b s)):Holds (vcE L F M [] [24,41,23,25,43,42,26,28,44,29,18] 3 (Db9 a0) LBS (b,s,())):=Holds.of_eq (by kernel_rfl) h
theorem okb42 (F:BxF) (M:BeF) (h:M.viewE = viewEF) (h1:M.chk = chkB) (h2:M.prg = prgF) (h3:M.view = viewF) (h4:M.told = toldF) (h5:F.ckSt = ckStF) (q:M.bB = bBF) (q1:M.pVE = pVEF) (q2:M.pP = bBF) (q3:F.pSt = fun p s=>bW p∧bS s) (q4:F.bs = bS) (q5:M.pV = pVF)
  (k1:SpecOk prog 62 (Sb62 M)) (k2:SpecOk prog 63 (Sb63 M)) (k3:SpecOk prog 93 (S45 F)) (k4:SpecOk prog 70 (Sb70 F M)) (k5:SpecOk prog 66 (Sb66 M)):SpecOk prog 42 (Sb42 M):=by
 refine Zc hm hE Db42 fnokb42 _ fun (z:BlD × StD × Unit) hpre=>?_
 obtain ⟨b,s,⟨⟩⟩:=z
 have hpre':M.pVE b s:=hpre
 rw [q1] at hpre'
 obtain ⟨g1,g2⟩:=hpre'
 refine Yq _ 3 a0 (Zn (T:=tabO [] (eT F M)) (l:=[62,63,93,70,66]) (Za (Yh k1 (by kernel_rfl)) (Za (Yh k2 (by kernel_rfl)) (Za (Yh k3 (by kernel_rfl)) (Za (Yh k4 (by kernel_rfl)) (Za (Yh k5 (by kernel_rfl)) Z2)))))) ?_
 refine nb42_go Lv.std F M b s ?_
 simp only [nb42,VC.holds,ZJ,ZO,Zb,Zh,Zp,Yj,Ym,Z6,ZM,Yl,Yk,Yf,ZX,ZY,ZT,ZR,Ye,ZN,ZB,ZD,Zm,Z1,ZS,Z5,ZK,ZW,Yb,ZV,ZP,ZQ,Zo,ZH,Ya,Z3,ZI,Yd,Yc,Z4,Z7,Zg,ZC,ZL,ZU,Z8,Z9,Zd,Ze,Zz,ZA,Zu,Zv,Zw,Zx,Zj,Zk,Zs,Zt,Zi,Zl,Zq,Zr,ZG,ZF,ZZ,Yg,ZE,h,h1,h2,h3,h4,h5,q,q2,q3,q4,q5,viewEF,pe5,Prod.mk.injEq,and_true,true_and]
 refine ⟨g1,fun c=>by rw [if_pos c]; exact ⟨rfl,rfl⟩,fun c=>⟨g1,⟨prg_bW g1,g2⟩,?_⟩⟩
 rw [if_neg (by omega)]
 refine ⟨fun d=>by rw [if_pos d]; exact ⟨rfl,rfl⟩,fun d=>⟨g2,okS_view g1 ((ckSt_iff _ _).1 d).2,by rw [if_neg (by omega)]; exact ⟨rfl,rfl⟩⟩⟩
theorem thinS_bS' {s:StD} (h:thinSF s = true):bS s:=by
 unfold thinSF at h
 simp only [Bool.and_eq_true,Bool.not_eq_true',Bool.or_eq_false_iff,decide_eq_false_iff_not] at h
 obtain ⟨⟨h1,h2⟩,h3⟩:=h
 refine ⟨by omega,by omega,fun t ht=>?_⟩
 have:=List.all_eq_true.1 h3 t ht
 unfold thinT at this
 simp only [Bool.not_eq_true',Bool.or_eq_false_iff,decide_eq_false_iff_not] at this
 exact ⟨by omega,by omega,by omega⟩
theorem okb9 (F:BxF) (M:BeF) (g:M.aw = true) (h:M.thin = thinB) (h1:M.chk = chkB) (h2:M.prg = prgF) (h3:M.viewE = viewEF) (h4:M.viewR = fun b s=>viewF b s.1 (toldF s)) (h5:M.same = fun a b=>decide (a = b)) (h6:F.thinS = thinSF) (h7:F.isSt = isStF) (q:M.bB = bBF) (q1:M.bT = bTF) (q2:M.pP = bBF) (q3:F.bsT = bsTF) (q4:F.bs = bS) (q5:M.pVE = pVEF) (q6:F.pSt = fun p s=>bW p∧bS s) (q7:M.pVR = fun b s=>pVF b s.1 (toldF s)∧bS s) (q8:M.bE = bEF)
  (k1:SpecOk prog 24 (Sb24 M)) (k2:SpecOk prog 41 (S40 F)) (k3:SpecOk prog 23 (Sb23 M)) (k4:SpecOk prog 25 (Sb25 M)) (k5:SpecOk prog 43 (S43 F)) (k6:SpecOk prog 42 (Sb42 M)) (k7:SpecOk prog 26 (Sb22 M)) (k8:SpecOk prog 28 (Sb28 M)) (k9:SpecOk prog 44 (S41 F)) (k10:SpecOk prog 29 (Sb29 M)) (k11:SpecOk prog 18 (Sb18 M)):SpecOk prog 9 LBS:=by
 refine Zc hm hE Db9 fnokb9 _ fun (z:BlD × StD × Unit) hpre=>?_
 obtain ⟨b,s,⟨⟩⟩:=z
 have hpre:bTF b∧bsTF' s:=hpre
 refine Yq _ 3 a0 (Zn (T:=tabO [] (eT F M)) (l:=[24,41,23,25,43,42,26,28,44,29,18]) (Za (Yh k1 (by kernel_rfl)) (Za (Yh k2 (by kernel_rfl)) (Za (Yh k3 (by kernel_rfl)) (Za (Yh k4 (by kernel_rfl)) (Za (Yh k5 (by kernel_rfl)) (Za (Yh k6 (by kernel_rfl)) (Za (Yh k7 (by kernel_rfl)) (Za (Yh k8 (by kernel_rfl)) (Za (Yh k9 (by kernel_rfl)) (Za (Yh k10 (by kernel_rfl)) (Za (Yh k11 (by kernel_rfl)) Z2)))))))))))) ?_
 refine nb9_go Lv.std F M b s ?_
 simp only [nb9,VC.holds,ZJ,ZO,Zb,Zh,Zp,Yj,Ym,Z6,ZM,Yl,Yk,Yf,ZX,ZY,ZT,ZR,Ye,ZN,ZB,ZD,Zm,Z1,ZS,Z5,ZK,ZW,Yb,ZV,ZP,ZQ,Zo,ZH,Ya,Z3,ZI,Yd,Yc,Z4,Z7,Zg,ZC,ZL,ZU,Z8,Z9,Zd,Ze,Zz,ZA,Zu,Zv,Zw,Zx,Zj,Zk,Zs,Zt,Zi,Zl,Zq,Zr,ZG,ZF,ZZ,Yg,ZE,g,h,h1,h2,h3,h4,h5,h6,h7,q,q1,q2,q3,q4,q5,q6,q7,q8,pe5,Prod.mk.injEq,and_true,true_and]
 refine ⟨hpre.1,fun ht=>⟨hpre.2,fun hs=>?_,fun _=>by simp⟩,fun _=>by simp⟩
 have hb:=thin_bB ht
 have hw:=prg_bW hb
 have hS:=thinS_bS' hs
 have hv:pVEF b s:=⟨hb,hS⟩
 have e0:bEF (0,[],[]):=⟨by decide,by decide,fun _ h=>by cases h⟩
 by_cases c:chkB b = 0
 ·have op:=prg_okP c
  cases hi:isStF (prgF b) s with
  | true =>
    have os:=(okS_iff _ s).1 hi
    have t1:ckStF (prgF b) s = 0:=(ckSt_iff _ s).2 ⟨op,os⟩
    have pv:=okS_view hb os
    have be:=view_bE pv
    have t2:viewEF b s = (viewF b s.1 (toldF s),0):=by rw [viewEF,if_neg (by simpa using c),if_neg (by simpa using t1)]
    simp [c,hb,hS,hv,hw,pv,be,t2,e0]
  | false =>
    have t1:ckStF (prgF b) s = 2:=by rw [ckStF,if_neg (by simpa using prg_chk c),if_neg (by rw [hi]; simp)]
    have t2:viewEF b s = ((0,[],[]),2):=by rw [viewEF,if_neg (by simpa using c),if_pos (by rw [t1]; decide)]
    simp [c,hb,hS,hv,hw,t2,e0]
 ·have t2:viewEF b s = ((0,[],[]),chkB b):=by rw [viewEF,if_pos c]
  simp [c,hb,hS,hv,hw,t2,e0]
end Go.Proofs.Tryz
namespace Go.Proofs.Tryz
open Go Go.VM
noncomputable def MM:BeF where
 bB:=bBF
 bT:=bTF
 bE:=bEF
 bEs:=bEsF
 bI:=fun _=>True
 bLL:=bLLF
 ex:=exF
 en:=enF
 chk:=chkB
 same:=fun a b=>decide (a = b)
 wk:=wkF
 sames:=fun a b=>decide (a = b)
 pWt:=pWtF
 wtr:=wtrF
 pWr:=pWrF
 wrt:=wrtF
 prg:=prgF
 pP:=bBF
 prgE:=fun _=>(([],[],0),0)
 sum:=sumF
 sumE:=sumEF
 pV:=pVF
 view:=viewF
 pIt:=pItF
 lst:=lstF
 told:=toldF
 pRun:=fun b l=>bBF b∧l.length≤1000000
 run:=runBF
 ends:=endsBG endsM srtB compBL
 cmpB:=cmpBF
 sortB:=fun l=>List.mergeSort (α:=BeD) l fun x y=>!(Go.Proofs.ltOf cmpBF) y x
 compB:=compBL
 thin:=thinB
 pMax:=pMaxF
 max:=maxF
 cat:=List.flatten
 nums:=numsBF
 pSeen:=fun _ _ _=>True
 seen:=fun _ _ _=>false
 pSnd:=fun _ _=>True
 sound:=fun _ _=>false
 soundE:=fun _ _=>(false,0)
 has:=fun _ _=>false
 pIsL:=fun _ _=>True
 isList:=fun _ _=>false
 pVE:=pVEF
 viewE:=viewEF
 pVR:=fun b s=>pVF b s.1 (toldF s)∧bS s
 viewR:=fun b s=>viewF b s.1 (toldF s)
 wtrE:=fun _ _=>([],0)
 wrtE:=fun _ _=>([],0)
 sameL:=fun _ _=>false
 missed:=fun _=>([],0)
 before:=fun _ _=>false
 aw:=true
 cmpN:=cmpI
 iset:=fun a n=>(1,a,0,0,0,n)
 ilod:=fun a n=>(8,a,0,0,0,n)
 icalc:=fun o a b c=>(o,a,b,c,0,0)
 isto:=fun a n=>(9,a,0,0,0,n)
 iswap:=fun a b c=>(10,5,0,b,c,a)
 bef:=fun i=>2 + 2 * i
 bel:=fun i=>2 + 2 * i + 1
 pBf:=pBfF
 i3:=fun o a b c n=>(o,a,b,c,0,n)
 izero:=fun a n=>(14,a,0,0,0,n)
 iswR:=fun a b c=>(10,5,0,a,b,c)
 ijmp:=fun n=>(13,0,0,0,0,n)
theorem hb24:SpecOk prog 24 (Sb24 MM):=okb24 FF MM rfl rfl
theorem hb16:SpecOk prog 16 (Sb16 MM):=okb16 FF MM rfl
theorem hb80:SpecOk prog 80 (S92 FF):=okb80 FF MM rfl
theorem hb22:SpecOk prog 22 (Sb22 MM):=okb22 FF MM rfl rfl rfl hb80
theorem hb62:SpecOk prog 62 (Sb62 MM):=okb62 FF MM hb22
theorem hb147:SpecOk prog 147 (Sb147 MM):=okb147 FF MM rfl rfl
theorem hb148:XOk prog 148 (Rb148 MM).x:=okb148 FF MM rfl rfl okGrow
theorem hb88:SpecOk prog 88 (Sb88 MM):=okb88 FF MM rfl rfl rfl rfl rfl rfl hb147 hb148
theorem hb34:SpecOk prog 34 (Sb34 MM):=okb34 FF MM rfl rfl rfl hb62 hb88
theorem hb128:SpecOk prog 128 (Sb128 MM):=okb128 FF MM rfl
theorem hb129:SpecOk prog 129 (Sb129 MM):=okb129 FF MM rfl
theorem hb130:SpecOk prog 130 (Sb130 MM):=okb130 FF MM rfl
theorem hb132:SpecOk prog 132 (Sb132 MM):=okb132 FF MM rfl
theorem hb133:SpecOk prog 133 (Sb133 MM):=okb133 FF MM rfl rfl
theorem hb134:SpecOk prog 134 (Sb134 MM):=okb134 FF MM rfl
theorem hb135:SpecOk prog 135 (Sb135 MM):=okb135 FF MM rfl rfl rfl hb133
theorem hb75:SpecOk prog 75 (Sb75 MM):=okb75 FF MM rfl rfl rfl rfl rfl rfl rfl rfl rfl rfl hb128 hb129 hb130 okZero hb132 hb133 hb134 hb135
theorem hb77:SpecOk prog 77 (Sb77 MM):=okb77 FF MM rfl rfl rfl rfl rfl rfl hb128 hb129 hb130 okZero hb134
theorem hb63:SpecOk prog 63 (Sb63 MM):=okb63 FF MM rfl rfl rfl rfl rfl rfl hb75 hb77
theorem hb176:ItOk prog 176 (Ib176 MM):=okb176 FF MM rfl rfl rfl rfl hb133
theorem hb66:SpecOk prog 66 (Sb66 MM):=okb66 FF MM rfl rfl rfl rfl rfl h76 hb176
theorem hb70:SpecOk prog 70 (Sb70 FF MM):=okb70 FF MM rfl rfl
theorem hb17:SpecOk prog 17 (Sb17 MM):=okb17 FF MM rfl rfl rfl rfl rfl rfl rfl rfl rfl rfl rfl rfl hb62 hb63 hb66 h51 hb70
theorem hb123:SpecOk prog 123 (Sb123 MM):=okb123 FF MM rfl
theorem hb105:SpecOk prog 105 (Sb105 MM):=okb105 FF MM rfl rfl rfl rfl rfl rfl rfl rfl h111 hb123 h112 h113
theorem hb104:XOk prog 104 (Rb104 MM).u:=okb104 MM rfl rfl rfl rfl hb105
theorem hb107:SpecOk prog 107 (Sb107 MM):=okb107 FF MM rfl rfl hb105
theorem hb106:XOk prog 106 (Rb106 MM).x:=okb106 FF MM rfl rfl rfl rfl hb107
theorem hb55:SpecOk prog 55 (Sb55 MM):=okb55 FF MM rfl rfl rfl rfl rfl (fun l=>List.mergeSort_perm l _) (fun l=>List.mergeSort_perm l _) rfl rfl rfl rfl rfl hb62 hb63 h19 hb66 hb104 hb105 hb106 hb107
theorem hb72:SpecOk prog 72 (Sb72 MM):=okb72 FF MM rfl rfl
theorem hb18:SpecOk prog 18 (Sb18 MM):=okb18 FF MM rfl rfl rfl rfl rfl hb72 h46
theorem hb19:SpecOk prog 19 (Sb19 MM):=okb19 FF MM rfl
theorem hb59:SpecOk prog 59 (Sb59 MM):=okb59 FF MM rfl rfl rfl rfl hb18
theorem hb23:SpecOk prog 23 (Sb23 MM):=okb23 FF MM rfl rfl rfl rfl rfl rfl rfl run5 sum5 (Eq.trans (congrFun (show MM.ends = endsBG endsM srtB compBL from rfl) _) ends5) (Eq.trans (congrFun (show MM.ends = endsBG endsM srtB compBL from rfl) _) ends8) rfl rfl rfl rfl hb16 hb34 hb17 hb55 hb18 hb19 hb59
theorem hb25:SpecOk prog 25 (Sb25 MM):=okb25 FF MM rfl
theorem hb42:SpecOk prog 42 (Sb42 MM):=okb42 FF MM rfl rfl rfl rfl rfl rfl rfl rfl rfl rfl rfl rfl hb62 hb63 h45 hb70 hb66
theorem hb83:XOk prog 83 (Rb83 MM).x:=okb83 FF MM rfl rfl
theorem hb26:SpecOk prog 26 (Sb22 MM):=okb26 FF MM rfl rfl rfl rfl rfl hb83 h63 h54
theorem hb89:SpecOk prog 89 (Sb89 MM):=okb89 FF MM rfl
theorem hb90:SpecOk prog 90 (Sb90 MM):=okb90 FF MM rfl rfl hb89
theorem hb91:SpecOk prog 91 (Sb91 MM):=okb91 FF MM rfl
theorem hb92:SpecOk prog 92 (Sb92 MM):=okb92 FF MM rfl rfl hb89
theorem hb38:SpecOk prog 38 (Sb38 MM):=okb38 FF MM rfl rfl rfl rfl rfl rfl hb89 hb90 hb91 hb92
theorem hb39:SpecOk prog 39 (Sb39 MM):=okb39 FF MM rfl rfl rfl rfl rfl rfl hb89 hb90 hb91 hb92
theorem hb28:SpecOk prog 28 (Sb28 MM):=okb28 FF MM rfl rfl rfl rfl rfl rfl hb38 hb39
theorem hb29:SpecOk prog 29 (Sb29 MM):=okb29 FF MM rfl rfl rfl h54
theorem hb9:SpecOk prog 9 LBS:=okb9 FF MM rfl rfl rfl rfl rfl rfl rfl rfl rfl rfl rfl rfl rfl rfl rfl rfl rfl rfl hb24 h40 hb23 hb25 h43 hb42 hb26 hb28 h41 hb29 hb18
end Go.Proofs.Tryz
