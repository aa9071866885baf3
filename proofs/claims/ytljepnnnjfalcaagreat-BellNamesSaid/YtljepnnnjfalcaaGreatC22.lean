/- What functions of the weak memory compute, proved through the condition generator, and plain facts of it. Conditions: none of ours. -/
import Derived.Shelf.SlSortCmp.NoneTotal
import Derived.Ground.SlsfProg
import Derived.Test.YtljepnnnjfalcaaGreatProg
import Derived.Test.YtljepnnnjfalcaaGreatC19
import Derived.Test.YtljepnnnjfalcaaGreatC21
import Derived.Test.YtljepnnnjfalcaaGreatC16
import Derived.Test.YtljepnnnjfalcaaGreatC13
set_option autoImplicit false
set_option maxRecDepth 100000
set_option linter.all false
namespace Go.Proofs
open Go.Shelf
def Tryz.sortL_ren:Go.Shelf.Ren:=⟨fun | 6=>172 | 15=>166 | 14=>209 | 28=>206 | 29=>207 | 20=>224 | 21=>225 | 22=>226 | 23=>227 | 24=>228 | 25=>229 | 26=>230 | 27=>231 | 46=>235 | 47=>220 | 48=>221 | 49=>236 | 50=>237 | 57=>239 | n=>n,fun | 22=>110 | 24=>114 | 25=>161 | 3=>3 | 39=>215 | 0=>0 | 53=>259 | 55=>261 | 4=>4 | 46=>253 | 45=>252 | 50=>195 | 5=>5 | 9=>9 | 66=>271 | 70=>275 | 76=>284 | 77=>285 | n=>n,fun | n=>n⟩
theorem Tryz.sortL:Go.Proofs.SlLaysF0.n6 Tryz.prog Tryz.sortL_ren:={
 mixed:=by kernel_rfl
 f6:=⟨Tryz.f172.name,by decide,Tryz.func172.trans (congrArg some (by kernel_rfl))⟩
 f14:=⟨Tryz.f209.name,by decide,Tryz.func209.trans (congrArg some (by kernel_rfl))⟩
 f15:=Tryz.func166.trans (congrArg some (by kernel_rfl))
 f20:=⟨Tryz.f224.name,by decide,Tryz.func224.trans (congrArg some (by kernel_rfl))⟩
 f21:=⟨Tryz.f225.name,by decide,Tryz.func225.trans (congrArg some (by kernel_rfl))⟩
 f22:=⟨Tryz.f226.name,by decide,Tryz.func226.trans (congrArg some (by kernel_rfl))⟩
 f23:=⟨Tryz.f227.name,by decide,Tryz.func227.trans (congrArg some (by kernel_rfl))⟩
 f24:=⟨Tryz.f228.name,by decide,Tryz.func228.trans (congrArg some (by kernel_rfl))⟩
 f25:=⟨Tryz.f229.name,by decide,Tryz.func229.trans (congrArg some (by kernel_rfl))⟩
 f26:=⟨Tryz.f230.name,by decide,Tryz.func230.trans (congrArg some (by kernel_rfl))⟩
 f27:=⟨Tryz.f231.name,by decide,Tryz.func231.trans (congrArg some (by kernel_rfl))⟩
 f28:=Tryz.func206.trans (congrArg some (by kernel_rfl))
 f29:=Tryz.func207.trans (congrArg some (by kernel_rfl))
 f46:=⟨Tryz.f235.name,by decide,Tryz.func235.trans (congrArg some (by kernel_rfl))⟩
 f47:=Tryz.func220.trans (congrArg some (by kernel_rfl))
 f48:=Tryz.func221.trans (congrArg some (by kernel_rfl))
 f49:=⟨Tryz.f236.name,by decide,Tryz.func236.trans (congrArg some (by kernel_rfl))⟩
 f50:=⟨Tryz.f237.name,by decide,Tryz.func237.trans (congrArg some (by kernel_rfl))⟩
 f57:=⟨Tryz.f239.name,by decide,Tryz.func239.trans (congrArg some (by kernel_rfl))⟩
 t0:=Tryz.underlying0
 a0:=Tryz.isAgg0
 z0:=Tryz.sizeOf0
 v0:=Tryz.zeroValue0
 t3:=Tryz.underlying3
 a3:=Tryz.isAgg3
 z3:=Tryz.sizeOf3
 v3:=Tryz.zeroValue3
 t4:=Tryz.underlying4
 a4:=Tryz.isAgg4
 z4:=Tryz.sizeOf4
 v4:=Tryz.zeroValue4
 t5:=Tryz.underlying5
 a5:=Tryz.isAgg5
 z5:=Tryz.sizeOf5
 v5:=Tryz.zeroValue5
 t9:=Tryz.underlying9
 a9:=Tryz.isAgg9
 z9:=Tryz.sizeOf9
 v9:=Tryz.zeroValue9
 t22:=Tryz.underlying110
 a22:=Tryz.isAgg110
 z22:=Tryz.sizeOf110
 v22:=Tryz.zeroValue110
 t25:=Tryz.underlying161
 a25:=Tryz.isAgg161
 z25:=Tryz.sizeOf161
 v25:=Tryz.zeroValue161
 t39:=Tryz.underlying215
 a39:=Tryz.isAgg215
 z39:=Tryz.sizeOf215
 v39:=Tryz.zeroValue215
 t45:=Tryz.underlying252
 a45:=Tryz.isAgg252
 z45:=Tryz.sizeOf252
 v45:=Tryz.zeroValue252
 t46:=Tryz.underlying253
 a46:=Tryz.isAgg253
 z46:=Tryz.sizeOf253
 v46:=Tryz.zeroValue253
 t50:=Tryz.underlying195
 a50:=Tryz.isAgg195
 z50:=Tryz.sizeOf195
 v50:=Tryz.zeroValue195
 t53:=Tryz.underlying259
 a53:=Tryz.isAgg259
 z53:=Tryz.sizeOf259
 v53:=Tryz.zeroValue259
 t55:=Tryz.underlying261
 a55:=Tryz.isAgg261
 z55:=Tryz.sizeOf261
 v55:=Tryz.zeroValue261
 t66:=Tryz.underlying271
 a66:=Tryz.isAgg271
 z66:=Tryz.sizeOf271
 v66:=Tryz.zeroValue271
 t70:=Tryz.underlying275
 a70:=Tryz.isAgg275
 z70:=Tryz.sizeOf275
 v70:=Tryz.zeroValue275
 t76:=Tryz.underlying284
 a76:=Tryz.isAgg284
 z76:=Tryz.sizeOf284
 v76:=Tryz.zeroValue284
 t77:=Tryz.underlying285
 a77:=Tryz.isAgg285
 z77:=Tryz.sizeOf285
 v77:=Tryz.zeroValue285 }
end Go.Proofs
namespace Go.Proofs.Tryz
open Go Go.VM
theorem sortC:SortC prog 172 3:=fun α _ enc hk h1 cf hO c cb blk off cap d w eg hcmp hH hblk hsz =>
 Go.Proofs.AnyQ.slices_SortFunc sortL 3 isAgg114 sizeOf114 enc hk h1 cf hO c cb blk off cap d w eg hcmp hH hblk hsz
theorem sortN:SortN prog 172:=fun p cap fv w=>Go.Proofs.AnyF.slices_SortFunc_none { sortL with } p cap fv w
theorem ok106 (F:BxF) (h:F.sort = fun l=>List.mergeSort (α:=EnD) l fun x y=>!(Go.Proofs.ltOf cmpEF) y x) (h1:F.cmpE = cmpEF) (q:F.be = sEn) (q1:F.ble = fun l=>l.length≤1000000∧∀ e ∈ l,sEn e) (k:SpecOk prog 119 (S70 F)):XOk prog 172 (R106 F).u:=by
 have hk:SpecOk prog 119 ⟨[En,En],[.int .i64],fun x=>sEn x.1,fun x=>(cmpEF x.1 x.2.1,())⟩:=by
  have:S70 F = ⟨[En,En],[.int .i64],fun x=>sEn x.1,fun x=>(cmpEF x.1 x.2.1,())⟩:=by unfold S70; rw [h1,q]
  rw [← this]; exact k
 have hR:R106 F = ⟨114,En,[],fun l _=>List.length (α:=En.D) l≤1000000∧∀ x ∈ l,sEn x,fun l _=>List.mergeSort (α:=En.D) l fun x y=>!(Go.Proofs.ltOf cmpEF) y x,[119]⟩:=by unfold R106; rw [h,q1]
 rw [hR]
 refine sortU_ok 114 En cmpEF sEn 1000000 172 119 ?_ rfl (by decide) (by decide) hk ?_ cmpE_ord.swo cmpE_ord.tot sortC sortN
 ·exact ⟨_,func172,rfl,rfl⟩
 ·exact Go.Proofs.enters_of func119 (by kernel_rfl) rfl
end Go.Proofs.Tryz
namespace Go.Proofs.Tryz
open Go Go.VM
def S108 (F:BxF):VM.Spec:=⟨[En,En],[.bool],fun x=>F.be x.1,fun x=>(F.sameE x.1 x.2.1,())⟩
noncomputable def o107 (F:BxF):List (Nat × FT):=[(174,.spec (S108 F))]
def a107 (L:Lv) (I:List EnD × Unit→Ds [It]→Prop) (mu:List EnD × Unit→Ds [It]→Nat) (I2:List EnD × Int × Unit→Ds [.sl En,It,It]→Prop) (m2:List EnD × Int × Unit→Ds [.sl En,It,It]→Nat):Nat→LAnn
 | 0=>anE L [0,1,5] [] [.h (.ri 0 En)] [.s 5 It] I mu
 | 2=>anE L [0,1,5,6,7] [] [.h (.ri 0 En),.h (.s 5 It)] [.ri 0 En,.s 5 It,.s 7 It] I2 m2
 | _=>.no
def n108 (L:Lv) (F:BxF) (a b:EnD)  : VC :=
 let z1:=(Prod.fst a,a.2.1,a.2.2);
 let z2:=(BxF.sameE F a b,()); .obl (BxF.be F z1) (.br (L.cmp .eql (BxF.cmpE F z1 (Prod.fst b,b.2.1,b.2.2)) 0) (.ok ((true,()) =
  z2)) (.ok ((false,()) = z2)))
theorem n108_go (L:Lv) (F:BxF) (a b:EnD) (h:VC.holds (n108 L F a b)):Holds (vcC L F [119] (D108 a0) (S108 F) (a,b,())):=Holds.of_eq (by kernel_rfl) h
def n107 (L:Lv) (F:BxF) (I:List EnD × Unit→Ds [It]→Prop) (mu:List EnD × Unit→Ds [It]→Nat) (I2:List EnD × Int × Unit→Ds [.sl En,It,It]→Prop) (m2:List EnD × Int × Unit→Ds [.sl En,It,It]→Nat) (a:List EnD)  : VC :=
 let z1:=L.llen En a;
 let z2:=L.cast z1;
 let z3:=List Int × List (List Int) × List Int; .br (L.cmp .lss z2 2) (.ok (114 = 114∧L.take En a z1 = BxF.comp F a)) (.obl (St.mk 66 [(0,V.c (C.own 1 z1)),(1,
  V.c (C.fn 174 [])),(5,V.c (C.int .i64 1))] [(0,Ob.amb),(1,Ob.row 114 En a)] 2 = St.mk 66 [(0,V.c (C.own 1 z1)),(1,V.c (C.fn 174 [])),(5,V.c (C.int .i64
  1))] [(0,Ob.amb),(1,Ob.row 114 En a)] 2) (.obl (I (a,()) (1,())) (.all (Int × Unit) fun (v1:Int × Unit) =>
 let z4:=v1.1;
 let z5:=L.toN z4;
 let z6:=L.ar .sub .i64 z4 1;
 let z7:=L.toN z6;
 let z8:=L.get En a z5;
 let z9:=z8.2;
 let z10:=(Prod.fst z8,z9.1,z9.2);
 let z11:=L.get En a z7;
 let z12:=z11.2;
 let z13:=L.sub z1 z5;
 let z14:=L.ar .add .i64 z4 1;
 let z15:=(L.ar .add .i64 z4 1,()); .imp (I (a,()) v1) (.br (L.cmp .lss z4 z2) (.obl (L.inR z4 z1) (.obl (L.ltN z5 z1) (.obl (L.inR z6
  z1) (.obl (L.ltN z7 z1) (.obl (BxF.be F z10) (.br (BxF.sameE F z10 (Prod.fst z11,z12.1,z12.2)) (.obl (L.le3 z4 z2 z1) (.obl (St.mk 66 [(0,V.c
  (C.own 1 z1)),(1,V.c (C.fn 174 [])),(5,V.c (C.int .i64 z4)),(6,V.c (C.owa 1 z5 z13)),(7,V.c (C.int .i64 1))] [(0,Ob.amb),(1,Ob.row 114 En a)] 2 = St.mk 66
  [(0,V.c (C.own 1 z1)),(1,V.c (C.fn 174 [])),(5,V.c (C.int .i64 z4)),(6,V.c (C.owa 1 z5 z13)),(7,V.c (C.int .i64 1))] [(0,Ob.amb),(1,Ob.row 114 En a)] 2)
  (.obl (I2 (a,v1.1,()) (a,v1.1,1,())) (.all (List z3 × Int × Int × Unit) fun (v2:List (List Int × List (List Int) × List Int) × Int × Int × Unit) =>
 let z16:=v2.2;
 let z17:=z16.2.1;
 let z18:=L.inR z17 z13;
 let z19:=L.add z5 (L.toN z17);
 let z20:=v2.1;
 let z21:=L.llen En z20;
 let z22:=L.ltN z19 z21;
 let z23:=L.ar .sub .i64 z17 1;
 let z24:=L.add z5 (L.toN z23);
 let z25:=L.get En z20 z19;
 let z26:=z25.2;
 let z27:=(Prod.fst z25,z26.1,z26.2);
 let z28:=L.get En z20 z24;
 let z29:=z28.2;
 let z30:=z16.1;
 let z31:=L.ar .add .i64 z17 1;
 let z32:=(Prod.fst v2,z16.1,L.ar .add .i64 z17 1,());
 let z33:=L.toN z30;
 let z34:=L.ar .add .i64 z30 1;
 let z35:=L.setl En z20 z33 z27;
 let z36:=(L.setl En z20 z33 z27,L.ar .add .i64 z30 1,L.ar .add .i64 z17 1,());
 let z37:=L.sub z1 z33; .imp (I2 (a,v1.1,()) v2) (.br (L.cmp .lss z17 (L.cast z13)) (.obl z18 (.obl z22 (.obl (L.inR z23 z13) (.obl (L.ltN
  z24 z21) (.obl (BxF.be F z27) (.br (BxF.sameE F z27 (Prod.fst z28,z29.1,z29.2)) (.ok (St.mk 66 [(0,V.c (C.own 1 z1)),(1,V.c (C.fn 174 [])),(5,V.c
  (C.int .i64 z30)),(6,V.c (C.owa 1 z5 z13)),(7,V.c (C.int .i64 z31))] [(0,Ob.amb),(1,Ob.row 114 En z20)] 2 = St.mk 66 [(0,V.c (C.own 1 z1)),(1,V.c (C.fn 174
  [])),(5,V.c (C.int .i64 z30)),(6,V.c (C.owa 1 z5 z13)),(7,V.c (C.int .i64 z31))] [(0,Ob.amb),(1,Ob.row 114 En z20)] 2∧I2 (a,v1.1,()) z32∧m2 (a,
  Prod.fst v1,()) z32 < m2 (a,v1.1,()) v2)) (.obl z18 (.obl z22 (.obl (L.inR z30 z1) (.obl (L.ltN z33 z21) (.ok (St.mk 66 [(0,V.c (C.own 1 z1)),(1,V.c
  (C.fn 174 [])),(5,V.c (C.int .i64 z34)),(6,V.c (C.owa 1 z5 z13)),(7,V.c (C.int .i64 z31))] [(0,Ob.amb),(1,Ob.row 114 En z35)] 2 = St.mk 66 [(0,V.c (C.own 1
  z1)),(1,V.c (C.fn 174 [])),(5,V.c (C.int .i64 z34)),(6,V.c (C.owa 1 z5 z13)),(7,V.c (C.int .i64 z31))] [(0,Ob.amb),(1,Ob.row 114 En z35)] 2∧I2 (a,
  Prod.fst v1,()) z36∧m2 (a,v1.1,()) z36 < m2 (a,v1.1,()) v2)))))))))))) (.obl (L.le3 z30 z2 z1) (.obl (L.ltN 0 z37∧L.add z33 z37 = L.llen En
  z20) (.obl (L.le3 (L.cast 0) z30 z1) (.ok (114 = 114∧L.take En (L.app En (L.take En z20 z33) (L.rep En z37 ([],[],[]))) z33 = BxF.comp F a))))))))))
  (.ok (St.mk 66 [(0,V.c (C.own 1 z1)),(1,V.c (C.fn 174 [])),(5,V.c (C.int .i64 z14))] [(0,Ob.amb),(1,Ob.row 114 En a)] 2 = St.mk 66 [(0,V.c (C.own 1 z1)),(1,V.c
  (C.fn 174 [])),(5,V.c (C.int .i64 z14))] [(0,Ob.amb),(1,Ob.row 114 En a)] 2∧I (a,()) z15∧mu (a,()) z15 < mu (a,()) v1)))))))) (.ok (114 = 114∧L.take En a
  z1 = BxF.comp F a))))))
theorem n107_go (L:Lv) (F:BxF) (I:List EnD × Unit→Ds [It]→Prop) (mu:List EnD × Unit→Ds [It]→Nat) (I2:List EnD × Int × Unit→Ds [.sl En,It,It]→Prop) (m2:List EnD × Int × Unit→Ds [.sl En,It,It]→Nat) (a:List EnD) (h:VC.holds (n107 L F I mu I2 m2 a)):Holds (vcT L F (o107 F) [174] (D107 (a107 L I mu I2 m2)) (R107 F) a ()):=Holds.of_eq (by kernel_rfl) h
def n107n (L:Lv) (F:BxF) (I:List EnD × Unit→Ds [It]→Prop) (mu:List EnD × Unit→Ds [It]→Nat) (I2:List EnD × Int × Unit→Ds [.sl En,It,It]→Prop) (m2:List EnD × Int × Unit→Ds [.sl En,It,It]→Nat)  : VC :=
 let z1:=(BxF.comp F [] = []); VC.br (Lv.cmp L BinOp.lss 0 2) (VC.ok z1) (VC.obl (St.mk 66 [(0,V.c C.nils),(1,V.c (C.fn 174 [])),(5,V.c (C.int IntKind.i64 1))] [(0,Ob.amb)]
  1 = St.mk 66 [(0,V.c C.nils),(1,V.c (C.fn 174 [])),(5,V.c (C.int IntKind.i64 1))] [(0,Ob.amb)] 1) (VC.obl (I ([],()) (1,())) (VC.all (Int × Unit) fun (v1:Int × Unit) =>
  VC.imp (I ([],()) v1) (VC.br (Lv.cmp L BinOp.lss (Prod.fst v1) 0) VC.bad (VC.ok z1)))))
theorem n107n_go (L:Lv) (F:BxF) (I:List EnD × Unit→Ds [It]→Prop) (mu:List EnD × Unit→Ds [It]→Nat) (I2:List EnD × Int × Unit→Ds [.sl En,It,It]→Prop) (m2:List EnD × Int × Unit→Ds [.sl En,It,It]→Nat) (h:VC.holds (n107n L F I mu I2 m2)):Holds (vcTn L F (o107 F) [174] (D107 (a107 L I mu I2 m2)) (R107 F) ()):=Holds.of_eq (by kernel_rfl) h
theorem ok108 (F:BxF) (h:F.sameE = fun a b=>decide (a = b)) (h1:F.cmpE = cmpEF) (k1:SpecOk prog 119 (S70 F)):SpecOk prog 174 (S108 F):=by
 refine Zc hm hE D108 fnok108 _ fun (z:EnD × EnD × Unit) hpre=>?_
 obtain ⟨a,b,⟨⟩⟩:=z
 have hpre':F.be a:=hpre
 refine Yp _ 3 a0 (Zs (T:=cT F) (l:=[119]) (Za (Yh k1 (by kernel_rfl)) Z4)) ?_
 refine n108_go Lv.std F a b ?_
 simp only [n108,VC.holds,ZJ,ZO,Zb,Zh,Zm,Yj,Ym,Z5,ZM,Yl,Yk,Yf,ZX,ZY,ZT,ZR,Ye,ZN,Zz,ZD,Zr,Z1,ZS,Z2,ZK,ZW,Yb,ZV,ZP,ZQ,Zt,ZH,Ya,Z3,ZI,Yd,Yc,Z6,Z7,Zg,ZC,ZL,ZU,Z8,Z9,Zd,Ze,ZA,ZB,Zu,Zv,Zx,Zy,Zk,Zl,Zp,Zq,Zi,Zj,Zn,Zo,ZG,ZF,ZZ,Yg,ZE,h,h1,Prod.mk.injEq,and_true,true_and]
 exact ⟨hpre',fun h=>(decide_eq_true ((cmpE_eq a b).1 h)).symm,fun h=>(decide_eq_false (fun e=>h ((cmpE_eq a b).2 e))).symm⟩
theorem compL_lt2 (a:List EnD) (h:a.length < 2):compL a = a:=by
 match a,h with
 | [],_=>rfl
 | [x],_=>rfl
theorem ok107 (F:BxF) (h:F.comp = compL) (h1:F.sameE = fun a b=>decide (a = b)) (q:F.be = sEn) (q1:F.ble = fun l=>l.length≤1000000∧∀ e ∈ l,sEn e) (k1:SpecOk prog 174 (S108 F)):XOk prog 173 (R107 F).x:=by
 let I:List EnD × Unit→Int × Unit→Prop:=fun e x=>(1≤x.1∧x.1≤e.1.length)∧compL (e.1.take x.1.toNat) = e.1.take x.1.toNat
 let mu:List EnD × Unit→Int × Unit→Nat:=fun e x=>(e.1.length - x.1).toNat
 let I2:List EnD × Int × Unit→List EnD × Int × Int × Unit→Prop:=fun e x=>(1≤x.2.2.1∧e.2.1 + x.2.2.1≤e.1.length)∧(1≤e.2.1∧e.2.1≤x.2.1∧x.2.1 < e.2.1 + x.2.2.1)∧x.1.length = e.1.length∧x.1.take x.2.1.toNat = compL (e.1.take (e.2.1 + x.2.2.1).toNat)∧∀ q:Nat,e.2.1 + x.2.2.1 - 1≤q→x.1[q]? = e.1[q]?
 let m2:List EnD × Int × Unit→List EnD × Int × Int × Unit→Nat:=fun e x=>(e.1.length - x.2.2.1).toNat
 refine turnX_ok hm hE 4 (fns:=only (tabO (o107 F) (cT F)) [174]) (Zs (Za (Yh k1 (by kernel_rfl)) Z4)) (fnok107 (a107 Lv.std I mu I2 m2)) (fnok107 (a107 Lv.std I mu I2 m2)) (R107 F) (fun (a:List EnD) (z:Unit) hpre=>?_) (fun (z:Unit) hpre=>?_)
 ·have hpre':F.ble a:=hpre
  rw [q1] at hpre'
  obtain ⟨g1,g2⟩:=hpre'
  refine n107_go Lv.std F I mu I2 m2 a ?_
  simp only [n107,VC.holds,ZJ,ZO,Zb,Zh,Zm,Yj,Ym,Z5,ZM,Yl,Yk,Yf,ZX,ZY,ZT,ZR,Ye,ZN,Zz,ZD,Zr,Z1,ZS,Z2,ZK,ZW,Yb,ZV,ZP,ZQ,Zt,ZH,Ya,Z3,ZI,Yd,Yc,Z6,Z7,Zg,ZC,ZL,ZU,Z8,Z9,Zd,Ze,ZA,ZB,Zu,Zv,Zx,Zy,Zk,Zl,Zp,Zq,Zi,Zj,Zn,Zo,ZG,ZF,ZZ,Yg,ZE,h,h1,q,List.length_set,and_true,true_and]
  refine ⟨fun h0=>?_,fun h2=>⟨⟨⟨Int.le_refl 1,by show (1:Int)≤a.length; omega⟩,?_⟩,?_⟩⟩
  ·rw [List.take_length]; exact (compL_lt2 a (by omega)).symm
  ·show compL (a.take 1) = a.take 1
   exact compL_lt2 _ (by rw [List.length_take]; omega)
  rintro ⟨k,⟨⟩⟩ ⟨⟨i1,i2⟩,i3⟩
  have i1:(1:Int)≤k:=i1
  have i2:k≤(a.length:Int):=i2
  have i3:compL (a.take k.toNat) = a.take k.toNat:=i3
  obtain ⟨n,rfl⟩:=Yq (x:=k) (by omega)
  rw [Int.toNat_natCast] at i3
  have w1:IntKind.i64.wrap ((n:Int) - 1) = ((n - 1:Nat):Int):=by rw [Yn (by omega) (by omega)]; omega
  simp only [w1,Int.toNat_natCast]
  refine ⟨fun hlt=>?_,fun hge=>?_⟩
  ·have hn:n < a.length:=by omega
   have hn1:n - 1 < a.length:=by omega
   simp only [List.getElem?_eq_getElem hn,List.getElem?_eq_getElem hn1,Option.getD_some]
   have hs:=compL_step a n hn (by omega)
   refine ⟨⟨by omega,hlt⟩,hn,⟨by omega,by omega⟩,hn1,g2 _ (List.getElem_mem hn),fun he=>?_,fun he=>?_⟩
   ·have he':a[n] = a[n - 1]:=of_decide_eq_true he
    rw [if_pos he'.symm,i3] at hs
    refine ⟨⟨by omega,by omega,Int.le_refl _⟩,⟨⟨Int.le_refl 1,by show (n:Int) + 1≤a.length; omega⟩,⟨by show (1:Int)≤n; omega,Int.le_refl _,by show (n:Int) < n + 1; omega⟩,rfl,?_,fun q hq=>rfl⟩,?_⟩
    ·show a.take (n:Int).toNat = compL (a.take ((n:Int) + 1).toNat)
     rw [Int.toNat_natCast,show ((n:Int) + 1).toNat = n + 1 by omega,hs]
    rintro ⟨l,i,j,⟨⟩⟩ ⟨⟨j1,j2⟩,⟨j3,j4,j5⟩,j6,j7,j8⟩
    have t1:(1:Int)≤j:=j1
    have t2:(n:Int) + j≤a.length:=j2
    have t3:(1:Int)≤n:=j3
    have t4:(n:Int)≤i:=j4
    have t5:i < (n:Int) + j:=j5
    have t6:l.length = a.length:=j6
    have t7:l.take i.toNat = compL (a.take ((n:Int) + j).toNat):=j7
    have t8:∀ q:Nat,(n:Int) + j - 1≤q→l[q]? = a[q]?:=j8
    clear j1 j2 j3 j4 j5 j6 j7 j8
    obtain ⟨m,rfl⟩:=Yq (x:=j) (by omega)
    obtain ⟨p,rfl⟩:=Yq (x:=i) (by omega)
    have w2:IntKind.i64.wrap ((m:Int) - 1) = ((m - 1:Nat):Int):=by rw [Yn (by omega) (by omega)]; omega
    have w3:IntKind.i64.wrap ((m:Int) + 1) = ((m + 1:Nat):Int):=by rw [Yn (by omega) (by omega)]; omega
    have w4:IntKind.i64.wrap ((p:Int) + 1) = ((p + 1:Nat):Int):=by rw [Yn (by omega) (by omega)]; omega
    rw [Int.toNat_natCast,show ((n:Int) + m).toNat = n + m by omega] at t7
    simp only [w2,w3,w4,Int.toNat_natCast,t6]
    have mlt:∀ u v,m2 (a,(n:Int),()) (u,v,((m + 1:Nat):Int),()) < m2 (a,(n:Int),()) (l,(p:Int),(m:Int),()):=fun u v=>by show ((a.length:Int) - ((m + 1:Nat):Int)).toNat < ((a.length:Int) - (m:Int)).toNat; omega
    refine ⟨fun hlt2=>?_,fun hge2=>?_⟩
    ·have hm:n + m < a.length:=by omega
     have hm1:n + (m - 1) < a.length:=by omega
     have e1:l[n + m]? = some a[n + m]:=by rw [t8 (n + m) (by omega)]; exact List.getElem?_eq_getElem hm
     have e2:l[n + (m - 1)]? = some a[n + (m - 1)]:=by rw [t8 (n + (m - 1)) (by omega)]; exact List.getElem?_eq_getElem hm1
     simp only [e1,e2,Option.getD_some]
     have hs2:=compL_step a (n + m) hm (by omega)
     simp only [show n + m - 1 = n + (m - 1) by omega] at hs2
     have e5:(((n:Int) + ((m + 1:Nat):Int)).toNat) = n + m + 1:=by omega
     refine ⟨⟨by omega,hlt2⟩,by omega,⟨by omega,by omega⟩,by omega,g2 _ (List.getElem_mem hm),fun he2=>⟨?_,mlt _ _⟩,fun he2=>⟨⟨by omega,hlt2⟩,by omega,⟨by omega,by omega⟩,by omega,?_,mlt _ _⟩⟩
     ·have he2':a[n + m] = a[n + (m - 1)]:=of_decide_eq_true he2
      rw [if_pos he2'.symm] at hs2
      refine ⟨⟨by show (1:Int)≤((m + 1:Nat):Int); omega,by show (n:Int) + ((m + 1:Nat):Int)≤a.length; omega⟩,⟨t3,t4,by show (p:Int) < n + ((m + 1:Nat):Int); omega⟩,t6,?_,fun q hq=>t8 q (by have hq:(n:Int) + ((m + 1:Nat):Int) - 1≤q:=hq; omega)⟩
      show l.take (p:Int).toNat = compL (a.take ((n:Int) + ((m + 1:Nat):Int)).toNat)
      rw [Int.toNat_natCast,e5,hs2,t7]
     ·have he2':¬ a[n + m] = a[n + (m - 1)]:=of_decide_eq_false he2
      rw [if_neg (fun e=>he2' e.symm)] at hs2
      refine ⟨⟨by show (1:Int)≤((m + 1:Nat):Int); omega,by show (n:Int) + ((m + 1:Nat):Int)≤a.length; omega⟩,⟨t3,by show (n:Int)≤((p + 1:Nat):Int); omega,by show ((p + 1:Nat):Int) < n + ((m + 1:Nat):Int); omega⟩,by show (l.set p a[n + m]).length = a.length; rw [List.length_set,t6],?_,fun q hq=>?_⟩
      ·show (l.set p a[n + m]).take ((p + 1:Nat):Int).toNat = compL (a.take ((n:Int) + ((m + 1:Nat):Int)).toNat)
       rw [Int.toNat_natCast,e5,hs2,← t7,List.take_succ,List.getElem?_set_self (by omega),List.take_set,List.set_eq_of_length_le (by rw [List.length_take]; omega)]
       rfl
      ·have hq:(n:Int) + ((m + 1:Nat):Int) - 1≤q:=hq
       show (l.set p a[n + m])[q]? = a[q]?
       rw [List.getElem?_set_ne (by omega)]
       exact t8 q (by omega)
    ·have hnm:n + m = a.length:=by omega
     refine ⟨⟨by omega,by omega,Int.le_refl _⟩,⟨by omega,by omega⟩,⟨Int.le_refl _,by omega,by omega⟩,?_⟩
     rw [List.take_append_of_le_length (by rw [List.length_take]; omega),List.take_take,Nat.min_self,t7,hnm,List.take_length]
   ·have he':¬ a[n] = a[n - 1]:=of_decide_eq_false he
    rw [wr hlt g1]
    refine ⟨⟨⟨by show (1:Int)≤((n + 1:Nat):Int); omega,by show ((n + 1:Nat):Int)≤a.length; omega⟩,?_⟩,by show ((a.length:Int) - ((n + 1:Nat):Int)).toNat < ((a.length:Int) - (n:Int)).toNat; omega⟩
    show compL (a.take ((n + 1:Nat):Int).toNat) = a.take ((n + 1:Nat):Int).toNat
    rw [Int.toNat_natCast,hs,if_neg (fun e=>he' e.symm),i3,List.take_succ,List.getElem?_eq_getElem hn]
    rfl
  ·rw [show n = a.length by omega,List.take_length] at i3
   rw [List.take_length]; exact i3.symm
 ·refine n107n_go Lv.std F I mu I2 m2 ?_
  simp only [n107n,VC.holds,ZJ,ZO,Zb,Zh,Zm,Yj,Ym,Z5,ZM,Yl,Yk,Yf,ZX,ZY,ZT,ZR,Ye,ZN,Zz,ZD,Zr,Z1,ZS,Z2,ZK,ZW,Yb,ZV,ZP,ZQ,Zt,ZH,Ya,Z3,ZI,Yd,Yc,Z6,Z7,Zg,ZC,ZL,ZU,Z8,Z9,Zd,Ze,ZA,ZB,Zu,Zv,Zx,Zy,Zk,Zl,Zp,Zq,Zi,Zj,Zn,Zo,ZG,ZF,ZZ,Yg,ZE,h,h1,q,Prod.mk.injEq,and_true,true_and]
  exact ⟨fun _=>rfl,fun h=>absurd h (by decide)⟩
end Go.Proofs.Tryz
namespace Go.Proofs.Tryz
open Go Go.VM
def a62 (L:Lv) (I:List MtD × Unit→Ds [.sl En,It]→Prop) (mu:List MtD × Unit→Ds [.sl En,It]→Nat):Nat→LAnn
 | 0=>anE L [1,6,8,25,26,27] [(8,none,114,En)] [.h (.s 25 (.sl Mt))] [.r 8 En,.s 27 It] I mu
 | _=>.no
def n62 (L:Lv) (F:BxF) (I:List MtD × Unit→Ds [.sl En,It]→Prop) (mu:List MtD × Unit→Ds [.sl En,It]→Nat) (m:McD)  : VC :=
 let z1:=m.1;
 let z2:=z1.2;
 let z3:=(Prod.fst z1,z2.1,z2.2);
 let z4:=Prod.snd (BxF.ends F m);
 let z5:=(Prod.fst (BxF.ends F m),z4.1,z4.2,());
 let z6:=(BxF.all F (z3,m.2));
 let z7:=Ty.pair (Ty.pair (Ty.sl It) (Ty.sl Th)) Kp;
 let z8:=z6.1;
 let z9:=L.llen z7 z8;
 let z10:=L.cast z9;
 let z11:=z1.1;
 let z12:=z2.1;
 let z13:=z2.2;
 let z14:=m.2;
 let z15:=(Prod.fst z6,());
 let z16:=List Int × List (List Int) × List Int; .obl (BxF.bw F z3) (.br (L.cmp .neq (BxF.check F z3) 0) (.ok (([],0,BxF.check F z3,()) = z5)) (.obl (BxF.okM F
  (z3,m.2)) (.br (L.cmp .neq z6.2 0) (.ok (([],0,z6.2,()) = z5)) (.obl (St.mk 49 [(1,V.c (C.ptr 1 0)),(6,V.c (C.sl z7 z8)),(8,V.c
  (C.own 3 0)),(25,V.c (C.sl z7 z8)),(26,V.c (C.int .i64 z10)),(27,V.c (C.int .i64 0))] [(0,Ob.amb),(1,Ob.box 149 [C.sl It z11,C.sl (Ty.sl In) z12,C.int
  .i64 z13,C.sym z14]),(3,Ob.row 114 En [])] 4 = St.mk 49 [(1,V.c (C.ptr 1 0)),(6,V.c (C.sl z7 z8)),(8,V.c (C.own 3 (L.llen En []))),(25,V.c (C.sl z7 z8)),(26,
  V.c (C.int .i64 z10)),(27,V.c (C.int .i64 0))] [(0,Ob.amb),(1,Ob.box 149 [C.sl It z11,C.sl (Ty.sl In) z12,C.int .i64 z13,C.sym z14]),(3,Ob.row 114
  En [])] 4) (.obl (I z15 ([],0,())) (.all (List z16 × Int × Unit) fun (v1:List (List Int × List (List Int) × List Int) × Int × Unit) =>
 let z17:=v1.2.1;
 let z18:=Prod.fst (L.get z7 z8 (L.toN z17));
 let z19:=(Prod.fst z18,z18.2);
 let z20:=v1.1;
 let z21:=L.llen En z20;
 let z22:=L.take En z20 z21;
 let z23:=(BxF.endOf F (z3,m.2) z19);
 let z24:=z23.2;
 let z25:=(L.take En [(Prod.fst z23,z24.1,z24.2)] 1);
 let z26:=L.add (L.llen En z22) (L.llen En z25);
 let z27:=L.ar .add .i64 z17 1;
 let z28:=L.app En z22 z25;
 let z29:=(L.app En z22 z25,L.ar .add .i64 z17 1,());
 let z30:=(Prod.fst v1,L.ar .add .i64 z17 1,());
 let z31:=BxF.sort F z20;
 let z32:=BxF.comp F z31; .imp (I z15 v1) (.br (L.cmp .lss z17 z10) (.obl (L.inR z17 z9) (.obl (BxF.pE F z19 (z3,m.2)) (.br (BxF.ended F (z3,Prod.snd
  m) z19) (.obl (BxF.pEnd F (z3,m.2) z19) (.obl (L.room z26 72) (.ok (St.mk 49 [(1,V.c (C.ptr 1 0)),(6,V.c (C.sl z7 z8)),(8,V.c (C.own 3 z26)),(25,V.c (C.sl
  z7 z8)),(26,V.c (C.int .i64 z10)),(27,V.c (C.int .i64 z27))] [(0,Ob.amb),(1,Ob.box 149 [C.sl It z11,C.sl (Ty.sl In) z12,C.int .i64 z13,C.sym z14]),
  (3,Ob.row 114 En z28)] 4 = St.mk 49 [(1,V.c (C.ptr 1 0)),(6,V.c (C.sl z7 z8)),(8,V.c (C.own 3 (L.llen En z28))),(25,V.c (C.sl z7 z8)),(26,V.c (C.int .i64
  z10)),(27,V.c (C.int .i64 z27))] [(0,Ob.amb),(1,Ob.box 149 [C.sl It z11,C.sl (Ty.sl In) z12,C.int .i64 z13,C.sym z14]),(3,Ob.row 114 En z28)] 4∧I z15 z29
  ∧ mu z15 z29 < mu z15 v1)))) (.ok (St.mk 49 [(1,V.c (C.ptr 1 0)),(6,V.c (C.sl z7 z8)),(8,V.c (C.own 3 z21)),(25,V.c (C.sl z7 z8)),(26,V.c (C.int .i64 z10)),
  (27,V.c (C.int .i64 z27))] [(0,Ob.amb),(1,Ob.box 149 [C.sl It z11,C.sl (Ty.sl In) z12,C.int .i64 z13,C.sym z14]),(3,Ob.row 114 En z20)] 4 = St.mk 49 [(1,
  V.c (C.ptr 1 0)),(6,V.c (C.sl z7 z8)),(8,V.c (C.own 3 z21)),(25,V.c (C.sl z7 z8)),(26,V.c (C.int .i64 z10)),(27,V.c (C.int .i64 z27))] [(0,Ob.amb),(1,
  Ob.box 149 [C.sl It z11,C.sl (Ty.sl In) z12,C.int .i64 z13,C.sym z14]),(3,Ob.row 114 En z20)] 4∧I z15 z30∧mu z15 z30 < mu z15 v1))))) (.obl (114 = 114∧L.llen
  En z20 = L.llen En z20∧BxF.ble F z20) (.obl (114 = 114∧L.llen En z20 = L.llen En z31∧BxF.ble F z31) (.ok ((L.take En z32 (L.llen En z32),L.cast z9,0,
  ()) = z5)))))))))))
theorem n62_go (L:Lv) (F:BxF) (I:List MtD × Unit→Ds [.sl En,It]→Prop) (mu:List MtD × Unit→Ds [.sl En,It]→Nat) (m:McD) (h:VC.holds (n62 L F I mu m)):Holds (vcC L F [98,115,118,120,172,173] (D62 (a62 L I mu)) (S62 F) (m,())):=Holds.of_eq (by kernel_rfl) h
def n19 (L:Lv) (F:BxF) (p:WkD)  : VC :=
 let z1:=(Prod.fst p,p.2.1,p.2.2);
 let z2:=(BxF.ends F (z1,false));
 let z3:=z2.2;
 let z4:=(BxF.ends F (p,false));
 let z5:=z4.2; .obl (BxF.bM F (z1,false)) (.ok ((Prod.fst z2,z3.1,z3.2,()) = (Prod.fst z4,z5.1,z5.2,())))
theorem n19_go (L:Lv) (F:BxF) (p:WkD) (h:VC.holds (n19 L F p)):Holds (vcC L F [111] (D19 a0) (S19 F) (p,())):=Holds.of_eq (by kernel_rfl) h
theorem ok62 (F:BxF) (h:F.ends = endsG F.sort F.comp) (h1:F.ended = endedF) (h2:F.endOf = endOfF) (h4:F.all = allF) (h5:F.check = checkF) (hs:∀ l,(F.sort l).Perm l) (hp:F.bM = fun m=>bW m.1) (q:F.bw = bW) (q1:F.okM = fun m=>OkP m.1) (q2:F.pE = pEF) (q3:F.pEnd = fun m s=>bS s∧s.2.length≤m.1.2.1.length) (q4:F.ble = fun l=>l.length≤1000000∧∀ e ∈ l,sEn e) (k1:SpecOk prog 98 (S22 F)) (k2:SpecOk prog 115 (S66 F)) (k3:SpecOk prog 118 (S69 F)) (k4:SpecOk prog 120 (S71 F)) (k5:XOk prog 172 (R106 F).u) (k6:XOk prog 173 (R107 F).x):SpecOk prog 111 (S62 F):=by
 refine Zc hm hE D62 fnok62 _ fun (z:McD × Unit) hpre=>?_
 obtain ⟨⟨p,b⟩,⟨⟩⟩:=z
 have hpre':F.bM (p,b):=hpre
 rw [hp] at hpre'
 have g:bW p:=hpre'
 let I:List MtD × Unit→List EnD × Int × Unit→Prop:=fun e x=>(0≤x.2.1∧x.2.1≤e.1.length)∧x.1 = endsOf (p,b) (e.1.take x.2.1.toNat)
 let mu:List MtD × Unit→List EnD × Int × Unit→Nat:=fun e x=>(e.1.length - x.2.1).toNat
 refine Yp _ 3 (a62 Lv.std I mu) (Zs (T:=cT F) (l:=[98,115,118,120,172,173]) (Za (Yh k1 (by kernel_rfl)) (Za (Yh k2 (by kernel_rfl)) (Za (Yh k3 (by kernel_rfl)) (Za (Yh k4 (by kernel_rfl)) (Za (XB k5 (by kernel_rfl)) (Za (XB k6 (by kernel_rfl)) Z4))))))) ?_
 refine n62_go Lv.std F I mu (p,b) ?_
 have e1:∀ (l:List MtD) (k:Int),Lv.std.get Mt l k.toNat = (l[k.toNat]?).getD (([],[]),0,0):=fun _ _=>rfl
 simp only [n62,VC.holds,ZJ,ZO,Zb,Zh,Zm,Yj,Ym,Z5,ZM,Yl,Yk,Yf,ZX,ZY,ZT,ZR,Ye,ZN,Zz,ZD,Zr,Z1,ZS,Z2,ZK,ZW,Yb,ZV,ZP,ZQ,Zt,ZH,Ya,Z3,ZI,Yd,Yc,Z6,Z7,Zg,ZC,ZL,ZU,Z8,Z9,Zd,Ze,ZA,ZB,Zu,Zv,Zx,Zy,Zk,Zl,Zp,Zq,Zi,Zj,Zn,Zo,ZG,ZF,ZZ,Yg,ZE,e1,h1,h2,h4,h5,q,q1,q2,q3,pe5,List.take_length,List.take_succ_cons,List.take_zero,List.length_append,List.length_cons,List.length_nil,Nat.zero_add,Prod.mk.injEq,and_true,true_and]
 have hz:F.ends (p,b) = endsG F.sort F.comp (p,b):=by rw [h]
 refine ⟨g,fun hc=>?_,fun hc=>?_⟩
 ·rw [hz,endsG,if_pos hc]; exact ⟨rfl,rfl,rfl⟩
 have hP:OkP p:=(okP_iff p).1 hc
 refine ⟨hP,fun hA=>?_,fun hA=>?_⟩
 ·rw [hz,endsG,if_neg (by rw [show checkF ((p,b):McD).1 = 0 from hc]; simp),if_pos hA]; exact ⟨rfl,rfl,rfl⟩
 rw [hz,endsG,if_neg (by rw [show checkF ((p,b):McD).1 = 0 from hc]; simp),if_neg (by rw [hA]; simp)]
 have M:=all_ok hP hA
 generalize (allF (p,b)).1 = l at *
 have hlen:=M.len
 refine ⟨⟨⟨Int.le_refl 0,by show (0:Int)≤l.length; omega⟩,rfl⟩,?_⟩
 rintro ⟨o,x,⟨⟩⟩ ⟨⟨i1,i2⟩,i3⟩
 simp only at i1 i2 i3 ⊢
 obtain ⟨n,rfl⟩:=Yq i1
 rw [Int.toNat_natCast] at i3
 simp only [Int.toNat_natCast]
 have hol:=endsOf_len (p,b) l n
 rw [← i3] at hol
 refine ⟨fun hlt=>?_,fun hge=>?_⟩
 ·have hn:n < l.length:=by omega
  have hst:=endsOf_succ (p,b) l n hn
  have os:=M.ok _ (List.getElem_mem hn)
  rw [List.getElem?_eq_getElem hn,Option.getD_some,wr hlt (by omega)]
  have mul:∀ u,mu (l,()) (u,((n + 1:Nat):Int),()) < mu (l,()) (o,(n:Int),()):=fun u=>by show ((l.length:Int) - ((n + 1:Nat):Int)).toNat < ((l.length:Int) - (n:Int)).toNat; omega
  have hj0:(0:Int)≤((n + 1:Nat):Int):=by omega
  have hj1:((n + 1:Nat):Int)≤(l.length:Int):=by omega
  refine ⟨⟨i1,hlt⟩,ok_pE hP os,fun he=>⟨⟨ok_bS hP os,by have:=os.tl; omega⟩,⟨by omega,by omega⟩,⟨⟨hj0,hj1⟩,?_⟩,mul _⟩,fun he=>⟨⟨⟨hj0,hj1⟩,?_⟩,mul _⟩⟩
  ·show o ++ _ = endsOf (p,b) (l.take ((n + 1:Nat):Int).toNat)
   rw [Int.toNat_natCast,hst,if_pos he,i3]
  ·show o = endsOf (p,b) (l.take ((n + 1:Nat):Int).toNat)
   rw [Int.toNat_natCast,hst,if_neg (by rw [he]; simp),List.append_nil,i3]
 ·rw [show n = l.length by omega,List.take_length] at i3
  have hb:F.ble o:=by
   rw [q4]
   refine ⟨by omega,fun e he=>?_⟩
   rw [i3] at he
   obtain ⟨x,hx,rfl⟩:=List.mem_map.1 he
   exact ok_sEn hP (M.ok _ (List.mem_filter.1 hx).1)
  have hb2:F.ble (F.sort o):=by
   rw [q4] at hb ⊢
   exact ⟨by rw [(hs o).length_eq]; exact hb.1,fun e he=>hb.2 e ((hs o).mem_iff.1 he)⟩
  rw [← i3]
  refine ⟨hb,⟨(hs o).length_eq.symm,hb2⟩,?_⟩
  repeat' (first | exact rfl | trivial | constructor)
theorem ok19 (F:BxF) (hp:F.bM = fun m=>bW m.1) (q:F.bw = bW) (k1:SpecOk prog 111 (S62 F)):SpecOk prog 64 (S19 F):=by
 refine Zc hm hE D19 fnok19 _ fun (z:WkD × Unit) hpre=>?_
 obtain ⟨p,⟨⟩⟩:=z
 have hpre':F.bw p:=hpre
 rw [q] at hpre'
 refine Yp _ 3 a0 (Zs (T:=cT F) (l:=[111]) (Za (Yh k1 (by kernel_rfl)) Z4)) ?_
 refine n19_go Lv.std F p ?_
 simp only [n19,VC.holds,ZJ,ZO,Zb,Zh,Zm,Yj,Ym,Z5,ZM,Yl,Yk,Yf,ZX,ZY,ZT,ZR,Ye,ZN,Zz,ZD,Zr,Z1,ZS,Z2,ZK,ZW,Yb,ZV,ZP,ZQ,Zt,ZH,Ya,Z3,ZI,Yd,Yc,Z6,Z7,Zg,ZC,ZL,ZU,Z8,Z9,Zd,Ze,ZA,ZB,Zu,Zv,Zx,Zy,Zk,Zl,Zp,Zq,Zi,Zj,Zn,Zo,ZG,ZF,ZZ,Yg,ZE,Prod.mk.injEq,and_true,true_and]
 rw [hp]; exact hpre'
end Go.Proofs.Tryz
namespace Go.Proofs.Tryz
open Go Go.VM
def a20 (L:Lv) (I:Ds [.sl (.sl In),It]→Prop) (mu:Ds [.sl (.sl In),It]→Nat):Nat→LAnn
 | 0=>anH L [1,2,3,4] [(3,some 1,36,.sl In)] [.br 3 1 (.sl In),.s 4 It] I mu
 | _=>.no
def a25 (L:Lv) (I:Ds [.sl (.sl It),It]→Prop) (mu:Ds [.sl (.sl It),It]→Nat):Nat→LAnn
 | 0=>anH L [1,2,3,4] [(3,some 1,22,.sl It)] [.br 3 1 (.sl It),.s 4 It] I mu
 | _=>.no
def n20 (L:Lv) (F:BxF) (I:Ds [.sl (.sl In),It]→Prop) (mu:Ds [.sl (.sl In),It]→Nat) (p:WkD)  : VC :=
 let z1:=L.take It [] 0;
 let z2:=p.1;
 let z3:=L.add (L.llen It z1) (L.llen It z2);
 let z4:=p.2;
 let z5:=z4.1;
 let z6:=z4.2;
 let z7:=L.app It z1 z2;
 let z8:=List (Int × Int × Int × Int × Int × Int);
 let z9:=L.llen (Ty.sl In) z5;
 let z10:=L.take In [] 0;
 let z11:=L.llen In z10; .obl (L.room z3 8) (.obl (St.mk 32 [(1,V.c (C.ptr 1 0)),(2,V.c (C.ptr 2 0)),(3,V.c (C.ptr 3 0)),(4,V.c (C.int .i64 0))] [(0,
  Ob.amb),(1,Ob.box 50 [C.sl It z2,C.sl (Ty.sl In) z5,C.int .i64 z6]),(2,Ob.box 50 [C.nils,C.nils,C.int .i64 0]),(3,Ob.box 50 [C.own 5 z3,C.own 7 0,C.int
  .i64 z6]),(5,Ob.row 3 It z7),(7,Ob.row 36 (Ty.sl In) [])] 8 = St.mk 32 [(1,V.c (C.ptr 1 0)),(2,V.c (C.ptr 2 0)),(3,V.c (C.ptr 3 0)),(4,V.c (C.int .i64
  0))] [(0,Ob.amb),(1,Ob.box 50 [C.sl It z2,C.sl (Ty.sl In) z5,C.int .i64 z6]),(2,Ob.box 50 [C.nils,C.nils,C.int .i64 0]),(3,Ob.box 50 [C.own 5 z3,C.own 7
  (L.llen (Ty.sl In) []),C.int .i64 z6]),(5,Ob.row 3 It z7),(7,Ob.row 36 (Ty.sl In) [])] 8) (.obl (I ([],0,())) (.all (List z8 × Int × Unit) fun (v1:List
  (List (Int × Int × Int × Int × Int × Int)) × Int × Unit) =>
 let z12:=v1.2.1;
 let z13:=L.get (Ty.sl In) z5 (L.toN z12);
 let z14:=L.add z11 (L.llen In z13);
 let z15:=v1.1;
 let z16:=L.llen (Ty.sl In) z15;
 let z17:=L.take (Ty.sl In) z15 z16;
 let z18:=L.take (Ty.sl In) [L.take In (L.app In z10 z13) z14] 1;
 let z19:=L.add (L.llen (Ty.sl In) z17) (L.llen (Ty.sl In) z18);
 let z20:=L.ar .add .i64 z12 1;
 let z21:=L.app (Ty.sl In) z17 z18;
 let z22:=(L.app (Ty.sl In) z17 z18,L.ar .add .i64 z12 1,()); .imp (I v1) (.br (L.cmp .lss z12 (L.cast z9)) (.obl (L.inR z12 z9) (.obl
  (L.room z14 48) (.obl (L.room z19 24) (.ok (St.mk 32 [(1,V.c (C.ptr 1 0)),(2,V.c (C.ptr 2 0)),(3,V.c (C.ptr 3 0)),(4,V.c (C.int .i64 z20))] [(0,Ob.amb),
  (1,Ob.box 50 [C.sl It z2,C.sl (Ty.sl In) z5,C.int .i64 z6]),(2,Ob.box 50 [C.nils,C.nils,C.int .i64 0]),(3,Ob.box 50 [C.own 5 z3,C.own 7 z19,C.int
  .i64 z6]),(5,Ob.row 3 It z7),(7,Ob.row 36 (Ty.sl In) z21)] 8 = St.mk 32 [(1,V.c (C.ptr 1 0)),(2,V.c (C.ptr 2 0)),(3,V.c (C.ptr 3 0)),(4,V.c (C.int .i64
  z20))] [(0,Ob.amb),(1,Ob.box 50 [C.sl It z2,C.sl (Ty.sl In) z5,C.int .i64 z6]),(2,Ob.box 50 [C.nils,C.nils,C.int .i64 0]),(3,Ob.box 50 [C.own 5 z3,C.own
  7 (L.llen (Ty.sl In) z21),C.int .i64 z6]),(5,Ob.row 3 It z7),(7,Ob.row 36 (Ty.sl In) z21)] 8∧I z22∧mu z22 < mu v1))))) (.ok (((L.take It z7 z3,L.take
  (Ty.sl In) z15 z16,z4.2),()) = (p,())))))))
theorem n20_go (L:Lv) (F:BxF) (I:Ds [.sl (.sl In),It]→Prop) (mu:Ds [.sl (.sl In),It]→Nat) (p:WkD) (h:VC.holds (n20 L F I mu p)):Holds (vcC L F [] (D20 (a20 L I mu)) (S20 F) (p,())):=Holds.of_eq (by kernel_rfl) h
theorem ok20 (F:BxF) (hp:F.bw = bW):SpecOk prog 50 (S20 F):=by
 refine Zc hm hE D20 fnok20 _ fun (z:WkD × Unit) hpre=>?_
 obtain ⟨p,⟨⟩⟩:=z
 have hpre':F.bw p:=hpre
 rw [hp] at hpre'
 obtain ⟨g1,g2,g3⟩:=hpre'
 let I:List (List InD) × Int × Unit→Prop:=fun x=>(0≤x.2.1∧x.2.1≤p.2.1.length)∧x.1 = p.2.1.take x.2.1.toNat
 let mu:List (List InD) × Int × Unit→Nat:=fun x=>(p.2.1.length - x.2.1).toNat
 refine Yp _ 3 (a20 Lv.std I mu) (Zs (T:=cT F) (l:=[]) Z4) ?_
 refine n20_go Lv.std F I mu p ?_
 simp only [n20,VC.holds,ZJ,ZO,Zb,Zh,Zm,Yj,Ym,Z5,ZM,Yl,Yk,Yf,ZX,ZY,ZT,ZR,Ye,ZN,Zz,ZD,Zr,Z1,ZS,Z2,ZK,ZW,Yb,ZV,ZP,ZQ,Zt,ZH,Ya,Z3,ZI,Yd,Yc,Z6,Z7,Zg,ZC,ZL,ZU,Z8,Z9,Zd,Ze,ZA,ZB,Zu,Zv,Zx,Zy,Zk,Zl,Zp,Zq,Zi,Zj,Zn,Zo,ZG,ZF,ZZ,Yg,ZE,List.take_length,List.take_succ_cons,List.take_zero,List.take_nil,List.nil_append,List.length_append,List.length_cons,List.length_nil,Nat.zero_add,pe5,Prod.mk.injEq,and_true,true_and]
 refine ⟨⟨by omega,by omega⟩,⟨⟨Int.le_refl 0,by show (0:Int)≤p.2.1.length; omega⟩,rfl⟩,?_⟩
 rintro ⟨l,x,⟨⟩⟩ ⟨⟨i1,i2⟩,i3⟩
 simp only at i1 i2 i3 ⊢
 obtain ⟨k,rfl⟩:=Yq i1
 rw [Int.toNat_natCast] at i3
 subst i3
 have hl:(p.2.1.take k).length = k:=by rw [List.length_take]; omega
 rw [hl,Int.toNat_natCast]
 refine ⟨fun hlt=>?_,fun hge=>?_⟩
 ·have hk:k < p.2.1.length:=by omega
  rw [wr hlt g2,List.getElem?_eq_getElem hk,Option.getD_some]
  have b1:=g3 _ (List.getElem_mem hk)
  refine ⟨⟨i1,hlt⟩,⟨by omega,by omega⟩,⟨by omega,by omega⟩,⟨⟨by show (0:Int)≤((k + 1:Nat):Int); omega,by show ((k + 1:Nat):Int)≤_; omega⟩,?_⟩,by show ((p.2.1.length:Int) - ((k + 1:Nat):Int)).toNat < ((p.2.1.length:Int) - k).toNat; omega⟩
  show p.2.1.take k ++ [p.2.1[k]] = p.2.1.take ((k + 1:Nat):Int).toNat
  rw [Int.toNat_natCast,List.take_succ,List.getElem?_eq_getElem hk]; rfl
 ·rw [List.take_of_length_le (by omega)]
end Go.Proofs.Tryz
namespace Go.Proofs.Tryz
open Go Go.VM
def a22 (L:Lv) (I0 I2 I4:Ds [It]→Prop) (m0 m2 m4:Ds [It]→Nat) (I6:Int × Unit→Ds [It]→Prop) (m6:Int × Unit→Ds [It]→Nat):Nat→LAnn
 | 0=>anH L [1,3] [] [.s 3 It] I0 m0
 | 2=>anH L [1,4] [] [.s 4 It] I2 m2
 | 4=>anH L [1,5] [] [.s 5 It] I4 m4
 | 6=>anE L [1,5,6] [] [.h (.s 5 It)] [.s 6 It] I6 m6
 | _=>.no
end Go.Proofs.Tryz
