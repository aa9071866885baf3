/- What functions of the weak memory compute, proved through the condition generator, and plain facts of it. Conditions: none of ours. -/
import Derived.Shelf.SlSortCmp.NoneTotal
import Derived.Ground.SlsfProg
import Derived.Test.YthfjgaifdadgnaaGreatProg
import Derived.Test.YthfjgaifdadgnaaGreatK19
import Derived.Test.YthfjgaifdadgnaaGreatK21
namespace Go.Proofs
open Go.Shelf
def Tryz.sortL_ren : Go.Shelf.Ren := ⟨fun | 6 => 106 | 15 => 132 | 14 => 131 | 28 => 155 | 29 => 156 | 20 => 147 | 21 => 148 | 22 => 149 | 23 => 150 | 24 => 151 | 25 => 152 | 26 => 153 | 27 => 154 | 46 => 164 | 47 => 165 | 48 => 166 | 49 => 167 | 50 => 168 | 57 => 169 | n => n, fun | 22 => 28 | 24 => 38 | 25 => 115 | 3 => 3 | 39 => 184 | 0 => 0 | 53 => 212 | 55 => 214 | 4 => 4 | 46 => 206 | 45 => 205 | 50 => 146 | 5 => 5 | 9 => 9 | 66 => 218 | 70 => 222 | 76 => 224 | 77 => 225 | n => n, fun | n => n⟩
theorem Tryz.sortL : Go.Proofs.SlLaysF0.n6 Tryz.prog Tryz.sortL_ren := {
  mixed := by kernel_rfl
  f6 := ⟨Tryz.f106.name, by decide, Tryz.func106.trans (congrArg some (by kernel_rfl))⟩
  f14 := ⟨Tryz.f131.name, by decide, Tryz.func131.trans (congrArg some (by kernel_rfl))⟩
  f15 := Tryz.func132.trans (congrArg some (by kernel_rfl))
  f20 := ⟨Tryz.f147.name, by decide, Tryz.func147.trans (congrArg some (by kernel_rfl))⟩
  f21 := ⟨Tryz.f148.name, by decide, Tryz.func148.trans (congrArg some (by kernel_rfl))⟩
  f22 := ⟨Tryz.f149.name, by decide, Tryz.func149.trans (congrArg some (by kernel_rfl))⟩
  f23 := ⟨Tryz.f150.name, by decide, Tryz.func150.trans (congrArg some (by kernel_rfl))⟩
  f24 := ⟨Tryz.f151.name, by decide, Tryz.func151.trans (congrArg some (by kernel_rfl))⟩
  f25 := ⟨Tryz.f152.name, by decide, Tryz.func152.trans (congrArg some (by kernel_rfl))⟩
  f26 := ⟨Tryz.f153.name, by decide, Tryz.func153.trans (congrArg some (by kernel_rfl))⟩
  f27 := ⟨Tryz.f154.name, by decide, Tryz.func154.trans (congrArg some (by kernel_rfl))⟩
  f28 := Tryz.func155.trans (congrArg some (by kernel_rfl))
  f29 := Tryz.func156.trans (congrArg some (by kernel_rfl))
  f46 := ⟨Tryz.f164.name, by decide, Tryz.func164.trans (congrArg some (by kernel_rfl))⟩
  f47 := Tryz.func165.trans (congrArg some (by kernel_rfl))
  f48 := Tryz.func166.trans (congrArg some (by kernel_rfl))
  f49 := ⟨Tryz.f167.name, by decide, Tryz.func167.trans (congrArg some (by kernel_rfl))⟩
  f50 := ⟨Tryz.f168.name, by decide, Tryz.func168.trans (congrArg some (by kernel_rfl))⟩
  f57 := ⟨Tryz.f169.name, by decide, Tryz.func169.trans (congrArg some (by kernel_rfl))⟩
  t0 := Tryz.underlying0
  a0 := Tryz.isAgg0
  z0 := Tryz.sizeOf0
  v0 := Tryz.zeroValue0
  t3 := Tryz.underlying3
  a3 := Tryz.isAgg3
  z3 := Tryz.sizeOf3
  v3 := Tryz.zeroValue3
  t4 := Tryz.underlying4
  a4 := Tryz.isAgg4
  z4 := Tryz.sizeOf4
  v4 := Tryz.zeroValue4
  t5 := Tryz.underlying5
  a5 := Tryz.isAgg5
  z5 := Tryz.sizeOf5
  v5 := Tryz.zeroValue5
  t9 := Tryz.underlying9
  a9 := Tryz.isAgg9
  z9 := Tryz.sizeOf9
  v9 := Tryz.zeroValue9
  t22 := Tryz.underlying28
  a22 := Tryz.isAgg28
  z22 := Tryz.sizeOf28
  v22 := Tryz.zeroValue28
  t25 := Tryz.underlying115
  a25 := Tryz.isAgg115
  z25 := Tryz.sizeOf115
  v25 := Tryz.zeroValue115
  t39 := Tryz.underlying184
  a39 := Tryz.isAgg184
  z39 := Tryz.sizeOf184
  v39 := Tryz.zeroValue184
  t45 := Tryz.underlying205
  a45 := Tryz.isAgg205
  z45 := Tryz.sizeOf205
  v45 := Tryz.zeroValue205
  t46 := Tryz.underlying206
  a46 := Tryz.isAgg206
  z46 := Tryz.sizeOf206
  v46 := Tryz.zeroValue206
  t50 := Tryz.underlying146
  a50 := Tryz.isAgg146
  z50 := Tryz.sizeOf146
  v50 := Tryz.zeroValue146
  t53 := Tryz.underlying212
  a53 := Tryz.isAgg212
  z53 := Tryz.sizeOf212
  v53 := Tryz.zeroValue212
  t55 := Tryz.underlying214
  a55 := Tryz.isAgg214
  z55 := Tryz.sizeOf214
  v55 := Tryz.zeroValue214
  t66 := Tryz.underlying218
  a66 := Tryz.isAgg218
  z66 := Tryz.sizeOf218
  v66 := Tryz.zeroValue218
  t70 := Tryz.underlying222
  a70 := Tryz.isAgg222
  z70 := Tryz.sizeOf222
  v70 := Tryz.zeroValue222
  t76 := Tryz.underlying224
  a76 := Tryz.isAgg224
  z76 := Tryz.sizeOf224
  v76 := Tryz.zeroValue224
  t77 := Tryz.underlying225
  a77 := Tryz.isAgg225
  z77 := Tryz.sizeOf225
  v77 := Tryz.zeroValue225 }
end Go.Proofs
set_option autoImplicit false
set_option linter.all false
namespace Go.Proofs.Tryz
open Go Go.VM
set_option maxRecDepth 100000
theorem sortC : SortC prog 106 3 := fun α _ enc hk h1 cf hO c cb blk off cap d w eg hcmp hH hblk hsz =>
  Go.Proofs.AnyQ.slices_SortFunc sortL 3 isAgg38 sizeOf38 enc hk h1 cf hO c cb blk off cap d w eg hcmp hH hblk hsz
theorem sortN : SortN prog 106 := fun p cap fv w => Go.Proofs.AnyF.slices_SortFunc_none { sortL with } p cap fv w
theorem ok106 (F : BxF) (h : F.sort = fun l => List.mergeSort (α := EnD) l fun x y => !(Go.Proofs.ltOf cmpEF) y x) (h1 : F.cmpE = cmpEF) (q : F.be = sEn) (q1 : F.ble = fun l => l.length ≤ 1000000 ∧ ∀ e ∈ l, sEn e) (k : SpecOk prog 70 (S70 F)) : XOk prog 106 (R106 F).u := by
  have hk : SpecOk prog 70 ⟨[En, En], [.int .i64], fun x => sEn x.1, fun x => (cmpEF x.1 x.2.1, ())⟩ := by
    have : S70 F = ⟨[En, En], [.int .i64], fun x => sEn x.1, fun x => (cmpEF x.1 x.2.1, ())⟩ := by unfold S70; rw [h1, q]
    rw [← this]; exact k
  have hR : R106 F = ⟨38, En, [], fun l _ => List.length (α := En.D) l ≤ 1000000 ∧ ∀ x ∈ l, sEn x, fun l _ => List.mergeSort (α := En.D) l fun x y => !(Go.Proofs.ltOf cmpEF) y x, [70]⟩ := by unfold R106; rw [h, q1]
  rw [hR]
  refine sortU_ok 38 En cmpEF sEn 1000000 106 70 ?_ rfl (by decide) (by decide) hk ?_ cmpE_ord.swo cmpE_ord.tot sortC sortN
  · exact ⟨_, func106, rfl, rfl⟩
  · exact Go.Proofs.enters_of func70 (by kernel_rfl) rfl
end Go.Proofs.Tryz
set_option autoImplicit false
set_option linter.all false
namespace Go.Proofs.Tryz
open Go Go.VM
set_option maxRecDepth 100000
def S108 (F : BxF) : VM.Spec := ⟨[En, En], [.bool], fun x => F.be x.1, fun x => (F.sameE x.1 x.2.1, ())⟩
noncomputable def o107 (F : BxF) : List (Nat × FT) := [(108, .spec (S108 F))]
def a107 (L : Lv) (I : List EnD × Unit → Ds [It] → Prop) (mu : List EnD × Unit → Ds [It] → Nat) (I2 : List EnD × Int × Unit → Ds [.sl En, It, It] → Prop) (m2 : List EnD × Int × Unit → Ds [.sl En, It, It] → Nat) : Nat → LAnn
  | 0 => anE L [0, 1, 5] [] [.h (.ri 0 En)] [.s 5 It] I mu
  | 2 => anE L [0, 1, 5, 6, 7] [] [.h (.ri 0 En), .h (.s 5 It)] [.ri 0 En, .s 5 It, .s 7 It] I2 m2
  | _ => .no
def n108 (L : Lv) (F : BxF) (a b : EnD)  : VC :=
 let z1 := (Prod.fst a, Prod.fst (Prod.snd a), Prod.snd (Prod.snd a));
 let z2 := (BxF.sameE F a b, ()); VC.obl (BxF.be F z1) (VC.br (Lv.cmp L BinOp.eql (BxF.cmpE F z1 (Prod.fst b, Prod.fst (Prod.snd b), Prod.snd (Prod.snd b))) 0) (VC.ok ((true, ()) =
   z2)) (VC.ok ((false, ()) = z2)))
theorem n108_eq (L : Lv) (F : BxF) (a b : EnD) : vcC L F [70] (D108 a0) (S108 F) (a, b, ()) = n108 L F a b := by kernel_rfl
theorem n108_go (L : Lv) (F : BxF) (a b : EnD) (h : VC.holds (n108 L F a b)) : Holds (vcC L F [70] (D108 a0) (S108 F) (a, b, ())) := Holds.of_eq (n108_eq L F a b) h
def n107 (L : Lv) (F : BxF) (I : List EnD × Unit → Ds [It] → Prop) (mu : List EnD × Unit → Ds [It] → Nat) (I2 : List EnD × Int × Unit → Ds [.sl En, It, It] → Prop) (m2 : List EnD × Int × Unit → Ds [.sl En, It, It] → Nat) (a : List EnD)  : VC :=
 let z1 := Lv.llen L En a;
 let z2 := Lv.cast L z1;
 let z3 := List Int × List (List Int) × List Int; VC.br (Lv.cmp L BinOp.lss z2 2) (VC.ok (38 = 38 ∧ Lv.take L En a z1 = BxF.comp F a)) (VC.obl (St.mk 66 [(0, V.c (C.own 1 z1)), (1,
   V.c (C.fn 108 [])), (5, V.c (C.int IntKind.i64 1))] [(0, Ob.amb), (1, Ob.row 38 En a)] 2 = St.mk 66 [(0, V.c (C.own 1 z1)), (1, V.c (C.fn 108 [])), (5, V.c (C.int IntKind.i64
   1))] [(0, Ob.amb), (1, Ob.row 38 En a)] 2) (VC.obl (I (a, ()) (1, ())) (VC.all (Int × Unit) fun (v1 : Int × Unit) =>
 let z4 := Prod.fst v1;
 let z5 := Lv.toN L z4;
 let z6 := Lv.ar L BinOp.sub IntKind.i64 z4 1;
 let z7 := Lv.toN L z6;
 let z8 := Lv.get L En a z5;
 let z9 := Prod.snd z8;
 let z10 := (Prod.fst z8, Prod.fst z9, Prod.snd z9);
 let z11 := Lv.get L En a z7;
 let z12 := Prod.snd z11;
 let z13 := Lv.sub L z1 z5;
 let z14 := Lv.ar L BinOp.add IntKind.i64 z4 1;
 let z15 := (Lv.ar L BinOp.add IntKind.i64 z4 1, ()); VC.imp (I (a, ()) v1) (VC.br (Lv.cmp L BinOp.lss z4 z2) (VC.obl (Lv.inR L z4 z1) (VC.obl (Lv.ltN L z5 z1) (VC.obl (Lv.inR L z6
   z1) (VC.obl (Lv.ltN L z7 z1) (VC.obl (BxF.be F z10) (VC.br (BxF.sameE F z10 (Prod.fst z11, Prod.fst z12, Prod.snd z12)) (VC.obl (Lv.le3 L z4 z2 z1) (VC.obl (St.mk 66 [(0, V.c
   (C.own 1 z1)), (1, V.c (C.fn 108 [])), (5, V.c (C.int IntKind.i64 z4)), (6, V.c (C.owa 1 z5 z13)), (7, V.c (C.int IntKind.i64 1))] [(0, Ob.amb), (1, Ob.row 38 En a)] 2 = St.mk 66
   [(0, V.c (C.own 1 z1)), (1, V.c (C.fn 108 [])), (5, V.c (C.int IntKind.i64 z4)), (6, V.c (C.owa 1 z5 z13)), (7, V.c (C.int IntKind.i64 1))] [(0, Ob.amb), (1, Ob.row 38 En a)] 2)
   (VC.obl (I2 (a, Prod.fst v1, ()) (a, Prod.fst v1, 1, ())) (VC.all (List z3 × Int × Int × Unit) fun (v2 : List (List Int × List (List Int) × List Int) × Int × Int × Unit) =>
 let z16 := Prod.snd v2;
 let z17 := Prod.fst (Prod.snd z16);
 let z18 := Lv.inR L z17 z13;
 let z19 := Lv.add L z5 (Lv.toN L z17);
 let z20 := Prod.fst v2;
 let z21 := Lv.llen L En z20;
 let z22 := Lv.ltN L z19 z21;
 let z23 := Lv.ar L BinOp.sub IntKind.i64 z17 1;
 let z24 := Lv.add L z5 (Lv.toN L z23);
 let z25 := Lv.get L En z20 z19;
 let z26 := Prod.snd z25;
 let z27 := (Prod.fst z25, Prod.fst z26, Prod.snd z26);
 let z28 := Lv.get L En z20 z24;
 let z29 := Prod.snd z28;
 let z30 := Prod.fst z16;
 let z31 := Lv.ar L BinOp.add IntKind.i64 z17 1;
 let z32 := (Prod.fst v2, Prod.fst z16, Lv.ar L BinOp.add IntKind.i64 z17 1, ());
 let z33 := Lv.toN L z30;
 let z34 := Lv.ar L BinOp.add IntKind.i64 z30 1;
 let z35 := Lv.setl L En z20 z33 z27;
 let z36 := (Lv.setl L En z20 z33 z27, Lv.ar L BinOp.add IntKind.i64 z30 1, Lv.ar L BinOp.add IntKind.i64 z17 1, ());
 let z37 := Lv.sub L z1 z33; VC.imp (I2 (a, Prod.fst v1, ()) v2) (VC.br (Lv.cmp L BinOp.lss z17 (Lv.cast L z13)) (VC.obl z18 (VC.obl z22 (VC.obl (Lv.inR L z23 z13) (VC.obl (Lv.ltN L
   z24 z21) (VC.obl (BxF.be F z27) (VC.br (BxF.sameE F z27 (Prod.fst z28, Prod.fst z29, Prod.snd z29)) (VC.ok (St.mk 66 [(0, V.c (C.own 1 z1)), (1, V.c (C.fn 108 [])), (5, V.c
   (C.int IntKind.i64 z30)), (6, V.c (C.owa 1 z5 z13)), (7, V.c (C.int IntKind.i64 z31))] [(0, Ob.amb), (1, Ob.row 38 En z20)] 2 = St.mk 66 [(0, V.c (C.own 1 z1)), (1, V.c (C.fn 108
   [])), (5, V.c (C.int IntKind.i64 z30)), (6, V.c (C.owa 1 z5 z13)), (7, V.c (C.int IntKind.i64 z31))] [(0, Ob.amb), (1, Ob.row 38 En z20)] 2 ∧ I2 (a, Prod.fst v1, ()) z32 ∧ m2 (a,
   Prod.fst v1, ()) z32 < m2 (a, Prod.fst v1, ()) v2)) (VC.obl z18 (VC.obl z22 (VC.obl (Lv.inR L z30 z1) (VC.obl (Lv.ltN L z33 z21) (VC.ok (St.mk 66 [(0, V.c (C.own 1 z1)), (1, V.c
   (C.fn 108 [])), (5, V.c (C.int IntKind.i64 z34)), (6, V.c (C.owa 1 z5 z13)), (7, V.c (C.int IntKind.i64 z31))] [(0, Ob.amb), (1, Ob.row 38 En z35)] 2 = St.mk 66 [(0, V.c (C.own 1
   z1)), (1, V.c (C.fn 108 [])), (5, V.c (C.int IntKind.i64 z34)), (6, V.c (C.owa 1 z5 z13)), (7, V.c (C.int IntKind.i64 z31))] [(0, Ob.amb), (1, Ob.row 38 En z35)] 2 ∧ I2 (a,
   Prod.fst v1, ()) z36 ∧ m2 (a, Prod.fst v1, ()) z36 < m2 (a, Prod.fst v1, ()) v2)))))))))))) (VC.obl (Lv.le3 L z30 z2 z1) (VC.obl (Lv.ltN L 0 z37 ∧ Lv.add L z33 z37 = Lv.llen L En
   z20) (VC.obl (Lv.le3 L (Lv.cast L 0) z30 z1) (VC.ok (38 = 38 ∧ Lv.take L En (Lv.app L En (Lv.take L En z20 z33) (Lv.rep L En z37 ([], [], []))) z33 = BxF.comp F a))))))))))
   (VC.ok (St.mk 66 [(0, V.c (C.own 1 z1)), (1, V.c (C.fn 108 [])), (5, V.c (C.int IntKind.i64 z14))] [(0, Ob.amb), (1, Ob.row 38 En a)] 2 = St.mk 66 [(0, V.c (C.own 1 z1)), (1, V.c
   (C.fn 108 [])), (5, V.c (C.int IntKind.i64 z14))] [(0, Ob.amb), (1, Ob.row 38 En a)] 2 ∧ I (a, ()) z15 ∧ mu (a, ()) z15 < mu (a, ()) v1)))))))) (VC.ok (38 = 38 ∧ Lv.take L En a
   z1 = BxF.comp F a))))))
theorem n107_eq (L : Lv) (F : BxF) (I : List EnD × Unit → Ds [It] → Prop) (mu : List EnD × Unit → Ds [It] → Nat) (I2 : List EnD × Int × Unit → Ds [.sl En, It, It] → Prop) (m2 : List EnD × Int × Unit → Ds [.sl En, It, It] → Nat) (a : List EnD) : vcT L F (o107 F) [108] (D107 (a107 L I mu I2 m2)) (R107 F) a () = n107 L F I mu I2 m2 a := by kernel_rfl
theorem n107_go (L : Lv) (F : BxF) (I : List EnD × Unit → Ds [It] → Prop) (mu : List EnD × Unit → Ds [It] → Nat) (I2 : List EnD × Int × Unit → Ds [.sl En, It, It] → Prop) (m2 : List EnD × Int × Unit → Ds [.sl En, It, It] → Nat) (a : List EnD) (h : VC.holds (n107 L F I mu I2 m2 a)) : Holds (vcT L F (o107 F) [108] (D107 (a107 L I mu I2 m2)) (R107 F) a ()) := Holds.of_eq (n107_eq L F I mu I2 m2 a) h
def n107n (L : Lv) (F : BxF) (I : List EnD × Unit → Ds [It] → Prop) (mu : List EnD × Unit → Ds [It] → Nat) (I2 : List EnD × Int × Unit → Ds [.sl En, It, It] → Prop) (m2 : List EnD × Int × Unit → Ds [.sl En, It, It] → Nat)  : VC :=
 let z1 := (BxF.comp F [] = []); VC.br (Lv.cmp L BinOp.lss 0 2) (VC.ok z1) (VC.obl (St.mk 66 [(0, V.c C.nils), (1, V.c (C.fn 108 [])), (5, V.c (C.int IntKind.i64 1))] [(0, Ob.amb)]
   1 = St.mk 66 [(0, V.c C.nils), (1, V.c (C.fn 108 [])), (5, V.c (C.int IntKind.i64 1))] [(0, Ob.amb)] 1) (VC.obl (I ([], ()) (1, ())) (VC.all (Int × Unit) fun (v1 : Int × Unit) =>
   VC.imp (I ([], ()) v1) (VC.br (Lv.cmp L BinOp.lss (Prod.fst v1) 0) VC.bad (VC.ok z1)))))
theorem n107n_eq (L : Lv) (F : BxF) (I : List EnD × Unit → Ds [It] → Prop) (mu : List EnD × Unit → Ds [It] → Nat) (I2 : List EnD × Int × Unit → Ds [.sl En, It, It] → Prop) (m2 : List EnD × Int × Unit → Ds [.sl En, It, It] → Nat) : vcTn L F (o107 F) [108] (D107 (a107 L I mu I2 m2)) (R107 F) () = n107n L F I mu I2 m2 := by kernel_rfl
theorem n107n_go (L : Lv) (F : BxF) (I : List EnD × Unit → Ds [It] → Prop) (mu : List EnD × Unit → Ds [It] → Nat) (I2 : List EnD × Int × Unit → Ds [.sl En, It, It] → Prop) (m2 : List EnD × Int × Unit → Ds [.sl En, It, It] → Nat) (h : VC.holds (n107n L F I mu I2 m2)) : Holds (vcTn L F (o107 F) [108] (D107 (a107 L I mu I2 m2)) (R107 F) ()) := Holds.of_eq (n107n_eq L F I mu I2 m2) h
theorem ok108 (F : BxF) (h : F.sameE = fun a b => decide (a = b)) (h1 : F.cmpE = cmpEF) (k1 : SpecOk prog 70 (S70 F)) : SpecOk prog 108 (S108 F) := by
  refine contract_by hm hE D108 fnok108 _ fun (z : EnD × EnD × Unit) hpre => ?_
  obtain ⟨a, b, ⟨⟩⟩ := z
  have hpre' : F.be a := hpre
  refine pack _ 3 a0 (only_tab (T := cT F) (l := [70]) (tb_cons (tb_sp k1 (by kernel_rfl)) tb_nil)) ?_
  refine n108_go Lv.std F a b ?_
  simp only [n108, VC.holds, std_cmp, std_scmp, std_ar_add, std_ar_sub, std_ar_mul, std_ar, std_dv, std_shf, std_conv, std_mn, std_mx, std_beq, std_bnot, std_band, std_scat, std_byte, std_ext, std_slen, std_strOf, std_bytes, std_llen, std_get, std_setl, std_app, std_take, std_drop, std_rep, std_mhas, std_mval, std_mput, std_cast, std_toN, std_sub, std_add, std_inR, std_le3, std_leN, std_ltN, std_ne0, std_nonneg, std_catOk, std_room, std_mkOk, std_nth, std_cnt, cmp_lss_t, cmp_lss_f, cmp_leq_t, cmp_leq_f, cmp_gtr_t, cmp_gtr_f, cmp_geq_t, cmp_geq_f, cmp_eql_t, cmp_eql_f, cmp_neq_t, cmp_neq_f, scmp_eql_t, scmp_eql_f, scmp_neq_t, scmp_neq_f, dflt_int, dflt_bool, dflt_str, dflt_sl, dflt_pair, h, h1, Prod.mk.injEq, and_true, true_and]
  exact ⟨hpre', fun h => (decide_eq_true ((cmpE_eq a b).1 h)).symm, fun h => (decide_eq_false (fun e => h ((cmpE_eq a b).2 e))).symm⟩
theorem compL_lt2 (a : List EnD) (h : a.length < 2) : compL a = a := by
  match a, h with
  | [], _ => rfl
  | [x], _ => rfl
theorem ok107 (F : BxF) (h : F.comp = compL) (h1 : F.sameE = fun a b => decide (a = b)) (q : F.be = sEn) (q1 : F.ble = fun l => l.length ≤ 1000000 ∧ ∀ e ∈ l, sEn e) (k1 : SpecOk prog 108 (S108 F)) : XOk prog 107 (R107 F).x := by
  let I : List EnD × Unit → Int × Unit → Prop := fun e x => (1 ≤ x.1 ∧ x.1 ≤ e.1.length) ∧ compL (e.1.take x.1.toNat) = e.1.take x.1.toNat
  let mu : List EnD × Unit → Int × Unit → Nat := fun e x => (e.1.length - x.1).toNat
  let I2 : List EnD × Int × Unit → List EnD × Int × Int × Unit → Prop := fun e x => (1 ≤ x.2.2.1 ∧ e.2.1 + x.2.2.1 ≤ e.1.length) ∧ (1 ≤ e.2.1 ∧ e.2.1 ≤ x.2.1 ∧ x.2.1 < e.2.1 + x.2.2.1) ∧ x.1.length = e.1.length ∧ x.1.take x.2.1.toNat = compL (e.1.take (e.2.1 + x.2.2.1).toNat) ∧ ∀ q : Nat, e.2.1 + x.2.2.1 - 1 ≤ q → x.1[q]? = e.1[q]?
  let m2 : List EnD × Int × Unit → List EnD × Int × Int × Unit → Nat := fun e x => (e.1.length - x.2.2.1).toNat
  refine turnX_ok hm hE 4 (fns := only (tabO (o107 F) (cT F)) [108]) (only_tab (tb_cons (tb_sp k1 (by kernel_rfl)) tb_nil)) (fnok107 (a107 Lv.std I mu I2 m2)) (fnok107 (a107 Lv.std I mu I2 m2)) (R107 F) (fun (a : List EnD) (z : Unit) hpre => ?_) (fun (z : Unit) hpre => ?_)
  · have hpre' : F.ble a := hpre
    rw [q1] at hpre'
    obtain ⟨g1, g2⟩ := hpre'
    refine n107_go Lv.std F I mu I2 m2 a ?_
    simp only [n107, VC.holds, std_cmp, std_scmp, std_ar_add, std_ar_sub, std_ar_mul, std_ar, std_dv, std_shf, std_conv, std_mn, std_mx, std_beq, std_bnot, std_band, std_scat, std_byte, std_ext, std_slen, std_strOf, std_bytes, std_llen, std_get, std_setl, std_app, std_take, std_drop, std_rep, std_mhas, std_mval, std_mput, std_cast, std_toN, std_sub, std_add, std_inR, std_le3, std_leN, std_ltN, std_ne0, std_nonneg, std_catOk, std_room, std_mkOk, std_nth, std_cnt, cmp_lss_t, cmp_lss_f, cmp_leq_t, cmp_leq_f, cmp_gtr_t, cmp_gtr_f, cmp_geq_t, cmp_geq_f, cmp_eql_t, cmp_eql_f, cmp_neq_t, cmp_neq_f, scmp_eql_t, scmp_eql_f, scmp_neq_t, scmp_neq_f, dflt_int, dflt_bool, dflt_str, dflt_sl, dflt_pair, h, h1, q, List.length_set, and_true, true_and]
    refine ⟨fun h0 => ?_, fun h2 => ⟨⟨⟨Int.le_refl 1, by show (1 : Int) ≤ a.length; omega⟩, ?_⟩, ?_⟩⟩
    · rw [List.take_length]; exact (compL_lt2 a (by omega)).symm
    · show compL (a.take 1) = a.take 1
      exact compL_lt2 _ (by rw [List.length_take]; omega)
    rintro ⟨k, ⟨⟩⟩ ⟨⟨i1, i2⟩, i3⟩
    have i1 : (1 : Int) ≤ k := i1
    have i2 : k ≤ (a.length : Int) := i2
    have i3 : compL (a.take k.toNat) = a.take k.toNat := i3
    obtain ⟨n, rfl⟩ := nat_of (x := k) (by omega)
    rw [Int.toNat_natCast] at i3
    have w1 : IntKind.i64.wrap ((n : Int) - 1) = ((n - 1 : Nat) : Int) := by rw [wrap_i64 (by omega) (by omega)]; omega
    simp only [w1, Int.toNat_natCast]
    refine ⟨fun hlt => ?_, fun hge => ?_⟩
    · have hn : n < a.length := by omega
      have hn1 : n - 1 < a.length := by omega
      simp only [List.getElem?_eq_getElem hn, List.getElem?_eq_getElem hn1, Option.getD_some]
      have hs := compL_step a n hn (by omega)
      refine ⟨⟨by omega, hlt⟩, hn, ⟨by omega, by omega⟩, hn1, g2 _ (List.getElem_mem hn), fun he => ?_, fun he => ?_⟩
      · have he' : a[n] = a[n - 1] := of_decide_eq_true he
        rw [if_pos he'.symm, i3] at hs
        refine ⟨⟨by omega, by omega, Int.le_refl _⟩, ⟨⟨Int.le_refl 1, by show (n : Int) + 1 ≤ a.length; omega⟩, ⟨by show (1 : Int) ≤ n; omega, Int.le_refl _, by show (n : Int) < n + 1; omega⟩, rfl, ?_, fun q hq => rfl⟩, ?_⟩
        · show a.take (n : Int).toNat = compL (a.take ((n : Int) + 1).toNat)
          rw [Int.toNat_natCast, show ((n : Int) + 1).toNat = n + 1 by omega, hs]
        rintro ⟨l, i, j, ⟨⟩⟩ ⟨⟨j1, j2⟩, ⟨j3, j4, j5⟩, j6, j7, j8⟩
        have t1 : (1 : Int) ≤ j := j1
        have t2 : (n : Int) + j ≤ a.length := j2
        have t3 : (1 : Int) ≤ n := j3
        have t4 : (n : Int) ≤ i := j4
        have t5 : i < (n : Int) + j := j5
        have t6 : l.length = a.length := j6
        have t7 : l.take i.toNat = compL (a.take ((n : Int) + j).toNat) := j7
        have t8 : ∀ q : Nat, (n : Int) + j - 1 ≤ q → l[q]? = a[q]? := j8
        clear j1 j2 j3 j4 j5 j6 j7 j8
        obtain ⟨m, rfl⟩ := nat_of (x := j) (by omega)
        obtain ⟨p, rfl⟩ := nat_of (x := i) (by omega)
        have w2 : IntKind.i64.wrap ((m : Int) - 1) = ((m - 1 : Nat) : Int) := by rw [wrap_i64 (by omega) (by omega)]; omega
        have w3 : IntKind.i64.wrap ((m : Int) + 1) = ((m + 1 : Nat) : Int) := by rw [wrap_i64 (by omega) (by omega)]; omega
        have w4 : IntKind.i64.wrap ((p : Int) + 1) = ((p + 1 : Nat) : Int) := by rw [wrap_i64 (by omega) (by omega)]; omega
        rw [Int.toNat_natCast, show ((n : Int) + m).toNat = n + m by omega] at t7
        simp only [w2, w3, w4, Int.toNat_natCast, t6]
        have mlt : ∀ u v, m2 (a, (n : Int), ()) (u, v, ((m + 1 : Nat) : Int), ()) < m2 (a, (n : Int), ()) (l, (p : Int), (m : Int), ()) := fun u v => by show ((a.length : Int) - ((m + 1 : Nat) : Int)).toNat < ((a.length : Int) - (m : Int)).toNat; omega
        refine ⟨fun hlt2 => ?_, fun hge2 => ?_⟩
        · have hm : n + m < a.length := by omega
          have hm1 : n + (m - 1) < a.length := by omega
          have e1 : l[n + m]? = some a[n + m] := by rw [t8 (n + m) (by omega)]; exact List.getElem?_eq_getElem hm
          have e2 : l[n + (m - 1)]? = some a[n + (m - 1)] := by rw [t8 (n + (m - 1)) (by omega)]; exact List.getElem?_eq_getElem hm1
          simp only [e1, e2, Option.getD_some]
          have hs2 := compL_step a (n + m) hm (by omega)
          simp only [show n + m - 1 = n + (m - 1) by omega] at hs2
          have e5 : (((n : Int) + ((m + 1 : Nat) : Int)).toNat) = n + m + 1 := by omega
          refine ⟨⟨by omega, hlt2⟩, by omega, ⟨by omega, by omega⟩, by omega, g2 _ (List.getElem_mem hm), fun he2 => ⟨?_, mlt _ _⟩, fun he2 => ⟨⟨by omega, hlt2⟩, by omega, ⟨by omega, by omega⟩, by omega, ?_, mlt _ _⟩⟩
          · have he2' : a[n + m] = a[n + (m - 1)] := of_decide_eq_true he2
            rw [if_pos he2'.symm] at hs2
            refine ⟨⟨by show (1 : Int) ≤ ((m + 1 : Nat) : Int); omega, by show (n : Int) + ((m + 1 : Nat) : Int) ≤ a.length; omega⟩, ⟨t3, t4, by show (p : Int) < n + ((m + 1 : Nat) : Int); omega⟩, t6, ?_, fun q hq => t8 q (by have hq : (n : Int) + ((m + 1 : Nat) : Int) - 1 ≤ q := hq; omega)⟩
            show l.take (p : Int).toNat = compL (a.take ((n : Int) + ((m + 1 : Nat) : Int)).toNat)
            rw [Int.toNat_natCast, e5, hs2, t7]
          · have he2' : ¬ a[n + m] = a[n + (m - 1)] := of_decide_eq_false he2
            rw [if_neg (fun e => he2' e.symm)] at hs2
            refine ⟨⟨by show (1 : Int) ≤ ((m + 1 : Nat) : Int); omega, by show (n : Int) + ((m + 1 : Nat) : Int) ≤ a.length; omega⟩, ⟨t3, by show (n : Int) ≤ ((p + 1 : Nat) : Int); omega, by show ((p + 1 : Nat) : Int) < n + ((m + 1 : Nat) : Int); omega⟩, by show (l.set p a[n + m]).length = a.length; rw [List.length_set, t6], ?_, fun q hq => ?_⟩
            · show (l.set p a[n + m]).take ((p + 1 : Nat) : Int).toNat = compL (a.take ((n : Int) + ((m + 1 : Nat) : Int)).toNat)
              rw [Int.toNat_natCast, e5, hs2, ← t7, List.take_succ, List.getElem?_set_self (by omega), List.take_set, List.set_eq_of_length_le (by rw [List.length_take]; omega)]
              rfl
            · have hq : (n : Int) + ((m + 1 : Nat) : Int) - 1 ≤ q := hq
              show (l.set p a[n + m])[q]? = a[q]?
              rw [List.getElem?_set_ne (by omega)]
              exact t8 q (by omega)
        · have hnm : n + m = a.length := by omega
          refine ⟨⟨by omega, by omega, Int.le_refl _⟩, ⟨by omega, by omega⟩, ⟨Int.le_refl _, by omega, by omega⟩, ?_⟩
          rw [List.take_append_of_le_length (by rw [List.length_take]; omega), List.take_take, Nat.min_self, t7, hnm, List.take_length]
      · have he' : ¬ a[n] = a[n - 1] := of_decide_eq_false he
        rw [wr hlt g1]
        refine ⟨⟨⟨by show (1 : Int) ≤ ((n + 1 : Nat) : Int); omega, by show ((n + 1 : Nat) : Int) ≤ a.length; omega⟩, ?_⟩, by show ((a.length : Int) - ((n + 1 : Nat) : Int)).toNat < ((a.length : Int) - (n : Int)).toNat; omega⟩
        show compL (a.take ((n + 1 : Nat) : Int).toNat) = a.take ((n + 1 : Nat) : Int).toNat
        rw [Int.toNat_natCast, hs, if_neg (fun e => he' e.symm), i3, List.take_succ, List.getElem?_eq_getElem hn]
        rfl
    · rw [show n = a.length by omega, List.take_length] at i3
      rw [List.take_length]; exact i3.symm
  · refine n107n_go Lv.std F I mu I2 m2 ?_
    simp only [n107n, VC.holds, std_cmp, std_scmp, std_ar_add, std_ar_sub, std_ar_mul, std_ar, std_dv, std_shf, std_conv, std_mn, std_mx, std_beq, std_bnot, std_band, std_scat, std_byte, std_ext, std_slen, std_strOf, std_bytes, std_llen, std_get, std_setl, std_app, std_take, std_drop, std_rep, std_mhas, std_mval, std_mput, std_cast, std_toN, std_sub, std_add, std_inR, std_le3, std_leN, std_ltN, std_ne0, std_nonneg, std_catOk, std_room, std_mkOk, std_nth, std_cnt, cmp_lss_t, cmp_lss_f, cmp_leq_t, cmp_leq_f, cmp_gtr_t, cmp_gtr_f, cmp_geq_t, cmp_geq_f, cmp_eql_t, cmp_eql_f, cmp_neq_t, cmp_neq_f, scmp_eql_t, scmp_eql_f, scmp_neq_t, scmp_neq_f, dflt_int, dflt_bool, dflt_str, dflt_sl, dflt_pair, h, h1, q, Prod.mk.injEq, and_true, true_and]
    exact ⟨fun _ => rfl, fun h => absurd h (by decide)⟩
end Go.Proofs.Tryz
