/- What functions of the weak memory compute, proved through the condition generator, and plain facts of it. Conditions: none of ours. -/
import Derived.Test.YthfjgaifdadgnaaGreatK16
set_option autoImplicit false
set_option linter.all false
namespace Go.Proofs.Tryz
open Go Go.VM
set_option maxRecDepth 100000
def a75 (L : Lv) (I : Ds [It] → Prop) (mu : Ds [It] → Nat) : Nat → LAnn
  | 0 => anH L [0, 1, 5] [] [.s 5 It] I mu
  | _ => .no
def a74 (L : Lv) (I : Ds [It] → Prop) (mu : Ds [It] → Nat) : Nat → LAnn
  | 0 => anH L [2, 3, 6] [] [.s 6 It] I mu
  | _ => .no
def a118 (L : Lv) (I : Ds [.sl It, It] → Prop) (mu : Ds [.sl It, It] → Nat) : Nat → LAnn
  | 0 => anH L [1, 3, 4] [] [.r 3 It, .s 4 It] I mu
  | _ => .no
def a35 (L : Lv) (I : Ds [It] → Prop) (mu : Ds [It] → Nat) : Nat → LAnn
  | 0 => anH L [0, 1, 5] [] [.s 5 It] I mu
  | _ => .no
def n75 (L : Lv) (F : BxF) (I : Ds [It] → Prop) (mu : Ds [It] → Nat) (a b : List Int)  : VC :=
 let z1 := Lv.llen L It a;
 let z2 := Lv.cast L z1;
 let z3 := Lv.llen L It b;
 let z4 := Lv.cast L z3;
 let z5 := (BxF.cmpR F a b, ());
 let z6 := (Lv.ar L BinOp.sub IntKind.i64 z2 z4, ()); VC.obl (St.mk 41 [(0, V.c (C.sl It a)), (1, V.c (C.sl It b)), (5, V.c (C.int IntKind.i64 0))] [(0, Ob.amb)] 1 = St.mk 41 [(0,
   V.c (C.sl It a)), (1, V.c (C.sl It b)), (5, V.c (C.int IntKind.i64 0))] [(0, Ob.amb)] 1) (VC.obl (I (0, ())) (VC.all (Int × Unit) fun (v1 : Int × Unit) =>
 let z7 := Prod.fst v1;
 let z8 := Lv.inR L z7 z1;
 let z9 := Lv.inR L z7 z3;
 let z10 := Lv.toN L z7;
 let z11 := Lv.get L It a z10;
 let z12 := Lv.get L It b z10;
 let z13 := Lv.ar L BinOp.add IntKind.i64 z7 1;
 let z14 := (Lv.ar L BinOp.add IntKind.i64 z7 1, ()); VC.imp (I v1) (VC.br (Lv.cmp L BinOp.lss z7 z2) (VC.br (Lv.cmp L BinOp.lss z7 z4) (VC.obl z8 (VC.obl z9 (VC.br (Lv.cmp L
   BinOp.lss z11 z12) (VC.ok ((Int.negSucc 0, ()) = z5)) (VC.obl z8 (VC.obl z9 (VC.br (Lv.cmp L BinOp.gtr z11 z12) (VC.ok ((1, ()) = z5)) (VC.ok (St.mk 41 [(0, V.c (C.sl It a)), (1,
   V.c (C.sl It b)), (5, V.c (C.int IntKind.i64 z13))] [(0, Ob.amb)] 1 = St.mk 41 [(0, V.c (C.sl It a)), (1, V.c (C.sl It b)), (5, V.c (C.int IntKind.i64 z13))] [(0, Ob.amb)] 1 ∧ I
   z14 ∧ mu z14 < mu v1)))))))) (VC.ok (z6 = z5))) (VC.ok (z6 = z5)))))
theorem n75_eq (L : Lv) (F : BxF) (I : Ds [It] → Prop) (mu : Ds [It] → Nat) (a b : List Int) : vcC L F [] (D75 (a75 L I mu)) (S75 F) (a, b, ()) = n75 L F I mu a b := by kernel_rfl
theorem n75_go (L : Lv) (F : BxF) (I : Ds [It] → Prop) (mu : Ds [It] → Nat) (a b : List Int) (h : VC.holds (n75 L F I mu a b)) : Holds (vcC L F [] (D75 (a75 L I mu)) (S75 F) (a, b, ())) := Holds.of_eq (n75_eq L F I mu a b) h
def n27 (L : Lv) (F : BxF) (a b : List Int)  : VC :=
 let z1 := (BxF.sameL F a b, ()); VC.obl (BxF.bl F a ∧ BxF.bl F b) (VC.br (Lv.cmp L BinOp.eql (BxF.cmpR F a b) 0) (VC.ok ((true, ()) = z1)) (VC.ok ((false, ()) = z1)))
theorem n27_eq (L : Lv) (F : BxF) (a b : List Int) : vcC L F [75] (D27 a0) (S27 F) (a, b, ()) = n27 L F a b := by kernel_rfl
theorem n27_go (L : Lv) (F : BxF) (a b : List Int) (h : VC.holds (n27 L F a b)) : Holds (vcC L F [75] (D27 a0) (S27 F) (a, b, ())) := Holds.of_eq (n27_eq L F a b) h
def n74 (L : Lv) (F : BxF) (I : Ds [It] → Prop) (mu : Ds [It] → Nat) (a b : EnD)  : VC :=
 let z1 := Prod.fst a;
 let z2 := Prod.fst b;
 let z3 := (BxF.cmpRE F a b, ());
 let z4 := Prod.snd a;
 let z5 := Prod.fst z4;
 let z6 := Ty.int IntKind.u8;
 let z7 := Prod.snd z4;
 let z8 := Prod.snd b;
 let z9 := Prod.fst z8;
 let z10 := Prod.snd z8;
 let z11 := Lv.llen L (Ty.sl It) z5;
 let z12 := Lv.cast L z11;
 let z13 := Lv.llen L (Ty.sl It) z9;
 let z14 := Lv.cast L z13;
 let z15 := Lv.cmp L BinOp.neq z12 z14;
 let z16 := (Lv.ar L BinOp.sub IntKind.i64 z12 z14, ());
 let z17 := (Prod.fst a, Prod.fst z4, Prod.snd z4);
 let z18 := BxF.be F z17;
 let z19 := (Prod.fst b, Prod.fst z8, Prod.snd z8);
 let z20 := BxF.be F z19;
 let z21 := BxF.hows F z17;
 let z22 := BxF.hows F z19;
 let z23 := (BxF.bl F z21 ∧ BxF.bl F z22);
 let z24 := (BxF.cmpR F z21 z22, ()); VC.obl (BxF.bl F z1 ∧ BxF.bl F z2) (VC.br (Lv.cmp L BinOp.neq (BxF.cmpR F z1 z2) 0) (VC.ok ((BxF.cmpR F z1 z2, ()) = z3)) (VC.obl (St.mk 63
   [(2, V.c (C.ptr 1 0)), (3, V.c (C.ptr 2 0)), (6, V.c (C.int IntKind.i64 0))] [(0, Ob.amb), (1, Ob.box 38 [C.sl It z1, C.sl (Ty.sl It) z5, C.sl z6 z7]), (2, Ob.box 38 [C.sl It z2,
   C.sl (Ty.sl It) z9, C.sl z6 z10])] 3 = St.mk 63 [(2, V.c (C.ptr 1 0)), (3, V.c (C.ptr 2 0)), (6, V.c (C.int IntKind.i64 0))] [(0, Ob.amb), (1, Ob.box 38 [C.sl It z1, C.sl (Ty.sl
   It) z5, C.sl z6 z7]), (2, Ob.box 38 [C.sl It z2, C.sl (Ty.sl It) z9, C.sl z6 z10])] 3) (VC.obl (I (0, ())) (VC.all (Int × Unit) fun (v1 : Int × Unit) =>
 let z25 := Prod.fst v1;
 let z26 := Lv.toN L z25;
 let z27 := Lv.get L (Ty.sl It) z5 z26;
 let z28 := Lv.get L (Ty.sl It) z9 z26;
 let z29 := Lv.ar L BinOp.add IntKind.i64 z25 1;
 let z30 := (Lv.ar L BinOp.add IntKind.i64 z25 1, ()); VC.imp (I v1) (VC.br (Lv.cmp L BinOp.lss z25 z12) (VC.br (Lv.cmp L BinOp.lss z25 z14) (VC.obl (Lv.inR L z25 z11) (VC.obl
   (Lv.inR L z25 z13) (VC.obl (BxF.bl F z27 ∧ BxF.bl F z28) (VC.br (Lv.cmp L BinOp.neq (BxF.cmpR F z27 z28) 0) (VC.ok ((BxF.cmpR F z27 z28, ()) = z3)) (VC.ok (St.mk 63 [(2, V.c
   (C.ptr 1 0)), (3, V.c (C.ptr 2 0)), (6, V.c (C.int IntKind.i64 z29))] [(0, Ob.amb), (1, Ob.box 38 [C.sl It z1, C.sl (Ty.sl It) z5, C.sl z6 z7]), (2, Ob.box 38 [C.sl It z2, C.sl
   (Ty.sl It) z9, C.sl z6 z10])] 3 = St.mk 63 [(2, V.c (C.ptr 1 0)), (3, V.c (C.ptr 2 0)), (6, V.c (C.int IntKind.i64 z29))] [(0, Ob.amb), (1, Ob.box 38 [C.sl It z1, C.sl (Ty.sl It)
   z5, C.sl z6 z7]), (2, Ob.box 38 [C.sl It z2, C.sl (Ty.sl It) z9, C.sl z6 z10])] 3 ∧ I z30 ∧ mu z30 < mu v1)))))) (VC.br z15 (VC.ok (z16 = z3)) (VC.obl z18 (VC.obl z20 (VC.obl z23
   (VC.ok (z24 = z3))))))) (VC.br z15 (VC.ok (z16 = z3)) (VC.obl z18 (VC.obl z20 (VC.obl z23 (VC.ok (z24 = z3)))))))))))
theorem n74_eq (L : Lv) (F : BxF) (I : Ds [It] → Prop) (mu : Ds [It] → Nat) (a b : EnD) : vcC L F [75, 118] (D74 (a74 L I mu)) (S74 F) (a, b, ()) = n74 L F I mu a b := by kernel_rfl
theorem n74_go (L : Lv) (F : BxF) (I : Ds [It] → Prop) (mu : Ds [It] → Nat) (a b : EnD) (h : VC.holds (n74 L F I mu a b)) : Holds (vcC L F [75, 118] (D74 (a74 L I mu)) (S74 F) (a, b, ())) := Holds.of_eq (n74_eq L F I mu a b) h
def n118 (L : Lv) (F : BxF) (I : Ds [.sl It, It] → Prop) (mu : Ds [.sl It, It] → Nat) (e : EnD)  : VC :=
 let z1 := Prod.fst e;
 let z2 := Prod.fst (Prod.snd e);
 let z3 := Ty.int IntKind.u8;
 let z4 := Prod.snd (Prod.snd e);
 let z5 := Lv.llen L z3 z4; VC.obl (St.mk 23 [(1, V.c (C.ptr 1 0)), (3, V.c (C.own 3 0)), (4, V.c (C.int IntKind.i64 0))] [(0, Ob.amb), (1, Ob.box 38 [C.sl It z1, C.sl (Ty.sl It)
   z2, C.sl z3 z4]), (3, Ob.row 3 It [])] 4 = St.mk 23 [(1, V.c (C.ptr 1 0)), (3, V.c (C.own 3 (Lv.llen L It []))), (4, V.c (C.int IntKind.i64 0))] [(0, Ob.amb), (1, Ob.box 38 [C.sl
   It z1, C.sl (Ty.sl It) z2, C.sl z3 z4]), (3, Ob.row 3 It [])] 4) (VC.obl (I ([], 0, ())) (VC.all (List Int × Int × Unit) fun (v1 : List Int × Int × Unit) =>
 let z6 := Prod.fst (Prod.snd v1);
 let z7 := Prod.fst v1;
 let z8 := Lv.llen L It z7;
 let z9 := Lv.take L It z7 z8;
 let z10 := Lv.take L It [Lv.conv L IntKind.i64 (Lv.get L z3 z4 (Lv.toN L z6))] 1;
 let z11 := Lv.add L (Lv.llen L It z9) (Lv.llen L It z10);
 let z12 := Lv.ar L BinOp.add IntKind.i64 z6 1;
 let z13 := Lv.app L It z9 z10;
 let z14 := (Lv.app L It z9 z10, Lv.ar L BinOp.add IntKind.i64 z6 1, ()); VC.imp (I v1) (VC.br (Lv.cmp L BinOp.lss z6 (Lv.cast L z5)) (VC.obl (Lv.inR L z6 z5) (VC.obl (Lv.room L z11
   8) (VC.ok (St.mk 23 [(1, V.c (C.ptr 1 0)), (3, V.c (C.own 3 z11)), (4, V.c (C.int IntKind.i64 z12))] [(0, Ob.amb), (1, Ob.box 38 [C.sl It z1, C.sl (Ty.sl It) z2, C.sl z3 z4]),
   (3, Ob.row 3 It z13)] 4 = St.mk 23 [(1, V.c (C.ptr 1 0)), (3, V.c (C.own 3 (Lv.llen L It z13))), (4, V.c (C.int IntKind.i64 z12))] [(0, Ob.amb), (1, Ob.box 38 [C.sl It z1, C.sl
   (Ty.sl It) z2, C.sl z3 z4]), (3, Ob.row 3 It z13)] 4 ∧ I z14 ∧ mu z14 < mu v1)))) (VC.ok ((Lv.take L It z7 z8, ()) = (BxF.hows F e, ()))))))
theorem n118_eq (L : Lv) (F : BxF) (I : Ds [.sl It, It] → Prop) (mu : Ds [.sl It, It] → Nat) (e : EnD) : vcC L F [] (D118 (a118 L I mu)) (S118 F) (e, ()) = n118 L F I mu e := by kernel_rfl
theorem n118_go (L : Lv) (F : BxF) (I : Ds [.sl It, It] → Prop) (mu : Ds [.sl It, It] → Nat) (e : EnD) (h : VC.holds (n118 L F I mu e)) : Holds (vcC L F [] (D118 (a118 L I mu)) (S118 F) (e, ())) := Holds.of_eq (n118_eq L F I mu e) h
def n46 (L : Lv) (F : BxF) (a b : EnD)  : VC :=
 let z1 := (Prod.fst a, Prod.fst (Prod.snd a), Prod.snd (Prod.snd a));
 let z2 := (Prod.fst b, Prod.fst (Prod.snd b), Prod.snd (Prod.snd b));
 let z3 := (BxF.sameE F a b, ()); VC.obl (BxF.be F z1 ∧ BxF.be F z2) (VC.br (Lv.cmp L BinOp.eql (BxF.cmpRE F z1 z2) 0) (VC.ok ((true, ()) = z3)) (VC.ok ((false, ()) = z3)))
theorem n46_eq (L : Lv) (F : BxF) (a b : EnD) : vcC L F [74] (D46 a0) (S46 F) (a, b, ()) = n46 L F a b := by kernel_rfl
theorem n46_go (L : Lv) (F : BxF) (a b : EnD) (h : VC.holds (n46 L F a b)) : Holds (vcC L F [74] (D46 a0) (S46 F) (a, b, ())) := Holds.of_eq (n46_eq L F a b) h
def n35 (L : Lv) (F : BxF) (I : Ds [It] → Prop) (mu : Ds [It] → Nat) (a b : List EnD)  : VC :=
 let z1 := Lv.cast L (Lv.llen L En a);
 let z2 := (BxF.sameEs F a b, ()); VC.br (Lv.cmp L BinOp.neq z1 (Lv.cast L (Lv.llen L En b))) (VC.ok ((false, ()) = z2)) (VC.obl (St.mk 27 [(0, V.c (C.sl En a)), (1, V.c (C.sl En
   b)), (5, V.c (C.int IntKind.i64 0))] [(0, Ob.amb)] 1 = St.mk 27 [(0, V.c (C.sl En a)), (1, V.c (C.sl En b)), (5, V.c (C.int IntKind.i64 0))] [(0, Ob.amb)] 1) (VC.obl (I (0, ()))
   (VC.all (Int × Unit) fun (v1 : Int × Unit) =>
 let z3 := Prod.fst v1;
 let z4 := Lv.toN L z3;
 let z5 := Lv.get L En a z4;
 let z6 := Prod.snd z5;
 let z7 := (Prod.fst z5, Prod.fst z6, Prod.snd z6);
 let z8 := Lv.get L En b z4;
 let z9 := Prod.snd z8;
 let z10 := (Prod.fst z8, Prod.fst z9, Prod.snd z9);
 let z11 := Lv.ar L BinOp.add IntKind.i64 z3 1;
 let z12 := (Lv.ar L BinOp.add IntKind.i64 z3 1, ()); VC.imp (I v1) (VC.br (Lv.cmp L BinOp.lss z3 z1) (VC.obl (Lv.inR L z3 (Lv.llen L En a)) (VC.obl (Lv.inR L z3 (Lv.llen L En b))
   (VC.obl (BxF.be F z7 ∧ BxF.be F z10) (VC.br (BxF.sameE F z7 z10) (VC.ok (St.mk 27 [(0, V.c (C.sl En a)), (1, V.c (C.sl En b)), (5, V.c (C.int IntKind.i64 z11))] [(0, Ob.amb)] 1 =
   St.mk 27 [(0, V.c (C.sl En a)), (1, V.c (C.sl En b)), (5, V.c (C.int IntKind.i64 z11))] [(0, Ob.amb)] 1 ∧ I z12 ∧ mu z12 < mu v1)) (VC.ok ((false, ()) = z2)))))) (VC.ok ((true,
   ()) = z2))))))
theorem n35_eq (L : Lv) (F : BxF) (I : Ds [It] → Prop) (mu : Ds [It] → Nat) (a b : List EnD) : vcC L F [46] (D35 (a35 L I mu)) (S35 F) (a, b, ()) = n35 L F I mu a b := by kernel_rfl
theorem n35_go (L : Lv) (F : BxF) (I : Ds [It] → Prop) (mu : Ds [It] → Nat) (a b : List EnD) (h : VC.holds (n35 L F I mu a b)) : Holds (vcC L F [46] (D35 (a35 L I mu)) (S35 F) (a, b, ())) := Holds.of_eq (n35_eq L F I mu a b) h
theorem ok75 (F : BxF) (h : F.cmpR = lexR) (hp : F.bl = bL) : SpecOk prog 75 (S75 F) := by
  refine contract_by hm hE D75 fnok75 _ fun (z : List Int × List Int × Unit) hpre => ?_
  obtain ⟨a, b, ⟨⟩⟩ := z
  have hpre' : F.bl a ∧ F.bl b := hpre
  rw [hp] at hpre'
  have g : a.length ≤ 1000000 := hpre'.1
  have g2 : b.length ≤ 1000000 := hpre'.2
  let I : Int × Unit → Prop := Iv a.length fun k => lexR (a.drop k) (b.drop k) = lexR a b ∧ k ≤ b.length
  refine pack _ 3 (a75 Lv.std I (Mu a.length)) (only_tab (T := cT F) (l := []) tb_nil) ?_
  refine n75_go Lv.std F I (Mu a.length) a b ?_
  have neg1 : (Int.negSucc 0 : Int) = -1 := rfl
  have ew : IntKind.i64.wrap ((a.length : Int) - b.length) = (a.length : Int) - b.length := wrap_i64 (by omega) (by omega)
  simp only [n75, VC.holds, std_cmp, std_cast, std_llen, std_toN, std_get, dflt_int, std_inR, std_ar_add, std_ar_sub, neg1, ew, cmp_lss_t, cmp_lss_f, cmp_gtr_t, cmp_gtr_f, h, Prod.mk.injEq, and_true, true_and]
  refine ⟨Iv.zero ⟨rfl, Nat.zero_le _⟩, fun x hx => ?_⟩
  obtain ⟨k, rfl, hk, i3, hkb⟩ := Iv.elim hx
  simp only [Int.toNat_natCast]
  have dr : k < a.length → k < b.length → lexR (a.drop k) (b.drop k) = if (a[k]?).getD 0 < (b[k]?).getD 0 then -1 else if (b[k]?).getD 0 < (a[k]?).getD 0 then 1 else lexR (a.drop (k + 1)) (b.drop (k + 1)) := fun h1 h2 => by
    rw [List.drop_eq_getElem_cons h1, List.drop_eq_getElem_cons h2, List.getElem?_eq_getElem h1, List.getElem?_eq_getElem h2]; rfl
  have dl : k = a.length ∨ k = b.length → lexR (a.drop k) (b.drop k) = (a.length : Int) - b.length := fun h1 => by
    by_cases ha : k < a.length
    · have hb : k = b.length := by omega
      rw [List.drop_eq_getElem_cons ha, List.drop_eq_nil_of_le (by omega : b.length ≤ k)]
      show ((List.length (_ :: _) : Nat) : Int) = _
      rw [List.length_cons, List.length_drop]; omega
    · rw [List.drop_eq_nil_of_le (by omega : a.length ≤ k)]
      cases hd : b.drop k with
      | nil => have := congrArg List.length hd; rw [List.length_drop] at this; show -((List.length ([] : List Int) : Nat) : Int) = _; simp at this ⊢; omega
      | cons y r => have := congrArg List.length hd; rw [List.length_drop] at this; show -((List.length (y :: r) : Nat) : Int) = _; rw [← this]; omega
  refine ⟨fun hlt => ⟨fun hb => ⟨⟨by omega, hlt⟩, ⟨by omega, hb⟩, fun h1 => ?_, fun h1 => ⟨⟨by omega, hlt⟩, ⟨by omega, hb⟩, fun h2 => ?_, fun h2 => ?_⟩⟩, fun hb => ?_⟩, fun hge => ?_⟩
  · rw [dr (by omega) (by omega), if_pos h1] at i3; exact i3
  · rw [dr (by omega) (by omega), if_neg (by omega), if_pos h2] at i3; exact i3
  · rw [dr (by omega) (by omega), if_neg (by omega), if_neg (by omega)] at i3
    rw [wr hlt g]
    exact ⟨Iv.mk (by omega) ⟨i3, by omega⟩, Mu.lt (by omega)⟩
  · rw [dl (.inr (by omega))] at i3; exact i3
  · rw [dl (.inl (by omega))] at i3; exact i3
theorem ok27 (F : BxF) (h : F.sameL = fun a b => decide (a = b)) (h1 : F.cmpR = lexR) (k1 : SpecOk prog 75 (S75 F)) : SpecOk prog 27 (S27 F) := by
  refine contract_by hm hE D27 fnok27 _ fun (z : List Int × List Int × Unit) hpre => ?_
  obtain ⟨a, b, ⟨⟩⟩ := z
  have hpre' : F.bl a ∧ F.bl b := hpre
  refine pack _ 3 a0 (only_tab (T := cT F) (l := [75]) (tb_cons (tb_sp k1 (by kernel_rfl)) tb_nil)) ?_
  refine n27_go Lv.std F a b ?_
  simp only [n27, VC.holds, std_cmp, std_scmp, std_ar_add, std_ar_sub, std_ar_mul, std_ar, std_dv, std_shf, std_conv, std_mn, std_mx, std_beq, std_bnot, std_band, std_scat, std_byte, std_ext, std_slen, std_strOf, std_bytes, std_llen, std_get, std_setl, std_app, std_take, std_drop, std_rep, std_mhas, std_mval, std_mput, std_cast, std_toN, std_sub, std_add, std_inR, std_le3, std_leN, std_ltN, std_ne0, std_nonneg, std_catOk, std_room, std_mkOk, std_nth, std_cnt, cmp_lss_t, cmp_lss_f, cmp_leq_t, cmp_leq_f, cmp_gtr_t, cmp_gtr_f, cmp_geq_t, cmp_geq_f, cmp_eql_t, cmp_eql_f, cmp_neq_t, cmp_neq_f, scmp_eql_t, scmp_eql_f, scmp_neq_t, scmp_neq_f, dflt_int, dflt_bool, dflt_str, dflt_sl, dflt_pair, h, h1, Prod.mk.injEq, and_true, true_and]
  exact ⟨hpre', fun e => (decide_eq_true ((lexR_eq _ _).1 e)).symm, fun e => (decide_eq_false (fun e' => e ((lexR_eq _ _).2 e'))).symm⟩
theorem ok118 (F : BxF) (h : F.hows = fun e => e.2.2) (hp : F.be = sEn) : SpecOk prog 118 (S118 F) := by
  refine contract_by hm hE D118 fnok118 _ fun (z : EnD × Unit) hpre => ?_
  obtain ⟨e, ⟨⟩⟩ := z
  have hpre' : F.be e := hpre
  rw [hp] at hpre'
  obtain ⟨_, _, g, _, g5⟩ := hpre'
  let I : List Int × Int × Unit → Prop := fun x => (0 ≤ x.2.1 ∧ x.2.1 ≤ e.2.2.length) ∧ x.1 = e.2.2.take x.2.1.toNat
  let mu : List Int × Int × Unit → Nat := fun x => (e.2.2.length - x.2.1).toNat
  refine pack _ 3 (a118 Lv.std I mu) (only_tab (T := cT F) (l := []) tb_nil) ?_
  refine n118_go Lv.std F I mu e ?_
  simp only [n118, VC.holds, std_cmp, std_scmp, std_ar_add, std_ar_sub, std_ar_mul, std_ar, std_dv, std_shf, std_conv, std_mn, std_mx, std_beq, std_bnot, std_band, std_scat, std_byte, std_ext, std_slen, std_strOf, std_bytes, std_llen, std_get, std_setl, std_app, std_take, std_drop, std_rep, std_mhas, std_mval, std_mput, std_cast, std_toN, std_sub, std_add, std_inR, std_le3, std_leN, std_ltN, std_ne0, std_nonneg, std_catOk, std_room, std_mkOk, std_nth, std_cnt, cmp_lss_t, cmp_lss_f, cmp_leq_t, cmp_leq_f, cmp_gtr_t, cmp_gtr_f, cmp_geq_t, cmp_geq_f, cmp_eql_t, cmp_eql_f, cmp_neq_t, cmp_neq_f, scmp_eql_t, scmp_eql_f, scmp_neq_t, scmp_neq_f, dflt_int, dflt_bool, dflt_str, dflt_sl, dflt_pair, h, List.take_length, List.take_succ_cons, List.take_zero, List.take_nil, List.nil_append, List.length_append, List.length_cons, List.length_nil, Nat.zero_add, pe5, Prod.mk.injEq, and_true, true_and]
  refine ⟨⟨⟨Int.le_refl 0, by show (0 : Int) ≤ e.2.2.length; omega⟩, rfl⟩, ?_⟩
  rintro ⟨l, x, ⟨⟩⟩ ⟨⟨i1, i2⟩, i3⟩
  simp only at i1 i2 i3 ⊢
  obtain ⟨k, rfl⟩ := nat_of i1
  rw [Int.toNat_natCast] at i3
  subst i3
  have hl : (e.2.2.take k).length = k := by rw [List.length_take]; omega
  rw [hl, Int.toNat_natCast]
  refine ⟨fun hlt => ?_, fun hge => ?_⟩
  · have hk : k < e.2.2.length := by omega
    have hb := g5 _ (List.getElem_mem hk)
    rw [wr hlt g, List.getElem?_eq_getElem hk, Option.getD_some, wrap_i64 (by omega) (by omega)]
    refine ⟨⟨i1, hlt⟩, ⟨by omega, by omega⟩, ⟨⟨by show (0 : Int) ≤ ((k + 1 : Nat) : Int); omega, by show ((k + 1 : Nat) : Int) ≤ _; omega⟩, ?_⟩, by show ((e.2.2.length : Int) - ((k + 1 : Nat) : Int)).toNat < ((e.2.2.length : Int) - k).toNat; omega⟩
    show e.2.2.take k ++ [e.2.2[k]] = e.2.2.take ((k + 1 : Nat) : Int).toNat
    rw [Int.toNat_natCast, List.take_succ, List.getElem?_eq_getElem hk]; rfl
  · rw [List.take_of_length_le (by omega)]
theorem ok74 (F : BxF) (h : F.cmpRE = cmpREF) (h1 : F.cmpR = lexR) (h2 : F.hows = fun e => e.2.2) (hp : F.be = sEn) (q : F.bl = bL) (k1 : SpecOk prog 75 (S75 F)) (k2 : SpecOk prog 118 (S118 F)) : SpecOk prog 74 (S74 F) := by
  refine contract_by hm hE D74 fnok74 _ fun (z : EnD × EnD × Unit) hpre => ?_
  obtain ⟨a, b, ⟨⟩⟩ := z
  have hpre' : F.be a ∧ F.be b := hpre
  rw [hp] at hpre'
  obtain ⟨⟨a1, a2, a3, a4, a5⟩, b1, b2, b3, b4, b5⟩ := hpre'
  let I : Int × Unit → Prop := Iv a.2.1.length fun k => lexRR (a.2.1.drop k) (b.2.1.drop k) = lexRR a.2.1 b.2.1 ∧ k ≤ b.2.1.length
  refine pack _ 3 (a74 Lv.std I (Mu a.2.1.length)) (only_tab (T := cT F) (l := [75, 118]) (tb_cons (tb_sp k1 (by kernel_rfl)) (tb_cons (tb_sp k2 (by kernel_rfl)) tb_nil))) ?_
  refine n74_go Lv.std F I (Mu a.2.1.length) a b ?_
  have ew : IntKind.i64.wrap ((a.2.1.length : Int) - b.2.1.length) = (a.2.1.length : Int) - b.2.1.length := wrap_i64 (by omega) (by omega)
  have e1 : ∀ (l : List (List Int)) (k : Int), Lv.std.get (.sl It) l k.toNat = (l[k.toNat]?).getD [] := fun _ _ => rfl
  simp only [n74, VC.holds, std_cmp, std_cast, std_llen, std_toN, e1, std_inR, std_ar_add, std_ar_sub, ew, cmp_lss_t, cmp_lss_f, cmp_neq_t, cmp_neq_f, h, h1, h2, q, hp, pe5, Prod.mk.injEq, and_true, true_and]
  have bd : ∀ (l : List (List Int)) (k : Nat), (∀ x ∈ l, x.length ≤ 1000000) → bL ((l[k]?).getD []) := fun l k hl => by
    cases hc : l[k]? with
    | none => exact Nat.zero_le _
    | some x => exact hl x (List.mem_of_getElem? hc)
  refine ⟨⟨a1, b1⟩, fun c1 => by rw [cmpREF, if_pos c1], fun c1 => ⟨Iv.zero ⟨rfl, Nat.zero_le _⟩, fun x hx => ?_⟩⟩
  obtain ⟨k, rfl, hk, i3, hkb⟩ := Iv.elim hx
  simp only [Int.toNat_natCast]
  have e0 : cmpREF a b = if lexRR a.2.1 b.2.1 ≠ 0 then lexRR a.2.1 b.2.1 else lexR a.2.2 b.2.2 := by rw [cmpREF, if_neg (fun h => h c1)]
  have dr : k < a.2.1.length → k < b.2.1.length → lexRR (a.2.1.drop k) (b.2.1.drop k) = if lexR ((a.2.1[k]?).getD []) ((b.2.1[k]?).getD []) ≠ 0 then lexR ((a.2.1[k]?).getD []) ((b.2.1[k]?).getD []) else lexRR (a.2.1.drop (k + 1)) (b.2.1.drop (k + 1)) := fun h1 h2 => by
    rw [List.drop_eq_getElem_cons h1, List.drop_eq_getElem_cons h2, List.getElem?_eq_getElem h1, List.getElem?_eq_getElem h2]; rfl
  have dl : k = a.2.1.length ∨ k = b.2.1.length → lexRR (a.2.1.drop k) (b.2.1.drop k) = (a.2.1.length : Int) - b.2.1.length := fun h1 => by
    by_cases ha : k < a.2.1.length
    · rw [List.drop_eq_getElem_cons ha, List.drop_eq_nil_of_le (by omega : b.2.1.length ≤ k)]
      show ((List.length (_ :: _) : Nat) : Int) = _
      rw [List.length_cons, List.length_drop]; omega
    · rw [List.drop_eq_nil_of_le (by omega : a.2.1.length ≤ k)]
      cases hd : b.2.1.drop k with
      | nil => have := congrArg List.length hd; rw [List.length_drop] at this; show -((List.length ([] : List (List Int)) : Nat) : Int) = _; simp at this ⊢; omega
      | cons y r => have := congrArg List.length hd; rw [List.length_drop] at this; show -((List.length (y :: r) : Nat) : Int) = _; rw [← this]; omega
  have fin : k = a.2.1.length ∨ k = b.2.1.length → (((a.2.1.length : Int) ≠ b.2.1.length → (a.2.1.length : Int) - b.2.1.length = cmpREF a b) ∧ ((a.2.1.length : Int) = b.2.1.length → sEn a ∧ sEn b ∧ (bL a.2.2 ∧ bL b.2.2) ∧ lexR a.2.2 b.2.2 = cmpREF a b)) := fun h1 => by
    rw [dl h1] at i3
    refine ⟨fun hn => ?_, fun he => ⟨⟨a1, a2, a3, a4, a5⟩, ⟨b1, b2, b3, b4, b5⟩, ⟨a3, b3⟩, ?_⟩⟩
    · rw [e0, ← i3, if_pos (by omega)]
    · rw [e0, ← i3, if_neg (by omega)]
  refine ⟨fun hlt => ⟨fun hb => ⟨⟨by omega, hlt⟩, ⟨by omega, hb⟩, ⟨bd _ _ a4, bd _ _ b4⟩, fun h1 => ?_, fun h1 => ?_⟩, fun hb => fin (.inr (by omega))⟩, fun hge => fin (.inl (by omega))⟩
  · rw [dr (by omega) (by omega), if_pos h1] at i3
    rw [e0, ← i3, if_pos h1]
  · rw [dr (by omega) (by omega), if_neg (fun h => h h1)] at i3
    rw [wr hlt a2]
    exact ⟨Iv.mk (by omega) ⟨i3, by omega⟩, Mu.lt (by omega)⟩
theorem ok35 (F : BxF) (h : F.sameEs = fun a b => decide (a = b)) (h1 : F.sameE = fun a b => decide (a = b)) (hp : F.ble = fun l => l.length ≤ 1000000 ∧ ∀ e ∈ l, sEn e) (q : F.be = sEn) (k1 : SpecOk prog 46 (S46 F)) : SpecOk prog 35 (S35 F) := by
  refine contract_by hm hE D35 fnok35 _ fun (z : List EnD × List EnD × Unit) hpre => ?_
  obtain ⟨a, b, ⟨⟩⟩ := z
  have hpre' : F.ble a ∧ F.ble b := hpre
  rw [hp] at hpre'
  obtain ⟨⟨g, g2⟩, _, g3⟩ := hpre'
  let I : Int × Unit → Prop := Iv a.length fun k => decide (a.drop k = b.drop k) = decide (a = b)
  refine pack _ 3 (a35 Lv.std I (Mu a.length)) (only_tab (T := cT F) (l := [46]) (tb_cons (tb_sp k1 (by kernel_rfl)) tb_nil)) ?_
  refine n35_go Lv.std F I (Mu a.length) a b ?_
  have e1 : ∀ (l : List EnD) (k : Int), Lv.std.get En l k.toNat = (l[k.toNat]?).getD ([], [], []) := fun _ _ => rfl
  simp only [n35, VC.holds, std_cmp, std_cast, std_llen, std_toN, e1, std_inR, std_ar_add, cmp_lss_t, cmp_lss_f, cmp_neq_t, cmp_neq_f, h, h1, q, pe5, Prod.mk.injEq, and_true, true_and]
  refine ⟨fun hn => ?_, fun hn => ⟨Iv.zero rfl, fun x hx => ?_⟩⟩
  · rw [decide_eq_false (fun e => hn (by rw [e]))]
  · obtain ⟨k, rfl, hk, i3⟩ := Iv.elim hx
    simp only [Int.toNat_natCast]
    refine ⟨fun hlt => ?_, fun hge => ?_⟩
    · have h1 : k < a.length := by omega
      have h2 : k < b.length := by omega
      rw [List.drop_eq_getElem_cons h1, List.drop_eq_getElem_cons h2] at i3
      simp only [List.getElem?_eq_getElem h1, List.getElem?_eq_getElem h2, Option.getD_some]
      refine ⟨⟨by omega, hlt⟩, ⟨by omega, by omega⟩, ⟨g2 _ (List.getElem_mem h1), g3 _ (List.getElem_mem h2)⟩, fun he => ?_, fun he => ?_⟩
      · rw [wr hlt g]
        have he' : a[k] = b[k] := of_decide_eq_true he
        refine ⟨Iv.mk (by omega) ?_, Mu.lt h1⟩
        rw [← i3, he']; simp only [List.cons.injEq, true_and]
      · have he' : ¬ a[k] = b[k] := of_decide_eq_false he
        rw [← i3, decide_eq_false]
        intro e; injection e with e1 _; exact he' e1
    · rw [List.drop_eq_nil_of_le (by omega), List.drop_eq_nil_of_le (by omega)] at i3
      rw [← i3]; rfl
theorem ok46 (F : BxF) (h : F.sameE = fun a b => decide (a = b)) (h1 : F.cmpRE = cmpREF) (k1 : SpecOk prog 74 (S74 F)) : SpecOk prog 46 (S46 F) := by
  refine contract_by hm hE D46 fnok46 _ fun (z : EnD × EnD × Unit) hpre => ?_
  obtain ⟨a, b, ⟨⟩⟩ := z
  have hpre' : F.be a ∧ F.be b := hpre
  refine pack _ 3 a0 (only_tab (T := cT F) (l := [74]) (tb_cons (tb_sp k1 (by kernel_rfl)) tb_nil)) ?_
  refine n46_go Lv.std F a b ?_
  simp only [n46, VC.holds, std_cmp, std_scmp, std_ar_add, std_ar_sub, std_ar_mul, std_ar, std_dv, std_shf, std_conv, std_mn, std_mx, std_beq, std_bnot, std_band, std_scat, std_byte, std_ext, std_slen, std_strOf, std_bytes, std_llen, std_get, std_setl, std_app, std_take, std_drop, std_rep, std_mhas, std_mval, std_mput, std_cast, std_toN, std_sub, std_add, std_inR, std_le3, std_leN, std_ltN, std_ne0, std_nonneg, std_catOk, std_room, std_mkOk, std_nth, std_cnt, cmp_lss_t, cmp_lss_f, cmp_leq_t, cmp_leq_f, cmp_gtr_t, cmp_gtr_f, cmp_geq_t, cmp_geq_f, cmp_eql_t, cmp_eql_f, cmp_neq_t, cmp_neq_f, scmp_eql_t, scmp_eql_f, scmp_neq_t, scmp_neq_f, dflt_int, dflt_bool, dflt_str, dflt_sl, dflt_pair, h, h1, pe5, Prod.mk.injEq, and_true, true_and]
  exact ⟨hpre', fun e => (decide_eq_true ((cmpRE_eq _ _).1 e)).symm, fun e => (decide_eq_false (fun e' => e ((cmpRE_eq _ _).2 e'))).symm⟩
end Go.Proofs.Tryz
