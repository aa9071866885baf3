/- What functions of the weak memory compute, proved through the condition generator, and plain facts of it. Conditions: none of ours. -/
import Derived.Test.YthfjgaifdadgnaaGreatK25
import Derived.Test.YthfjgaifdadgnaaGreatK16
import Derived.Test.YthfjgaifdadgnaaGreatK13
import Derived.Test.YthfjgaifdadgnaaGreatK19
set_option autoImplicit false
set_option linter.all false
namespace Go.Proofs.Tryz
open Go Go.VM
set_option maxRecDepth 100000
def pl18x : Nat → Plan
  | 8 => [(11, [])]
  | _ => []
noncomputable def D18x (ann : Nat → LAnn) : FnD := ⟨f18.body.getD .skip, f18.ntmps, f18.results.toList, pl18x, ann⟩
theorem fnok18x (ann : Nat → LAnn) : FnOk prog 18 (D18x ann) := ⟨f18, at18, by kernel_rfl, by kernel_rfl, rfl, rfl, by kernel_rfl⟩
def S18 (G : AwF) : VM.Spec := ⟨[], [.bool], fun _ => True, fun _ => (G.aw, ())⟩
def n18 (L : Lv) (F : BxF) (G : AwF)  : VC :=
 let z1 := Prod.snd (AwF.cr G);
 let z2 := (Prod.fst (AwF.cr G), Prod.fst z1, Prod.snd z1);
 let z3 := BxF.bw F z2;
 let z4 := Prod.snd (AwF.ce G 0 0);
 let z5 := (Prod.fst (AwF.ce G 0 0), Prod.fst z4, Prod.snd z4);
 let z6 := (BxF.ends F (z2, false));
 let z7 := (AwF.aw G, ());
 let z8 := (BxF.ends F (z2, true));
 let z9 := BxF.way F z2 z5;
 let z10 := BxF.fenE F z2;
 let z11 := Prod.fst (Prod.snd (Prod.fst z10));
 let z12 := Lv.llen L (Ty.sl In) z11;
 let z13 := Lv.inR L 0 z12;
 let z14 := Lv.get L (Ty.sl In) z11 (Lv.toN L 0);
 let z15 := Lv.llen L In z14;
 let z16 := Prod.fst z6;
 let z17 := Prod.snd (AwF.ce G 0 1);
 let z18 := Prod.snd (AwF.ce G 1 0);
 let z19 := Prod.snd (AwF.ce G 1 1);
 let z20 := (Lv.take L En [z5, (Prod.fst (AwF.ce G 0 1), Prod.fst z17, Prod.snd z17), (Prod.fst (AwF.ce G 1 0), Prod.fst z18, Prod.snd z18), (Prod.fst (AwF.ce G 1 1), Prod.fst z19,
   Prod.snd z19)] 4);
 let z21 := Lv.llen L En z20;
 let z22 := Lv.cast L z21;
 let z23 := Prod.fst z8;
 let z24 := Lv.drop L En (Lv.take L En z20 (Lv.toN L z22)) (Lv.toN L 1);
 let z25 := Prod.fst z9;
 let z26 := (Lv.take L It [0, 0, 0, 0, 1, 1, 1, 0, 0, 0] 10);
 let z27 := Lv.get L In z14 (Lv.toN L 2);
 let z28 := Prod.snd z27;
 let z29 := Prod.snd z28;
 let z30 := Prod.snd z29;
 let z31 := Prod.snd z30; VC.obl True (VC.obl z3 (VC.obl True (VC.obl z3 (VC.obl True (VC.obl True (VC.obl (BxF.pWay F z2 z5) (VC.obl True (VC.obl z3 (VC.br (Lv.cmp L BinOp.neq
   (Prod.snd (Prod.snd z6)) 0) (VC.ok ((false, ()) = z7)) (VC.br (Lv.cmp L BinOp.neq (Prod.snd (Prod.snd z8)) 0) (VC.ok ((false, ()) = z7)) (VC.br (Lv.cmp L BinOp.neq (Prod.snd z9)
   0) (VC.ok ((false, ()) = z7)) (VC.br (Lv.cmp L BinOp.neq (Prod.snd z10) 0) (VC.ok ((false, ()) = z7)) (VC.br (Lv.cmp L BinOp.neq (Lv.cast L z12) 2) (VC.ok ((false, ()) = z7))
   (VC.obl z13 (VC.br (Lv.cmp L BinOp.neq (Lv.cast L z15) 5) (VC.ok ((false, ()) = z7)) (VC.obl True (VC.obl True (VC.obl True (VC.obl True (VC.obl (BxF.ble F z16 ∧ BxF.ble F z20)
   (VC.br (BxF.sameEs F z16 z20) (VC.obl (Lv.le3 L 1 z22 z21) (VC.obl (BxF.ble F z23 ∧ BxF.ble F z24) (VC.br (BxF.sameEs F z23 z24) (VC.obl (BxF.bl F z25 ∧ BxF.bl F z26) (VC.br
   (BxF.sameL F z25 z26) (VC.obl z13 (VC.obl (Lv.inR L 2 z15) (VC.br (Lv.band L (Lv.cmp L BinOp.eql (Prod.fst z27) 11) (Lv.band L (Lv.cmp L BinOp.eql (Prod.fst z28) 0) (Lv.band L
   (Lv.cmp L BinOp.eql (Prod.fst z29) 0) (Lv.band L (Lv.cmp L BinOp.eql (Prod.fst z30) 0) (Lv.band L (Lv.cmp L BinOp.eql (Prod.fst z31) 0) (Lv.band L (Lv.cmp L BinOp.eql (Prod.snd
   z31) 0) true)))))) (VC.ok ((true, ()) = z7)) (VC.ok ((false, ()) = z7))))) (VC.ok ((false, ()) = z7)))) (VC.ok ((false, ()) = z7))))) (VC.ok ((false, ()) =
   z7)))))))))))))))))))))))
theorem n18_eq (L : Lv) (F : BxF) (G : AwF) : vcO L F (oAw G) [19, 21, 24, 27, 29, 35, 60, 61] 3 (D18x a0) (S18 G) () = n18 L F G := by kernel_rfl
theorem n18_go (L : Lv) (F : BxF) (G : AwF) (h : VC.holds (n18 L F G)) : Holds (vcO L F (oAw G) [19, 21, 24, 27, 29, 35, 60, 61] 3 (D18x a0) (S18 G) ()) := Holds.of_eq (n18_eq L F G) h
instance decSEn (e : EnD) : Decidable (sEn e) := by unfold sEn; infer_instance
theorem cr_fen : fenF crP = (([0, 0], [[insF 1 1 [1], insF 9 0 [1], (11, 0, 0, 0, 0, 0), insF 8 1 [2], insF 15 0 [2]], [insF 1 1 [1], insF 9 1 [1], (11, 0, 0, 0, 0, 0), insF 8 0 [2], insF 15 0 [2]]], 1), 0) := by kernel_rfl
theorem ok18 (F : BxF) (G : AwF) (g : G.cr = crP) (g1 : G.ce = fun a b => ([1, 1], [[a], [b]], [1, 1])) (g2 : G.aw = true) (h : F.ends = endsG (fun l => List.mergeSort (α := EnD) l fun x y => !(Go.Proofs.ltOf cmpEF) y x) compL) (h1 : F.way = wayG) (h2 : F.fenE = fenF) (h3 : F.sameEs = fun a b => decide (a = b)) (h4 : F.sameL = fun a b => decide (a = b))
    (q : F.bw = bW) (q1 : F.pWay = fun p _ => bW p) (q2 : F.ble = fun l => l.length ≤ 1000000 ∧ ∀ e ∈ l, sEn e) (q3 : F.bl = bL)
    (k1 : SpecOk prog 19 (S19 F)) (k2 : SpecOk prog 21 (S21 F)) (k3 : SpecOk prog 24 (S24 F)) (k4 : SpecOk prog 27 (S27 F)) (k5 : SpecOk prog 29 (S29 F)) (k6 : SpecOk prog 35 (S35 F)) (k7 : SpecOk prog 60 (S60 G)) (k8 : SpecOk prog 61 (S61 G)) : SpecOk prog 18 (S18 G) := by
  refine contract_by hm hE (D18x) fnok18x _ fun (z : Unit) hpre => ?_
  refine pack _ 3 a0 (only_tab (T := tabO (oAw G) (cT F)) (l := [19, 21, 24, 27, 29, 35, 60, 61]) (tb_cons (tb_sp k1 (by kernel_rfl)) (tb_cons (tb_sp k2 (by kernel_rfl)) (tb_cons (tb_sp k3 (by kernel_rfl)) (tb_cons (tb_sp k4 (by kernel_rfl)) (tb_cons (tb_sp k5 (by kernel_rfl)) (tb_cons (tb_sp k6 (by kernel_rfl)) (tb_cons (tb_sp k7 (by kernel_rfl)) (tb_cons (tb_sp k8 (by kernel_rfl)) tb_nil))))))))) ?_
  refine n18_go Lv.std F G ?_
  have c1 : (crP.1, crP.2.1, crP.2.2) = crP := rfl
  have b1 : bW crP := ⟨by decide, by decide, by decide⟩
  simp only [n18, VC.holds, std_cmp, std_scmp, std_ar_add, std_ar_sub, std_ar_mul, std_ar, std_dv, std_shf, std_conv, std_mn, std_mx, std_beq, std_bnot, std_band, std_scat, std_byte, std_ext, std_slen, std_strOf, std_bytes, std_llen, std_get, std_setl, std_app, std_take, std_drop, std_rep, std_mhas, std_mval, std_mput, std_cast, std_toN, std_sub, std_add, std_inR, std_le3, std_leN, std_ltN, std_ne0, std_nonneg, std_catOk, std_room, std_mkOk, std_nth, std_cnt, cmp_lss_t, cmp_lss_f, cmp_leq_t, cmp_leq_f, cmp_gtr_t, cmp_gtr_f, cmp_geq_t, cmp_geq_f, cmp_eql_t, cmp_eql_f, cmp_neq_t, cmp_neq_f, scmp_eql_t, scmp_eql_f, scmp_neq_t, scmp_neq_f, dflt_int, dflt_bool, dflt_str, dflt_sl, dflt_pair, g, g1, g2, h, h1, h2, h3, h4, q, q1, q2, q3, c1, cr_ends, cr_ends1, cr_way, cr_fen, and_true, true_and]
  refine ⟨b1, b1, b1, b1, ?_⟩
  repeat' (first | rfl | decide | apply And.intro | intro _)
  all_goals first | rfl | decide | (rename_i hh; exact absurd hh (by decide)) | skip
  all_goals (show List.length _ ≤ 1000000; decide)
end Go.Proofs.Tryz
set_option autoImplicit false
set_option linter.all false
namespace Go.Proofs.Tryz
open Go Go.VM
set_option maxRecDepth 100000
def a20 (L : Lv) (I : Ds [.sl (.sl In), It] → Prop) (mu : Ds [.sl (.sl In), It] → Nat) : Nat → LAnn
  | 0 => anH L [1, 2, 3, 4] [(3, some 1, 54, .sl In)] [.br 3 1 (.sl In), .s 4 It] I mu
  | _ => .no
def a25 (L : Lv) (I : Ds [.sl (.sl It), It] → Prop) (mu : Ds [.sl (.sl It), It] → Nat) : Nat → LAnn
  | 0 => anH L [1, 2, 3, 4] [(3, some 1, 22, .sl It)] [.br 3 1 (.sl It), .s 4 It] I mu
  | _ => .no
def n20 (L : Lv) (F : BxF) (I : Ds [.sl (.sl In), It] → Prop) (mu : Ds [.sl (.sl In), It] → Nat) (p : WkD)  : VC :=
 let z1 := Lv.take L It [] 0;
 let z2 := Prod.fst p;
 let z3 := Lv.add L (Lv.llen L It z1) (Lv.llen L It z2);
 let z4 := Prod.snd p;
 let z5 := Prod.fst z4;
 let z6 := Prod.snd z4;
 let z7 := Lv.app L It z1 z2;
 let z8 := List (Int × Int × Int × Int × Int × Int);
 let z9 := Lv.llen L (Ty.sl In) z5;
 let z10 := Lv.take L In [] 0;
 let z11 := Lv.llen L In z10; VC.obl (Lv.room L z3 8) (VC.obl (St.mk 32 [(1, V.c (C.ptr 1 0)), (2, V.c (C.ptr 2 0)), (3, V.c (C.ptr 3 0)), (4, V.c (C.int IntKind.i64 0))] [(0,
   Ob.amb), (1, Ob.box 25 [C.sl It z2, C.sl (Ty.sl In) z5, C.int IntKind.i64 z6]), (2, Ob.box 25 [C.nils, C.nils, C.int IntKind.i64 0]), (3, Ob.box 25 [C.own 5 z3, C.own 7 0, C.int
   IntKind.i64 z6]), (5, Ob.row 3 It z7), (7, Ob.row 54 (Ty.sl In) [])] 8 = St.mk 32 [(1, V.c (C.ptr 1 0)), (2, V.c (C.ptr 2 0)), (3, V.c (C.ptr 3 0)), (4, V.c (C.int IntKind.i64
   0))] [(0, Ob.amb), (1, Ob.box 25 [C.sl It z2, C.sl (Ty.sl In) z5, C.int IntKind.i64 z6]), (2, Ob.box 25 [C.nils, C.nils, C.int IntKind.i64 0]), (3, Ob.box 25 [C.own 5 z3, C.own 7
   (Lv.llen L (Ty.sl In) []), C.int IntKind.i64 z6]), (5, Ob.row 3 It z7), (7, Ob.row 54 (Ty.sl In) [])] 8) (VC.obl (I ([], 0, ())) (VC.all (List z8 × Int × Unit) fun (v1 : List
   (List (Int × Int × Int × Int × Int × Int)) × Int × Unit) =>
 let z12 := Prod.fst (Prod.snd v1);
 let z13 := Lv.get L (Ty.sl In) z5 (Lv.toN L z12);
 let z14 := Lv.add L z11 (Lv.llen L In z13);
 let z15 := Prod.fst v1;
 let z16 := Lv.llen L (Ty.sl In) z15;
 let z17 := Lv.take L (Ty.sl In) z15 z16;
 let z18 := Lv.take L (Ty.sl In) [Lv.take L In (Lv.app L In z10 z13) z14] 1;
 let z19 := Lv.add L (Lv.llen L (Ty.sl In) z17) (Lv.llen L (Ty.sl In) z18);
 let z20 := Lv.ar L BinOp.add IntKind.i64 z12 1;
 let z21 := Lv.app L (Ty.sl In) z17 z18;
 let z22 := (Lv.app L (Ty.sl In) z17 z18, Lv.ar L BinOp.add IntKind.i64 z12 1, ()); VC.imp (I v1) (VC.br (Lv.cmp L BinOp.lss z12 (Lv.cast L z9)) (VC.obl (Lv.inR L z12 z9) (VC.obl
   (Lv.room L z14 48) (VC.obl (Lv.room L z19 24) (VC.ok (St.mk 32 [(1, V.c (C.ptr 1 0)), (2, V.c (C.ptr 2 0)), (3, V.c (C.ptr 3 0)), (4, V.c (C.int IntKind.i64 z20))] [(0, Ob.amb),
   (1, Ob.box 25 [C.sl It z2, C.sl (Ty.sl In) z5, C.int IntKind.i64 z6]), (2, Ob.box 25 [C.nils, C.nils, C.int IntKind.i64 0]), (3, Ob.box 25 [C.own 5 z3, C.own 7 z19, C.int
   IntKind.i64 z6]), (5, Ob.row 3 It z7), (7, Ob.row 54 (Ty.sl In) z21)] 8 = St.mk 32 [(1, V.c (C.ptr 1 0)), (2, V.c (C.ptr 2 0)), (3, V.c (C.ptr 3 0)), (4, V.c (C.int IntKind.i64
   z20))] [(0, Ob.amb), (1, Ob.box 25 [C.sl It z2, C.sl (Ty.sl In) z5, C.int IntKind.i64 z6]), (2, Ob.box 25 [C.nils, C.nils, C.int IntKind.i64 0]), (3, Ob.box 25 [C.own 5 z3, C.own
   7 (Lv.llen L (Ty.sl In) z21), C.int IntKind.i64 z6]), (5, Ob.row 3 It z7), (7, Ob.row 54 (Ty.sl In) z21)] 8 ∧ I z22 ∧ mu z22 < mu v1))))) (VC.ok (((Lv.take L It z7 z3, Lv.take L
   (Ty.sl In) z15 z16, Prod.snd z4), ()) = (p, ())))))))
theorem n20_eq (L : Lv) (F : BxF) (I : Ds [.sl (.sl In), It] → Prop) (mu : Ds [.sl (.sl In), It] → Nat) (p : WkD) : vcC L F [] (D20 (a20 L I mu)) (S20 F) (p, ()) = n20 L F I mu p := by kernel_rfl
theorem n20_go (L : Lv) (F : BxF) (I : Ds [.sl (.sl In), It] → Prop) (mu : Ds [.sl (.sl In), It] → Nat) (p : WkD) (h : VC.holds (n20 L F I mu p)) : Holds (vcC L F [] (D20 (a20 L I mu)) (S20 F) (p, ())) := Holds.of_eq (n20_eq L F I mu p) h
theorem ok20 (F : BxF) (hp : F.bw = bW) : SpecOk prog 20 (S20 F) := by
  refine contract_by hm hE D20 fnok20 _ fun (z : WkD × Unit) hpre => ?_
  obtain ⟨p, ⟨⟩⟩ := z
  have hpre' : F.bw p := hpre
  rw [hp] at hpre'
  obtain ⟨g1, g2, g3⟩ := hpre'
  let I : List (List InD) × Int × Unit → Prop := fun x => (0 ≤ x.2.1 ∧ x.2.1 ≤ p.2.1.length) ∧ x.1 = p.2.1.take x.2.1.toNat
  let mu : List (List InD) × Int × Unit → Nat := fun x => (p.2.1.length - x.2.1).toNat
  refine pack _ 3 (a20 Lv.std I mu) (only_tab (T := cT F) (l := []) tb_nil) ?_
  refine n20_go Lv.std F I mu p ?_
  simp only [n20, VC.holds, std_cmp, std_scmp, std_ar_add, std_ar_sub, std_ar_mul, std_ar, std_dv, std_shf, std_conv, std_mn, std_mx, std_beq, std_bnot, std_band, std_scat, std_byte, std_ext, std_slen, std_strOf, std_bytes, std_llen, std_get, std_setl, std_app, std_take, std_drop, std_rep, std_mhas, std_mval, std_mput, std_cast, std_toN, std_sub, std_add, std_inR, std_le3, std_leN, std_ltN, std_ne0, std_nonneg, std_catOk, std_room, std_mkOk, std_nth, std_cnt, cmp_lss_t, cmp_lss_f, cmp_leq_t, cmp_leq_f, cmp_gtr_t, cmp_gtr_f, cmp_geq_t, cmp_geq_f, cmp_eql_t, cmp_eql_f, cmp_neq_t, cmp_neq_f, scmp_eql_t, scmp_eql_f, scmp_neq_t, scmp_neq_f, dflt_int, dflt_bool, dflt_str, dflt_sl, dflt_pair, List.take_length, List.take_succ_cons, List.take_zero, List.take_nil, List.nil_append, List.length_append, List.length_cons, List.length_nil, Nat.zero_add, pe5, Prod.mk.injEq, and_true, true_and]
  refine ⟨⟨by omega, by omega⟩, ⟨⟨Int.le_refl 0, by show (0 : Int) ≤ p.2.1.length; omega⟩, rfl⟩, ?_⟩
  rintro ⟨l, x, ⟨⟩⟩ ⟨⟨i1, i2⟩, i3⟩
  simp only at i1 i2 i3 ⊢
  obtain ⟨k, rfl⟩ := nat_of i1
  rw [Int.toNat_natCast] at i3
  subst i3
  have hl : (p.2.1.take k).length = k := by rw [List.length_take]; omega
  rw [hl, Int.toNat_natCast]
  refine ⟨fun hlt => ?_, fun hge => ?_⟩
  · have hk : k < p.2.1.length := by omega
    rw [wr hlt g2, List.getElem?_eq_getElem hk, Option.getD_some]
    have b1 := g3 _ (List.getElem_mem hk)
    refine ⟨⟨i1, hlt⟩, ⟨by omega, by omega⟩, ⟨by omega, by omega⟩, ⟨⟨by show (0 : Int) ≤ ((k + 1 : Nat) : Int); omega, by show ((k + 1 : Nat) : Int) ≤ _; omega⟩, ?_⟩, by show ((p.2.1.length : Int) - ((k + 1 : Nat) : Int)).toNat < ((p.2.1.length : Int) - k).toNat; omega⟩
    show p.2.1.take k ++ [p.2.1[k]] = p.2.1.take ((k + 1 : Nat) : Int).toNat
    rw [Int.toNat_natCast, List.take_succ, List.getElem?_eq_getElem hk]; rfl
  · rw [List.take_of_length_le (by omega)]
end Go.Proofs.Tryz
set_option autoImplicit false
set_option linter.all false
namespace Go.Proofs.Tryz
open Go Go.VM
set_option maxRecDepth 100000
def aT3 (L : Lv) (I : Ds [It] → Prop) (mu : Ds [It] → Nat) : Nat → LAnn
  | 0 => anH L [1, 3] [] [.s 3 It] I mu
  | _ => .no
def bwTF (p : WkD) : Prop := p.1.length ≤ 9223372036854775807 ∧ p.2.1.length ≤ 9223372036854775807 ∧ ∀ l ∈ p.2.1, l.length ≤ 9223372036854775807
def bsTF (s : StD) : Prop := s.1.length ≤ 9223372036854775807 ∧ s.2.length ≤ 9223372036854775807
theorem wrB {k : Nat} {n : Nat} (h : (k : Int) < n) (hn : n ≤ 9223372036854775807) : IntKind.i64.wrap ((k : Int) + 1) = ((k + 1 : Nat) : Int) := by rw [wrap_i64 (by omega) (by omega)]; omega
end Go.Proofs.Tryz
set_option autoImplicit false
set_option linter.all false
namespace Go.Proofs.Tryz
open Go Go.VM
set_option maxRecDepth 100000
def a22 (L : Lv) (I0 I2 I4 : Ds [It] → Prop) (m0 m2 m4 : Ds [It] → Nat) (I6 : Int × Unit → Ds [It] → Prop) (m6 : Int × Unit → Ds [It] → Nat) : Nat → LAnn
  | 0 => anH L [1, 3] [] [.s 3 It] I0 m0
  | 2 => anH L [1, 4] [] [.s 4 It] I2 m2
  | 4 => anH L [1, 5] [] [.s 5 It] I4 m4
  | 6 => anE L [1, 5, 6] [] [.h (.s 5 It)] [.s 6 It] I6 m6
  | _ => .no
def n22 (L : Lv) (F : BxF) (I0 I2 I4 : Ds [It] → Prop) (m0 m2 m4 : Ds [It] → Nat) (I6 : Int × Unit → Ds [It] → Prop) (m6 : Int × Unit → Ds [It] → Nat) (p : WkD)  : VC :=
 let z1 := Prod.fst p;
 let z2 := Lv.llen L It z1;
 let z3 := Lv.cast L z2;
 let z4 := (BxF.check F p, ());
 let z5 := Prod.fst (Prod.snd p);
 let z6 := Lv.llen L (Ty.sl In) z5;
 let z7 := Lv.cast L z6;
 let z8 := Prod.snd (Prod.snd p);
 let z9 := Int × Unit; VC.br (Lv.cmp L BinOp.gtr z3 64) (VC.ok ((5, ()) = z4)) (VC.br (Lv.cmp L BinOp.gtr z7 4) (VC.ok ((5, ()) = z4)) (VC.obl (St.mk 92 [(1, V.c (C.ptr 1 0)), (3,
   V.c (C.int IntKind.i64 0))] [(0, Ob.amb), (1, Ob.box 25 [C.sl It z1, C.sl (Ty.sl In) z5, C.int IntKind.i64 z8])] 2 = St.mk 92 [(1, V.c (C.ptr 1 0)), (3, V.c (C.int IntKind.i64
   0))] [(0, Ob.amb), (1, Ob.box 25 [C.sl It z1, C.sl (Ty.sl In) z5, C.int IntKind.i64 z8])] 2) (VC.obl (I0 (0, ())) (VC.all z9 fun (v1 : Int × Unit) =>
 let z10 := Prod.fst v1;
 let z11 := Lv.ar L BinOp.add IntKind.i64 z10 1;
 let z12 := (Lv.ar L BinOp.add IntKind.i64 z10 1, ()); VC.imp (I0 v1) (VC.br (Lv.cmp L BinOp.lss z10 z7) (VC.obl (Lv.inR L z10 z6) (VC.br (Lv.cmp L BinOp.gtr (Lv.cast L (Lv.llen L
   In (Lv.get L (Ty.sl In) z5 (Lv.toN L z10)))) 200) (VC.ok ((5, ()) = z4)) (VC.ok (St.mk 92 [(1, V.c (C.ptr 1 0)), (3, V.c (C.int IntKind.i64 z11))] [(0, Ob.amb), (1, Ob.box 25
   [C.sl It z1, C.sl (Ty.sl In) z5, C.int IntKind.i64 z8])] 2 = St.mk 92 [(1, V.c (C.ptr 1 0)), (3, V.c (C.int IntKind.i64 z11))] [(0, Ob.amb), (1, Ob.box 25 [C.sl It z1, C.sl
   (Ty.sl In) z5, C.int IntKind.i64 z8])] 2 ∧ I0 z12 ∧ m0 z12 < m0 v1)))) (VC.obl True (VC.br (BxF.within F z8 1 8) (VC.obl (St.mk 92 [(1, V.c (C.ptr 1 0)), (4, V.c (C.int
   IntKind.i64 0))] [(0, Ob.amb), (1, Ob.box 25 [C.sl It z1, C.sl (Ty.sl In) z5, C.int IntKind.i64 z8])] 2 = St.mk 92 [(1, V.c (C.ptr 1 0)), (4, V.c (C.int IntKind.i64 0))] [(0,
   Ob.amb), (1, Ob.box 25 [C.sl It z1, C.sl (Ty.sl In) z5, C.int IntKind.i64 z8])] 2) (VC.obl (I2 (0, ())) (VC.all z9 fun (v2 : Int × Unit) =>
 let z13 := Prod.fst v2;
 let z14 := Lv.ar L BinOp.add IntKind.i64 z13 1;
 let z15 := (Lv.ar L BinOp.add IntKind.i64 z13 1, ()); VC.imp (I2 v2) (VC.br (Lv.cmp L BinOp.lss z13 z3) (VC.obl (Lv.inR L z13 z2) (VC.obl True (VC.br (BxF.isNum F (Lv.get L It z1
   (Lv.toN L z13))) (VC.ok (St.mk 92 [(1, V.c (C.ptr 1 0)), (4, V.c (C.int IntKind.i64 z14))] [(0, Ob.amb), (1, Ob.box 25 [C.sl It z1, C.sl (Ty.sl In) z5, C.int IntKind.i64 z8])] 2
   = St.mk 92 [(1, V.c (C.ptr 1 0)), (4, V.c (C.int IntKind.i64 z14))] [(0, Ob.amb), (1, Ob.box 25 [C.sl It z1, C.sl (Ty.sl In) z5, C.int IntKind.i64 z8])] 2 ∧ I2 z15 ∧ m2 z15 < m2
   v2)) (VC.ok ((3, ()) = z4))))) (VC.br (Lv.cmp L BinOp.eql z3 0) (VC.ok ((4, ()) = z4)) (VC.br (Lv.cmp L BinOp.eql z7 0) (VC.ok ((4, ()) = z4)) (VC.obl (St.mk 92 [(1, V.c (C.ptr 1
   0)), (5, V.c (C.int IntKind.i64 0))] [(0, Ob.amb), (1, Ob.box 25 [C.sl It z1, C.sl (Ty.sl In) z5, C.int IntKind.i64 z8])] 2 = St.mk 92 [(1, V.c (C.ptr 1 0)), (5, V.c (C.int
   IntKind.i64 0))] [(0, Ob.amb), (1, Ob.box 25 [C.sl It z1, C.sl (Ty.sl In) z5, C.int IntKind.i64 z8])] 2) (VC.obl (I4 (0, ())) (VC.all z9 fun (v3 : Int × Unit) =>
 let z16 := Prod.fst v3;
 let z17 := (Prod.fst v3, ());
 let z18 := Lv.inR L z16 z6;
 let z19 := Lv.get L (Ty.sl In) z5 (Lv.toN L z16);
 let z20 := Lv.llen L In z19;
 let z21 := Lv.cast L z20;
 let z22 := Lv.ar L BinOp.add IntKind.i64 z16 1;
 let z23 := (Lv.ar L BinOp.add IntKind.i64 z16 1, ()); VC.imp (I4 v3) (VC.br (Lv.cmp L BinOp.lss z16 z7) (VC.obl (St.mk 92 [(1, V.c (C.ptr 1 0)), (5, V.c (C.int IntKind.i64 z16)),
   (6, V.c (C.int IntKind.i64 0))] [(0, Ob.amb), (1, Ob.box 25 [C.sl It z1, C.sl (Ty.sl In) z5, C.int IntKind.i64 z8])] 2 = St.mk 92 [(1, V.c (C.ptr 1 0)), (5, V.c (C.int
   IntKind.i64 z16)), (6, V.c (C.int IntKind.i64 0))] [(0, Ob.amb), (1, Ob.box 25 [C.sl It z1, C.sl (Ty.sl In) z5, C.int IntKind.i64 z8])] 2) (VC.obl (I6 z17 (0, ())) (VC.all z9 fun
   (v4 : Int × Unit) =>
 let z24 := Prod.fst v4;
 let z25 := Lv.get L In z19 (Lv.toN L z24);
 let z26 := Prod.snd z25;
 let z27 := Prod.snd z26;
 let z28 := Prod.snd z27;
 let z29 := Prod.snd z28;
 let z30 := Lv.ar L BinOp.add IntKind.i64 z24 1;
 let z31 := (Lv.ar L BinOp.add IntKind.i64 z24 1, ()); VC.imp (I6 z17 v4) (VC.obl z18 (VC.br (Lv.cmp L BinOp.lss z24 z21) (VC.obl z18 (VC.obl (Lv.inR L z24 z20) (VC.obl z18 (VC.obl
   True (VC.br (BxF.isIns F (Prod.fst z25, Prod.fst z26, Prod.fst z27, Prod.fst z28, Prod.fst z29, Prod.snd z29) z21) (VC.ok (St.mk 92 [(1, V.c (C.ptr 1 0)), (5, V.c (C.int
   IntKind.i64 z16)), (6, V.c (C.int IntKind.i64 z30))] [(0, Ob.amb), (1, Ob.box 25 [C.sl It z1, C.sl (Ty.sl In) z5, C.int IntKind.i64 z8])] 2 = St.mk 92 [(1, V.c (C.ptr 1 0)), (5,
   V.c (C.int IntKind.i64 z16)), (6, V.c (C.int IntKind.i64 z30))] [(0, Ob.amb), (1, Ob.box 25 [C.sl It z1, C.sl (Ty.sl In) z5, C.int IntKind.i64 z8])] 2 ∧ I6 z17 z31 ∧ m6 z17 z31 <
   m6 z17 v4)) (VC.ok ((4, ()) = z4))))))) (VC.ok (St.mk 92 [(1, V.c (C.ptr 1 0)), (5, V.c (C.int IntKind.i64 z22))] [(0, Ob.amb), (1, Ob.box 25 [C.sl It z1, C.sl (Ty.sl In) z5,
   C.int IntKind.i64 z8])] 2 = St.mk 92 [(1, V.c (C.ptr 1 0)), (5, V.c (C.int IntKind.i64 z22))] [(0, Ob.amb), (1, Ob.box 25 [C.sl It z1, C.sl (Ty.sl In) z5, C.int IntKind.i64 z8])]
   2 ∧ I4 z23 ∧ m4 z23 < m4 v3))))))) (VC.ok ((0, ()) = z4)))))))))))) (VC.ok ((3, ()) = z4)))))))))
theorem n22_eq (L : Lv) (F : BxF) (I0 I2 I4 : Ds [It] → Prop) (m0 m2 m4 : Ds [It] → Nat) (I6 : Int × Unit → Ds [It] → Prop) (m6 : Int × Unit → Ds [It] → Nat) (p : WkD) : vcC L F [54, 63, 64] (D22 (a22 L I0 I2 I4 m0 m2 m4 I6 m6)) (S22 F) (p, ()) = n22 L F I0 I2 I4 m0 m2 m4 I6 m6 p := by kernel_rfl
theorem n22_go (L : Lv) (F : BxF) (I0 I2 I4 : Ds [It] → Prop) (m0 m2 m4 : Ds [It] → Nat) (I6 : Int × Unit → Ds [It] → Prop) (m6 : Int × Unit → Ds [It] → Nat) (p : WkD) (h : VC.holds (n22 L F I0 I2 I4 m0 m2 m4 I6 m6 p)) : Holds (vcC L F [54, 63, 64] (D22 (a22 L I0 I2 I4 m0 m2 m4 I6 m6)) (S22 F) (p, ())) := Holds.of_eq (n22_eq L F I0 I2 I4 m0 m2 m4 I6 m6 p) h
theorem ok22 (F : BxF) (h : F.check = checkF) (h1 : F.isNum = isNumF) (h2 : F.within = withinF) (h3 : F.isIns = insOkF) (hp : F.bw = bW) (k1 : SpecOk prog 54 (S86 F)) (k2 : SpecOk prog 63 (S92 F)) (k3 : SpecOk prog 64 (S84 F)) : SpecOk prog 22 (S22 F) := by
  refine contract_by hm hE D22 fnok22 _ fun (z : WkD × Unit) hpre => ?_
  obtain ⟨p, ⟨⟩⟩ := z
  have hpre' : F.bw p := hpre
  rw [hp] at hpre'
  obtain ⟨g1, g2, g3⟩ := hpre'
  let ll : Nat → List InD := fun k => (p.2.1[k]?).getD []
  let I0 : Int × Unit → Prop := Iv p.2.1.length fun k => (p.2.1.drop k).any longL = p.2.1.any longL
  let I2 : Int × Unit → Prop := Iv p.1.length fun k => (p.1.drop k).all isNumF = numsF p.1
  let I4 : Int × Unit → Prop := Iv p.2.1.length fun k => (p.2.1.drop k).all listOk = p.2.1.all listOk
  let I6 : Int × Unit → Int × Unit → Prop := fun e => Iv (ll e.1.toNat).length fun k => ((ll e.1.toNat).drop k).all (fun i => insOkF i (ll e.1.toNat).length) = listOk (ll e.1.toNat)
  refine pack _ 3 (a22 Lv.std I0 I2 I4 (Mu p.2.1.length) (Mu p.1.length) (Mu p.2.1.length) I6 (fun e => Mu (ll e.1.toNat).length)) (only_tab (T := cT F) (l := [54, 63, 64])
    (tb_cons (tb_sp k1 (by kernel_rfl)) (tb_cons (tb_sp k2 (by kernel_rfl)) (tb_cons (tb_sp k3 (by kernel_rfl)) tb_nil)))) ?_
  refine n22_go Lv.std F I0 I2 I4 (Mu p.2.1.length) (Mu p.1.length) (Mu p.2.1.length) I6 (fun e => Mu (ll e.1.toNat).length) p ?_
  have eI : ∀ (l : List (List InD)) (k : Int), Lv.std.get (.sl In) l k.toNat = (l[k.toNat]?).getD [] := fun _ _ => rfl
  have eJ : ∀ (l : List InD) (k : Int), Lv.std.get In l k.toNat = insIn l k := fun _ _ => rfl
  have eK : ∀ (l : List Int) (k : Int), Lv.std.get It l k.toNat = (l[k.toNat]?).getD 0 := fun _ _ => rfl
  have ms : ∀ k, k < p.2.1.length → ((p.2.1[k]?).getD []).length ≤ 1000000 := fun k hk => by rw [List.getElem?_eq_getElem hk]; exact g3 _ (List.getElem_mem hk)
  simp only [n22, VC.holds, std_cmp, std_cast, std_llen, std_toN, eI, eJ, eK, std_inR, std_ar_add, cmp_lss_t, cmp_lss_f, cmp_gtr_t, cmp_gtr_f, cmp_geq_t, cmp_geq_f, cmp_eql_t, cmp_eql_f, h, h1, h2, h3, Prod.mk.injEq, and_true, true_and]
  refine ⟨fun c1 => (ck5a p (.inl (by omega))).symm, fun c1 => ⟨fun c2 => (ck5a p (.inr (by omega))).symm, fun c2 => ⟨Iv.zero (by simp), fun x hx => ?_⟩⟩⟩
  have n1 : ¬ (64 < p.1.length ∨ 4 < p.2.1.length) := by omega
  obtain ⟨k, rfl, hk, i3⟩ := Iv.elim hx
  simp only [Int.toNat_natCast] at i3 ⊢
  refine ⟨fun hlt => ⟨⟨by omega, hlt⟩, fun hl => ?_, fun hl => ?_⟩, fun hge => ⟨fun hw => ⟨Iv.zero rfl, fun x hx => ?_⟩, fun hw => ?_⟩⟩
  · rw [any_drop longL _ k [] (by omega), show longL ((p.2.1[k]?).getD []) = true from decide_eq_true hl, Bool.true_or] at i3
    exact (ck5b p n1 i3.symm).symm
  · rw [any_drop longL _ k [] (by omega), show longL ((p.2.1[k]?).getD []) = false from decide_eq_false (by omega), Bool.false_or] at i3
    rw [wr hlt g2]
    exact ⟨Iv.mk (by omega) i3, Mu.lt (by omega)⟩
  · rw [show k = p.2.1.length by omega, List.drop_length] at i3
    have n2 : p.2.1.any longL = false := i3.symm
    obtain ⟨k, rfl, hk, j3⟩ := Iv.elim hx
    simp only [Int.toNat_natCast] at j3 ⊢
    refine ⟨fun hlt => ⟨⟨by omega, hlt⟩, fun hn => ?_, fun hn => ?_⟩, fun hge => ?_⟩
    · rw [all_drop isNumF _ k 0 (by omega), hn, Bool.true_and] at j3
      rw [wr hlt g1]
      exact ⟨Iv.mk (by omega) j3, Mu.lt (by omega)⟩
    · rw [all_drop isNumF _ k 0 (by omega), hn, Bool.false_and] at j3
      exact (ck3 p n1 n2 (.inr j3.symm)).symm
    · rw [show k = p.1.length by omega, List.drop_length] at j3
      have hn : numsF p.1 = true := j3.symm
      refine ⟨fun hz => (ck4a p n1 n2 hw hn (.inl (by omega))).symm, fun hz => ⟨fun hy => (ck4a p n1 n2 hw hn (.inr (by omega))).symm, fun hy => ⟨Iv.zero rfl, fun x hx => ?_⟩⟩⟩
      have hz' : ¬ (p.1.length = 0 ∨ p.2.1.length = 0) := by omega
      obtain ⟨k, rfl, hk, j3⟩ := Iv.elim hx
      simp only [Int.toNat_natCast] at j3 ⊢
      refine ⟨fun hlt => ⟨Iv.zero rfl, fun y hy' => ?_⟩, fun hge => ?_⟩
      · have hk' : k < p.2.1.length := by omega
        have hy2 : Iv ((p.2.1[k]?).getD []).length (fun j => (((p.2.1[k]?).getD []).drop j).all (fun i => insOkF i ((p.2.1[k]?).getD []).length) = listOk ((p.2.1[k]?).getD [])) y := hy'
        obtain ⟨j, rfl, hj, m3⟩ := Iv.elim hy2
        simp only [Int.toNat_natCast]
        refine ⟨⟨by omega, hlt⟩, fun hlt2 => ⟨⟨by omega, hlt⟩, ⟨by omega, hlt2⟩, ⟨by omega, hlt⟩, fun hi => ?_, fun hi => ?_⟩, fun hge2 => ?_⟩
        · rw [wr hlt2 (ms k hk')]
          rw [all_drop _ _ j (0, 0, 0, 0, 0, 0) (by omega)] at m3
          have hi' : insOkF (insIn ((p.2.1[k]?).getD []) j) (((p.2.1[k]?).getD []).length : Int) = true := hi
          rw [show insOkF ((((p.2.1[k]?).getD [])[j]?).getD (0, 0, 0, 0, 0, 0)) (((p.2.1[k]?).getD []).length : Int) = true from hi', Bool.true_and] at m3
          exact ⟨Iv.mk (P := fun j => (((p.2.1[k]?).getD []).drop j).all (fun i => insOkF i ((p.2.1[k]?).getD []).length) = listOk ((p.2.1[k]?).getD [])) (by show j + 1 ≤ ((p.2.1[k]?).getD []).length; omega) m3, Mu.lt (n := ((p.2.1[k]?).getD []).length) (by omega)⟩
        · rw [all_drop _ _ j (0, 0, 0, 0, 0, 0) (by omega)] at m3
          have hi' : insOkF (insIn ((p.2.1[k]?).getD []) j) (((p.2.1[k]?).getD []).length : Int) = false := hi
          rw [show insOkF ((((p.2.1[k]?).getD [])[j]?).getD (0, 0, 0, 0, 0, 0)) (((p.2.1[k]?).getD []).length : Int) = false from hi', Bool.false_and] at m3
          rw [all_drop listOk _ k [] hk', show listOk ((p.2.1[k]?).getD []) = false from m3.symm, Bool.false_and] at j3
          exact (ck4b p n1 n2 hw hn hz' j3.symm).symm
        · rw [wr hlt g2]
          rw [show j = ((p.2.1[k]?).getD []).length by omega, List.drop_length] at m3
          rw [all_drop listOk _ k [] hk', show listOk ((p.2.1[k]?).getD []) = true from m3.symm, Bool.true_and] at j3
          exact ⟨Iv.mk (by omega) j3, Mu.lt (by omega)⟩
      · rw [show k = p.2.1.length by omega, List.drop_length] at j3
        exact (ck0 p n1 n2 hw hn hz' j3.symm).symm
  · rw [show k = p.2.1.length by omega, List.drop_length] at i3
    exact (ck3 p n1 i3.symm (.inl hw)).symm
end Go.Proofs.Tryz
set_option autoImplicit false
set_option linter.all false
namespace Go.Proofs.Tryz
open Go Go.VM
inductive Reach (m : McD) : Nat → StD → Prop
  | zero : Reach m 0 (firstF m.1)
  | step {n : Nat} {s : StD} {v : MvD} : Reach m n s → v ∈ movesF m s → Reach m (n + 1) (doF m s v)
structure BfsI (m : McD) (a : Nat) (l : List MtD) : Prop where
  first : l[0]? = some (firstF m.1, -1, 0)
  nodup : (l.map Prod.fst).Nodup
  par : ∀ (n : Nat) (x : MtD), l[n]? = some x → 0 < n → ∃ (b j : Nat) (y : MtD) (v : MvD), b < n ∧ b < a ∧ l[b]? = some y ∧ x = (doF m y.1 v, (b : Int), (j : Int)) ∧ (movesF m y.1)[j]? = some v
  mono : ∀ (n k : Nat) (x y : MtD), n ≤ k → l[n]? = some x → l[k]? = some y → x.2.1 ≤ y.2.1
  closed : ∀ (b : Nat) (y : MtD), b < a → l[b]? = some y → ∀ v ∈ movesF m y.1, ∃ (n : Nat) (x : MtD), l[n]? = some x ∧ x.1 = doF m y.1 v ∧ x.2.1 ≤ b
theorem met_iff {l : List MtD} {s : StD} : metIn l s = true ↔ ∃ (n : Nat) (x : MtD), l[n]? = some x ∧ x.1 = s := by
  unfold metIn
  rw [List.any_eq_true]
  constructor
  · rintro ⟨x, hx, he⟩
    obtain ⟨n, hn⟩ := List.getElem?_of_mem hx
    exact ⟨n, x, hn, of_decide_eq_true he⟩
  · rintro ⟨n, x, hn, he⟩
    exact ⟨x, List.mem_of_getElem? hn, decide_eq_true he⟩
structure AddI (m : McD) (a : Nat) (s : StD) (j : Nat) (l : List MtD) : Prop where
  first : l[0]? = some (firstF m.1, -1, 0)
  nodup : (l.map Prod.fst).Nodup
  par : ∀ (n : Nat) (x : MtD), l[n]? = some x → 0 < n → ∃ (b j : Nat) (y : MtD) (v : MvD), b < n ∧ b < a + 1 ∧ l[b]? = some y ∧ x = (doF m y.1 v, (b : Int), (j : Int)) ∧ (movesF m y.1)[j]? = some v
  mono : ∀ (n k : Nat) (x y : MtD), n ≤ k → l[n]? = some x → l[k]? = some y → x.2.1 ≤ y.2.1
  closed : ∀ (b : Nat) (y : MtD), b < a → l[b]? = some y → ∀ v ∈ movesF m y.1, ∃ (n : Nat) (x : MtD), l[n]? = some x ∧ x.1 = doF m y.1 v ∧ x.2.1 ≤ b
  cur : ∃ y : MtD, l[a]? = some y ∧ y.1 = s
  now : ∀ (i : Nat) (v : MvD), i < j → (movesF m s)[i]? = some v → ∃ (n : Nat) (x : MtD), l[n]? = some x ∧ x.1 = doF m s v ∧ x.2.1 ≤ a
theorem AddI.skip {m : McD} {a : Nat} {s : StD} {j : Nat} {l : List MtD} (h : AddI m a s j l) {v : MvD} (hv : (movesF m s)[j]? = some v) (hn : metIn l (doF m s v) = true) : AddI m a s (j + 1) l where
  first := h.first
  nodup := h.nodup
  par := h.par
  mono := h.mono
  closed := h.closed
  cur := h.cur
  now := fun i w hi hw => by
    by_cases e : i = j
    · subst e
      rw [hv] at hw; cases hw
      obtain ⟨n, x, h1, h2⟩ := met_iff.1 hn
      refine ⟨n, x, h1, h2, ?_⟩
      by_cases h0 : n = 0
      · subst h0; rw [h.first] at h1; cases h1; show (-1 : Int) ≤ (a : Int); omega
      · obtain ⟨b, k, z, w, h1, h2, h3, h4, h5⟩ := h.par n x h1 (by omega)
        rw [h4]; show (b : Int) ≤ (a : Int); omega
    · exact h.now i w (by omega) hw
theorem par_reach {m : McD} {a : Nat} {l : List MtD} (h0 : l[0]? = some (firstF m.1, -1, 0))
    (hp : ∀ (n : Nat) (x : MtD), l[n]? = some x → 0 < n → ∃ (b j : Nat) (y : MtD) (v : MvD), b < n ∧ b < a ∧ l[b]? = some y ∧ x = (doF m y.1 v, (b : Int), (j : Int)) ∧ (movesF m y.1)[j]? = some v) :
    ∀ (n : Nat) (x : MtD), l[n]? = some x → ∃ d, Reach m d x.1 := by
  intro n
  induction n using Nat.strongRecOn with
  | ind n ih =>
    intro x hx
    by_cases e : n = 0
    · subst e; rw [h0] at hx; cases hx; exact ⟨0, .zero⟩
    · obtain ⟨b, j, y, v, h1, _, h3, h4, h5⟩ := hp n x hx (by omega)
      obtain ⟨d, hd⟩ := ih b h1 y h3
      rw [h4]
      exact ⟨d + 1, .step hd (List.mem_of_getElem? h5)⟩
theorem BfsI.reach {m : McD} {l : List MtD} {a : Nat} (h : BfsI m a l) {n : Nat} {x : MtD} (hx : l[n]? = some x) : ∃ d, Reach m d x.1 := par_reach h.first h.par n x hx
end Go.Proofs.Tryz
set_option autoImplicit false
set_option linter.all false
namespace Go.Proofs.Tryz
open Go Go.VM
set_option maxRecDepth 100000
def pickF (m : McD) (s : StD) (l : List Int) (n : Nat) : MvD := ((movesF m s)[(if n < l.length then remF ((l[n]?).getD 0) (movesF m s).length else 0).toNat]?).getD (0, false)
def runN (m : McD) (l : List Int) : Nat → StD → StD × Int × Int
  | 0, s => if movesF m s = [] then (s, 3000, 0) else (([], []), 0, 5)
  | f + 1, s => if movesF m s = [] then (s, ((3000 - (f + 1) : Nat) : Int), 0) else runN m l f (doF m s (pickF m s l (3000 - (f + 1))))
end Go.Proofs.Tryz
set_option autoImplicit false
set_option linter.all false
namespace Go.Proofs.Tryz
open Go Go.VM
def pk (l : List MtD) (n : Nat) : List Int := picksN l (n + 1) n
section
variable {m : McD} {a : Nat} {l : List MtD}
end
end Go.Proofs.Tryz
set_option autoImplicit false
set_option linter.all false
namespace Go.Proofs.Tryz
open Go Go.VM
set_option maxRecDepth 100000
def a53 (L : Lv) (I : Ds [.sl It, It] → Prop) (mu : Ds [.sl It, It] → Nat) : Nat → LAnn
  | 0 => anH L [2, 4, 9, 29, 30] [] [.r 9 It, .s 30 It] I mu
  | _ => .no
end Go.Proofs.Tryz
set_option autoImplicit false
set_option linter.all false
namespace Go.Proofs.Tryz
open Go Go.VM
set_option maxRecDepth 100000
instance decTh5 : DecidableEq ThD := inferInstance
instance decSt5 : DecidableEq StD := inferInstance
instance decIn5 : DecidableEq InD := inferInstance
instance decWk5 : DecidableEq WkD := inferInstance
def a39 (L : Lv) (I : Ds [It] → Prop) (mu : Ds [It] → Nat) (I2 : Int × Unit → Ds [It] → Prop) (m2 : Int × Unit → Ds [It] → Nat) : Nat → LAnn
  | 0 => anH L [2, 3, 5] [] [.s 5 It] I mu
  | 2 => anE L [2, 3, 5, 6, 7, 8] [] [.h (.s 5 It)] [.s 8 It] I2 m2
  | _ => .no
end Go.Proofs.Tryz
set_option autoImplicit false
set_option linter.all false
namespace Go.Proofs.Tryz
open Go Go.VM
def rm (p : WkD) (r : Int) : WkD := (p.1, p.2.1, r)
end Go.Proofs.Tryz
set_option autoImplicit false
set_option linter.all false
namespace Go.Proofs.Tryz
open Go Go.VM
def own (t : ThD) (i : InD) : Option ThD :=
  let next := IntKind.i64.wrap (t.1 + 1)
  if i.1 = 13 then some (i.2.2.2.2.2, t.2)
  else if i.1 = 14 then some (if regF t.2.1 i.2.1 = 0 then i.2.2.2.2.2 else next, t.2)
  else if i.1 = 15 then (if t.2.2.2.1.length + 1 ≤ 20 then some (next, t.2.1, t.2.2.1, t.2.2.2.1 ++ [regF t.2.1 i.2.1], t.2.2.2.2) else none)
  else if i.1 = 1 ∨ i.1 = 2 ∨ i.1 = 3 ∨ i.1 = 4 ∨ i.1 = 5 ∨ i.1 = 6 ∨ i.1 = 7 then
    (let q := workedF t.2.1 i
    if q.2 = false then none else some (next, t.2.1.set i.2.1.toNat q.1, t.2.2))
  else some (next, t.2)
def memOp (i : InD) : Prop := i.1 = 8 ∨ i.1 = 9 ∨ i.1 = 10 ∨ i.1 = 12
instance (i : InD) : Decidable (memOp i) := by unfold memOp; infer_instance
end Go.Proofs.Tryz
set_option autoImplicit false
set_option linter.all false
namespace Go.Proofs.Tryz
open Go Go.VM
def sy (l : List InD) (t : ThD) : ThD := ((offN l t.1.toNat : Nat), t.2)
def FR (p : WkD) (k : Nat) (t' t : ThD) : Prop :=
  t' = sy (listAt (p, true) k) t
  ∨ (t.2.2.2.2 = false ∧ ∃ j : Nat, t.1 = ((j + 1 : Nat) : Int) ∧ j < (listAt (p, true) k).length ∧ (insIn (listAt (p, true) k) j).1 = 9 ∧ t' = ((offN (listAt (p, true) k) j : Int) + 1, t.2))
  ∨ (t.2.2.2.2 = false ∧ ∃ j : Nat, t.1 = (j : Int) ∧ j < (listAt (p, true) k).length ∧ (insIn (listAt (p, true) k) j).1 = 9 ∧ (placeF (p.1, []) t (insIn (listAt (p, true) k) j)).2 = true ∧
      t' = ((offN (listAt (p, true) k) j : Int) + 1, t.2.1, [((placeF (p.1, []) t (insIn (listAt (p, true) k) j)).1, regF t.2.1 (insIn (listAt (p, true) k) j).2.1)], t.2.2.2))
structure Rel (p : WkD) (s' s : StD) : Prop where
  w : s'.1 = s.1
  len : s'.2.length = s.2.length
  th : ∀ k : Nat, k < s.2.length → FR p k (thAt s' k) (thAt s k)
theorem Rel.one {p : WkD} {s' s : StD} (h : Rel p s' s) {j : Nat} (hj : j < s.2.length) {t' : ThD} (ht : FR p j t' (thAt s j)) : Rel p (s'.1, s'.2.set j t') s where
  w := h.w
  len := by rw [List.length_set]; exact h.len
  th := fun k hk => by
    rw [thAt_set (by rw [h.len]; exact hj)]
    by_cases e : k = j
    · subst e; rw [if_pos rfl]; exact ht
    · rw [if_neg (by omega)]; exact h.th k hk
theorem Rel.both {p : WkD} {s' s : StD} (h : Rel p s' s) {j : Nat} (hj : j < s.2.length) {t' t : ThD} (ht : FR p j t' t) (w : List Int) : Rel p (w, s'.2.set j t') (w, s.2.set j t) where
  w := rfl
  len := by rw [List.length_set, List.length_set]; exact h.len
  th := fun k hk => by
    rw [List.length_set] at hk
    rw [thAt_set (by rw [h.len]; exact hj), thAt_set hj]
    by_cases e : k = j
    · subst e; rw [if_pos rfl, if_pos rfl]; exact ht
    · rw [if_neg (by omega), if_neg (by omega)]; exact h.th k hk
structure Syn (p : WkD) (s' s : StD) : Prop where
  w : s'.1 = s.1
  len : s'.2.length = s.2.length
  th : ∀ k : Nat, k < s.2.length → thAt s' k = sy (listAt (p, true) k) (thAt s k)
theorem Syn.both {p : WkD} {s' s : StD} (h : Syn p s' s) {j : Nat} (hj : j < s.2.length) {t' t : ThD} (ht : t' = sy (listAt (p, true) j) t) (w : List Int) : Syn p (w, s'.2.set j t') (w, s.2.set j t) where
  w := rfl
  len := by rw [List.length_set, List.length_set]; exact h.len
  th := fun k hk => by
    rw [List.length_set] at hk
    rw [thAt_set (by rw [h.len]; exact hj), thAt_set hj]
    by_cases e : k = j
    · subst e; rw [if_pos rfl, if_pos rfl]; exact ht
    · rw [if_neg (by omega), if_neg (by omega)]; exact h.th k hk
end Go.Proofs.Tryz
set_option autoImplicit false
set_option linter.all false
namespace Go.Proofs.Tryz
open Go Go.VM
set_option maxRecDepth 100000
structure LwF where
  right : WkD → Bool
  pR : WkD → Prop
  pL : WkD → Prop
  list : WkD → List EnD × Bool
  picks : List Int → List Int
  pPicks : List Int → Prop
abbrev Tu : Ty := .wrap (.sl U8)
def a6 (L : Lv) (I : Ds [It] → Prop) (mu : Ds [It] → Nat) : Nat → LAnn
  | 0 => anH L [3, 5, 10, 12] [] [.s 12 It] I mu
  | _ => .no
def a7 (L : Lv) (I : Ds [It] → Prop) (mu : Ds [It] → Nat) : Nat → LAnn
  | 0 => anH L [6, 8, 10] [] [.s 10 It] I mu
  | _ => .no
def a8 (L : Lv) (I : Ds [It] → Prop) (mu : Ds [It] → Nat) (I2 : Int × Unit → Ds [It] → Prop) (m2 : Int × Unit → Ds [It] → Nat) : Nat → LAnn
  | 0 => anH L [2, 11] [] [.s 11 It] I mu
  | 2 => anE L [2, 11, 12] [] [.h (.s 11 It)] [.s 12 It] I2 m2
  | _ => .no
def a9 (L : Lv) (I : Ds [It] → Prop) (mu : Ds [It] → Nat) : Nat → LAnn
  | 0 => anH L [5, 6, 8, 10, 12] [] [.s 12 It] I mu
  | _ => .no
def n6 (L : Lv) (F : BxF) (G : AwF) (H : LwF) (I : Ds [It] → Prop) (mu : Ds [It] → Nat) (p : WkD)  : VC :=
 let z1 := Prod.snd p;
 let z2 := (Prod.fst p, Prod.fst z1, Prod.snd z1);
 let z3 := LwF.list H z2;
 let z4 := BxF.bw F z2;
 let z5 := BxF.fenE F z2;
 let z6 := Prod.snd z5;
 let z7 := Lv.cmp L BinOp.neq z6 0;
 let z8 := Lv.cmp L BinOp.eql z6 5;
 let z9 := Prod.fst z5;
 let z10 := Prod.snd z9;
 let z11 := (Prod.fst z9, Prod.fst z10, Prod.snd z10);
 let z12 := LwF.pL H z11;
 let z13 := LwF.list H z11;
 let z14 := Prod.snd z13;
 let z15 := (BxF.ends F (z2, true));
 let z16 := Lv.cmp L BinOp.neq (Prod.snd (Prod.snd z15)) 0;
 let z17 := Prod.fst z3;
 let z18 := Prod.fst z15;
 let z19 := Prod.fst z13;
 let z20 := Prod.fst p;
 let z21 := Prod.fst z1;
 let z22 := Prod.snd z1;
 let z23 := Prod.fst z9;
 let z24 := Prod.fst z10;
 let z25 := Prod.snd z10;
 let z26 := Lv.llen L En z18; VC.obl (LwF.pR H z2) (VC.br (LwF.right H z2) (VC.obl (LwF.pL H z2) (VC.br (Prod.snd z3) (VC.obl z4 (VC.obl z4 (VC.obl z4 (VC.obl z4 (VC.br z7 (VC.br z8
   (VC.obl True (VC.br (AwF.aw G) (VC.ok ((true, ()) = (true, ()))) (VC.ok ((false, ()) = (true, ()))))) (VC.ok ((false, ()) = (true, ())))) (VC.obl z12 (VC.br z14 (VC.br z16
   (VC.obl True (VC.br (AwF.aw G) (VC.ok ((true, ()) = (true, ()))) (VC.ok ((false, ()) = (true, ()))))) (VC.obl (St.mk 77 [(3, V.c (C.sl En z17)), (5, V.c (C.sl En z18)), (10, V.c
   (C.sl En z19)), (12, V.c (C.int IntKind.i64 0))] [(0, Ob.amb), (1, Ob.box 25 [C.sl It z20, C.sl (Ty.sl In) z21, C.int IntKind.i64 z22]), (2, Ob.box 25 [C.sl It z23, C.sl (Ty.sl
   In) z24, C.int IntKind.i64 z25])] 3 = St.mk 77 [(3, V.c (C.sl En z17)), (5, V.c (C.sl En z18)), (10, V.c (C.sl En z19)), (12, V.c (C.int IntKind.i64 0))] [(0, Ob.amb), (1, Ob.box
   25 [C.sl It z20, C.sl (Ty.sl In) z21, C.int IntKind.i64 z22]), (2, Ob.box 25 [C.sl It z23, C.sl (Ty.sl In) z24, C.int IntKind.i64 z25])] 3) (VC.obl (I (0, ())) (VC.all (Int ×
   Unit) fun (v1 : Int × Unit) =>
 let z27 := Prod.fst v1;
 let z28 := Lv.get L En z18 (Lv.toN L z27);
 let z29 := Prod.snd z28;
 let z30 := (Prod.fst z28, Prod.fst z29, Prod.snd z29);
 let z31 := Lv.ar L BinOp.add IntKind.i64 z27 1;
 let z32 := (Lv.ar L BinOp.add IntKind.i64 z27 1, ()); VC.imp (I v1) (VC.br (Lv.cmp L BinOp.lss z27 (Lv.cast L z26)) (VC.obl (Lv.inR L z27 z26) (VC.obl (BxF.ble F z17 ∧ BxF.be F
   z30) (VC.br (BxF.isIn F z17 z30) (VC.ok (St.mk 77 [(3, V.c (C.sl En z17)), (5, V.c (C.sl En z18)), (10, V.c (C.sl En z19)), (12, V.c (C.int IntKind.i64 z31))] [(0, Ob.amb), (1,
   Ob.box 25 [C.sl It z20, C.sl (Ty.sl In) z21, C.int IntKind.i64 z22]), (2, Ob.box 25 [C.sl It z23, C.sl (Ty.sl In) z24, C.int IntKind.i64 z25])] 3 = St.mk 77 [(3, V.c (C.sl En
   z17)), (5, V.c (C.sl En z18)), (10, V.c (C.sl En z19)), (12, V.c (C.int IntKind.i64 z31))] [(0, Ob.amb), (1, Ob.box 25 [C.sl It z20, C.sl (Ty.sl In) z21, C.int IntKind.i64 z22]),
   (2, Ob.box 25 [C.sl It z23, C.sl (Ty.sl In) z24, C.int IntKind.i64 z25])] 3 ∧ I z32 ∧ mu z32 < mu v1)) (VC.ok ((false, ()) = (true, ())))))) (VC.obl (BxF.ble F z19 ∧ BxF.ble F
   z18) (VC.br (BxF.sameEs F z19 z18) (VC.obl True (VC.br (AwF.aw G) (VC.ok ((true, ()) = (true, ()))) (VC.ok ((false, ()) = (true, ()))))) (VC.ok ((false, ()) = (true, ()))))))))))
   (VC.br z16 (VC.obl True (VC.br (AwF.aw G) (VC.ok ((true, ()) = (true, ()))) (VC.ok ((false, ()) = (true, ()))))) (VC.obl True (VC.br (AwF.aw G) (VC.ok ((true, ()) = (true, ())))
   (VC.ok ((false, ()) = (true, ()))))))))))))) (VC.obl z4 (VC.obl z4 (VC.obl z4 (VC.obl z4 (VC.br z7 (VC.br z8 (VC.obl True (VC.br (AwF.aw G) (VC.ok ((true, ()) = (true, ())))
   (VC.ok ((false, ()) = (true, ()))))) (VC.ok ((false, ()) = (true, ())))) (VC.obl z12 (VC.br z14 (VC.obl True (VC.br (AwF.aw G) (VC.ok ((true, ()) = (true, ()))) (VC.ok ((false,
   ()) = (true, ()))))) (VC.obl True (VC.br (AwF.aw G) (VC.ok ((true, ()) = (true, ()))) (VC.ok ((false, ()) = (true, ())))))))))))))) (VC.obl True (VC.br (AwF.aw G) (VC.ok ((true,
   ()) = (true, ()))) (VC.ok ((false, ()) = (true, ()))))))
end Go.Proofs.Tryz
set_option autoImplicit false
set_option linter.all false
namespace Go.Proofs.Tryz
open Go Go.VM
set_option maxRecDepth 100000
theorem tt : (True → True) ∧ (true = false → false = true) := ⟨id, fun h => by cases h⟩
end Go.Proofs.Tryz
