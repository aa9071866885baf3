/- What functions of the weak memory compute, proved through the condition generator, and plain facts of it. Conditions: none of ours. -/
import Derived.Calls
import Derived.Orders
import Derived.Below
import Derived.Lib.ItoaNum
import Derived.Laws.Sem
import Derived.Laws.Cells
import Derived.Laws.Entries
import Derived.Laws.StructEq
import Derived.Lib.IfaceEq
import Derived.Lib.IfaceNeq
import Derived.Laws.MakeOwn
import Derived.Laws.AppendOwn
import Derived.Lib.AppendStr
import Derived.Laws.CopyRow
import Derived.Laws.BytesString
import Derived.MapKept
import Derived.OrdersIn
import Derived.RangeFuncCalls
import Derived.RangeFuncLeaves
import Derived.Test.YthfjgaifdadgnaaGreatProg
import Derived.Shelf.SlSortCmp.Insertion
import GoSem.Step
import Derived.Shelf.SlSortCmp.InsertionK
import Derived.Shelf.SlSortCmp.NoneTotal
import Derived.Ground.SlsfProg
import Derived.Sort.LotA
import Derived.Test.YthfjgaifdadgnaaGreatK0
import Derived.Test.YthfjgaifdadgnaaGreatK1
import Derived.Test.YthfjgaifdadgnaaGreatK2
import Derived.Test.YthfjgaifdadgnaaGreatK3
import Derived.Test.YthfjgaifdadgnaaGreatK4
import Derived.Test.YthfjgaifdadgnaaGreatK5
import Derived.Test.YthfjgaifdadgnaaGreatK6
import Derived.Test.YthfjgaifdadgnaaGreatK7
import Derived.Test.YthfjgaifdadgnaaGreatK8
import Derived.Test.YthfjgaifdadgnaaGreatK9
import Derived.Test.YthfjgaifdadgnaaGreatK10
import Derived.Test.YthfjgaifdadgnaaGreatK11
import Derived.Test.YthfjgaifdadgnaaGreatK12
import Derived.Test.YthfjgaifdadgnaaGreatK13
import Derived.Test.YthfjgaifdadgnaaGreatK14
import Derived.Test.YthfjgaifdadgnaaGreatK15
import Derived.Test.YthfjgaifdadgnaaGreatK16
import Derived.Test.YthfjgaifdadgnaaGreatK17
import Derived.Test.YthfjgaifdadgnaaGreatK18
import Derived.Test.YthfjgaifdadgnaaGreatK19
import Derived.Test.YthfjgaifdadgnaaGreatK20
import Derived.Test.YthfjgaifdadgnaaGreatK21
import Derived.Test.YthfjgaifdadgnaaGreatK22
import Derived.Test.YthfjgaifdadgnaaGreatK23
import Derived.Test.YthfjgaifdadgnaaGreatK24
import Derived.Test.YthfjgaifdadgnaaGreatK25
import Derived.Test.YthfjgaifdadgnaaGreatK26
set_option autoImplicit false
set_option linter.all false
namespace Go.Proofs.Tryz
open Go Go.VM
set_option maxRecDepth 100000
theorem at28 : prog.funcs[28]? = some f28 := by kernel_rfl
def pl28 : Nat → Plan
  | _ => []
noncomputable def D28 (ann : Nat → LAnn) : FnD := ⟨f28.body.getD .skip, f28.ntmps, f28.results.toList, pl28, ann⟩
theorem fnok28 (ann : Nat → LAnn) : FnOk prog 28 (D28 ann) := ⟨f28, at28, by kernel_rfl, by kernel_rfl, rfl, rfl, by kernel_rfl⟩
theorem at36 : prog.funcs[36]? = some f36 := by kernel_rfl
def pl36 : Nat → Plan
  | _ => []
noncomputable def D36 (ann : Nat → LAnn) : FnD := ⟨f36.body.getD .skip, f36.ntmps, f36.results.toList, pl36, ann⟩
theorem fnok36 (ann : Nat → LAnn) : FnOk prog 36 (D36 ann) := ⟨f36, at36, by kernel_rfl, by kernel_rfl, rfl, rfl, by kernel_rfl⟩
theorem at37 : prog.funcs[37]? = some f37 := by kernel_rfl
def pl37 : Nat → Plan
  | 5 => [(0, []), (1, []), (2, [0, 1]), (3, [0, 1]), (4, [0, 1]), (5, []), (6, []), (7, [])]
  | _ => []
noncomputable def D37 (ann : Nat → LAnn) : FnD := ⟨f37.body.getD .skip, f37.ntmps, f37.results.toList, pl37, ann⟩
theorem fnok37 (ann : Nat → LAnn) : FnOk prog 37 (D37 ann) := ⟨f37, at37, by kernel_rfl, by kernel_rfl, rfl, rfl, by kernel_rfl⟩
theorem at39 : prog.funcs[39]? = some f39 := by kernel_rfl
def pl39 : Nat → Plan
  | 6 => [(10, []), (11, [10]), (0, [10, 11]), (1, [10, 11]), (2, [10, 11, 0, 1]), (3, [10, 11]), (4, [10, 11]), (5, [10, 11, 0, 1, 2, 3, 4]), (6, [10, 11, 0, 1, 2, 3, 4]), (7, [10, 11, 0, 1, 2, 3, 4, 5, 6]), (8, [10, 11, 0, 1, 2, 3, 4]), (9, [10, 11, 0, 1, 2, 3, 4]), (12, [5, 6, 7, 8, 9]), (13, [])]
  | 12 => [(0, []), (1, []), (2, [0, 1]), (3, []), (4, []), (5, [0, 1, 2, 3, 4]), (6, [0, 1, 2, 3, 4]), (7, [0, 1, 2, 3, 4, 5, 6]), (8, [0, 1, 2, 3, 4]), (9, [0, 1, 2, 3, 4]), (10, [])]
  | _ => []
noncomputable def D39 (ann : Nat → LAnn) : FnD := ⟨f39.body.getD .skip, f39.ntmps, f39.results.toList, pl39, ann⟩
theorem fnok39 (ann : Nat → LAnn) : FnOk prog 39 (D39 ann) := ⟨f39, at39, by kernel_rfl, by kernel_rfl, rfl, rfl, by kernel_rfl⟩
end Go.Proofs.Tryz
set_option autoImplicit false
set_option linter.all false
namespace Go.Proofs.Tryz
open Go Go.VM
set_option maxRecDepth 100000
theorem at10 : prog.funcs[10]? = some f10 := by kernel_rfl
def pl10 : Nat → Plan
  | _ => []
noncomputable def D10 (ann : Nat → LAnn) : FnD := ⟨f10.body.getD .skip, f10.ntmps, f10.results.toList, pl10, ann⟩
theorem fnok10 (ann : Nat → LAnn) : FnOk prog 10 (D10 ann) := ⟨f10, at10, by kernel_rfl, by kernel_rfl, rfl, rfl, by kernel_rfl⟩
end Go.Proofs.Tryz
set_option autoImplicit false
set_option linter.all false
namespace Go.Proofs.Tryz
open Go Go.VM
set_option maxRecDepth 100000
def n28 (L : Lv) (F : BxF) (I : Ds [It] → Prop) (mu : Ds [It] → Nat) (p : WkD)  : VC :=
 let z1 := Prod.fst p;
 let z2 := Prod.fst (Prod.snd p);
 let z3 := Prod.snd (Prod.snd p);
 let z4 := Lv.llen L (Ty.sl In) z2;
 let z5 := Lv.cast L z4;
 let z6 := (BxF.long F p, ()); VC.obl (St.mk 28 [(1, V.c (C.ptr 1 0)), (3, V.c (C.int IntKind.i64 0))] [(0, Ob.amb), (1, Ob.box 25 [C.sl It z1, C.sl (Ty.sl In) z2, C.int IntKind.i64
   z3])] 2 = St.mk 28 [(1, V.c (C.ptr 1 0)), (3, V.c (C.int IntKind.i64 0))] [(0, Ob.amb), (1, Ob.box 25 [C.sl It z1, C.sl (Ty.sl In) z2, C.int IntKind.i64 z3])] 2) (VC.obl (I (0,
   ())) (VC.all (Int × Unit) fun (v1 : Int × Unit) =>
 let z7 := Prod.fst v1;
 let z8 := Lv.ar L BinOp.add IntKind.i64 z7 1;
 let z9 := (Lv.ar L BinOp.add IntKind.i64 z7 1, ()); VC.imp (I v1) (VC.br (Lv.cmp L BinOp.lss z7 z5) (VC.obl (Lv.inR L z7 z4) (VC.br (Lv.cmp L BinOp.gtr (Lv.cast L (Lv.llen L In
   (Lv.get L (Ty.sl In) z2 (Lv.toN L z7)))) 205) (VC.ok ((false, ()) = z6)) (VC.ok (St.mk 28 [(1, V.c (C.ptr 1 0)), (3, V.c (C.int IntKind.i64 z8))] [(0, Ob.amb), (1, Ob.box 25
   [C.sl It z1, C.sl (Ty.sl In) z2, C.int IntKind.i64 z3])] 2 = St.mk 28 [(1, V.c (C.ptr 1 0)), (3, V.c (C.int IntKind.i64 z8))] [(0, Ob.amb), (1, Ob.box 25 [C.sl It z1, C.sl (Ty.sl
   In) z2, C.int IntKind.i64 z3])] 2 ∧ I z9 ∧ mu z9 < mu v1)))) (VC.br (Lv.cmp L BinOp.leq (Lv.cast L (Lv.llen L It z1)) 70) (VC.br (Lv.cmp L BinOp.leq z5 6) (VC.ok ((true, ()) =
   z6)) (VC.ok ((false, ()) = z6))) (VC.ok ((false, ()) = z6))))))
theorem n28_eq (L : Lv) (F : BxF) (I : Ds [It] → Prop) (mu : Ds [It] → Nat) (p : WkD) : vcC L F [] (D28 (aT3 L I mu)) (S28 F) (p, ()) = n28 L F I mu p := by kernel_rfl
theorem n28_go (L : Lv) (F : BxF) (I : Ds [It] → Prop) (mu : Ds [It] → Nat) (p : WkD) (h : VC.holds (n28 L F I mu p)) : Holds (vcC L F [] (D28 (aT3 L I mu)) (S28 F) (p, ())) := Holds.of_eq (n28_eq L F I mu p) h
def longL2 (l : List InD) : Bool := decide ((l.length : Int) ≤ 205)
def longF (p : WkD) : Bool := p.2.1.all longL2 && decide ((p.1.length : Int) ≤ 70) && decide ((p.2.1.length : Int) ≤ 6)
theorem ok28 (F : BxF) (h : F.long = longF) (hp : F.bwT = bwTF) : SpecOk prog 28 (S28 F) := by
  refine contract_by hm hE D28 fnok28 _ fun (z : WkD × Unit) hpre => ?_
  obtain ⟨p, ⟨⟩⟩ := z
  have hpre' : F.bwT p := hpre
  rw [hp] at hpre'
  obtain ⟨g1, g2, g3⟩ := hpre'
  let I : Int × Unit → Prop := Iv p.2.1.length fun k => (p.2.1.drop k).all longL2 = p.2.1.all longL2
  refine pack _ 3 (aT3 Lv.std I (Mu p.2.1.length)) (only_tab (T := cT F) (l := []) tb_nil) ?_
  refine n28_go Lv.std F I (Mu p.2.1.length) p ?_
  have e2 : ∀ (l : List (List InD)) (k : Int), Lv.std.get (.sl In) l k.toNat = (l[k.toNat]?).getD [] := fun _ _ => rfl
  simp only [n28, VC.holds, std_cmp, std_cast, std_llen, std_toN, e2, std_inR, std_ar_add, cmp_lss_t, cmp_lss_f, cmp_gtr_t, cmp_gtr_f, cmp_leq_t, cmp_leq_f, h, and_true, true_and]
  have et : ∀ l, longL2 l = true ↔ l.length ≤ 205 := fun l => by unfold longL2; rw [decide_eq_true_eq]; omega
  refine ⟨Iv.zero rfl, fun x hx => ?_⟩
  obtain ⟨k, rfl, hk, i3⟩ := Iv.elim hx
  simp only [Int.toNat_natCast]
  refine ⟨fun hlt => ⟨⟨by omega, hlt⟩, fun hb => ?_, fun hb => ?_⟩, fun hge => ?_⟩
  · rw [all_drop longL2 _ k [] (by omega), show longL2 ((p.2.1[k]?).getD []) = false from decide_eq_false (by omega), Bool.false_and] at i3
    unfold longF; rw [← i3]; rfl
  · rw [all_drop longL2 _ k [] (by omega), show longL2 ((p.2.1[k]?).getD []) = true from decide_eq_true hb, Bool.true_and] at i3
    rw [wrB hlt g2]
    exact ⟨Iv.mk (by omega) i3, Mu.lt (by omega)⟩
  · rw [show k = p.2.1.length by omega, List.drop_length] at i3
    have i3 : true = p.2.1.all longL2 := i3
    unfold longF
    rw [← i3]
    refine ⟨fun h1 => ⟨fun h2 => ?_, fun h2 => ?_⟩, fun h1 => ?_⟩
    · rw [decide_eq_true h1, decide_eq_true h2]; rfl
    · rw [decide_eq_false (show ¬ (p.2.1.length : Int) ≤ 6 by omega), Bool.and_false]
    · rw [decide_eq_false (show ¬ (p.1.length : Int) ≤ 70 by omega)]; rfl
end Go.Proofs.Tryz
set_option autoImplicit false
set_option linter.all false
namespace Go.Proofs.Tryz
open Go Go.VM
set_option maxRecDepth 100000
def n36 (L : Lv) (F : BxF) (p : WkD)  : VC :=
 let z1 := (Prod.fst p, Prod.fst (Prod.snd p), Prod.snd (Prod.snd p));
 let z2 := (Prod.fst (BxF.begE F p), Prod.snd (BxF.begE F p), ());
 let z3 := BxF.first F z1; VC.obl (BxF.bw F z1) (VC.br (Lv.cmp L BinOp.neq (BxF.check F z1) 0) (VC.ok ((([], []), BxF.check F z1, ()) = z2)) (VC.obl (BxF.pFirst F z1) (VC.ok
   (((Prod.fst z3, Prod.snd z3), 0, ()) = z2))))
theorem n36_eq (L : Lv) (F : BxF) (p : WkD) : vcC L F [38, 79] (D36 a0) (S36 F) (p, ()) = n36 L F p := by kernel_rfl
theorem n36_go (L : Lv) (F : BxF) (p : WkD) (h : VC.holds (n36 L F p)) : Holds (vcC L F [38, 79] (D36 a0) (S36 F) (p, ())) := Holds.of_eq (n36_eq L F p) h
def begF (p : WkD) : StD × Int := if checkF p ≠ 0 then (([], []), checkF p) else (firstF p, 0)
theorem ok36 (F : BxF) (h : F.begE = begF) (h1 : F.check = checkF) (h2 : F.first = firstF) (hp : F.bw = bW) (q : F.pFirst = fun p => p.1.length ≤ 1000000 ∧ p.2.1.length ≤ 1000000) (k1 : SpecOk prog 38 (S22 F)) (k2 : SpecOk prog 79 (S79 F)) : SpecOk prog 36 (S36 F) := by
  refine contract_by hm hE D36 fnok36 _ fun (z : WkD × Unit) hpre => ?_
  obtain ⟨p, ⟨⟩⟩ := z
  have hpre' : F.bw p := hpre
  rw [hp] at hpre'
  refine pack _ 3 a0 (only_tab (T := cT F) (l := [38, 79]) (tb_cons (tb_sp k1 (by kernel_rfl)) (tb_cons (tb_sp k2 (by kernel_rfl)) tb_nil))) ?_
  refine n36_go Lv.std F p ?_
  simp only [n36, VC.holds, std_cmp, std_scmp, std_ar_add, std_ar_sub, std_ar_mul, std_ar, std_dv, std_shf, std_conv, std_mn, std_mx, std_beq, std_bnot, std_band, std_scat, std_byte, std_ext, std_slen, std_strOf, std_bytes, std_llen, std_get, std_setl, std_app, std_take, std_drop, std_rep, std_mhas, std_mval, std_mput, std_cast, std_toN, std_sub, std_add, std_inR, std_le3, std_leN, std_ltN, std_ne0, std_nonneg, std_catOk, std_room, std_mkOk, std_nth, std_cnt, cmp_lss_t, cmp_lss_f, cmp_leq_t, cmp_leq_f, cmp_gtr_t, cmp_gtr_f, cmp_geq_t, cmp_geq_f, cmp_eql_t, cmp_eql_f, cmp_neq_t, cmp_neq_f, scmp_eql_t, scmp_eql_f, scmp_neq_t, scmp_neq_f, dflt_int, dflt_bool, dflt_str, dflt_sl, dflt_pair, h, h1, h2, hp, q, begF, pe5, Prod.mk.injEq, and_true, true_and]
  exact ⟨hpre', fun c => by rw [if_pos c]; exact ⟨rfl, rfl⟩, fun c => ⟨⟨hpre'.1, hpre'.2.1⟩, by rw [if_neg (by simpa using c)]; exact ⟨rfl, rfl⟩⟩⟩
end Go.Proofs.Tryz
set_option autoImplicit false
set_option linter.all false
namespace Go.Proofs.Tryz
open Go Go.VM
set_option maxRecDepth 100000
def a37 (L : Lv) (I : Ds [.sl Th, It] → Prop) (mu : Ds [.sl Th, It] → Nat) : Nat → LAnn
  | 0 => anH L [1, 2, 3, 4] [(3, some 1, 99, Th)] [.br 3 1 Th, .s 4 It] I mu
  | _ => .no
def n37 (L : Lv) (F : BxF) (I : Ds [.sl Th, It] → Prop) (mu : Ds [.sl Th, It] → Nat) (p : WkD)  : VC :=
 let z1 := Lv.take L It [] 0;
 let z2 := Prod.fst p;
 let z3 := Lv.add L (Lv.llen L It z1) (Lv.llen L It z2);
 let z4 := Prod.fst (Prod.snd p);
 let z5 := Prod.snd (Prod.snd p);
 let z6 := Lv.app L It z1 z2;
 let z7 := Int × List Int × List (Int × Int) × List Int × Bool;
 let z8 := (Lv.take L Th [(0, Lv.take L It (Lv.rep L It (Lv.toN L 10) 0) (Lv.toN L 10), [], [], false)] 1);
 let z9 := Lv.llen L Th z8; VC.obl (Lv.room L z3 8) (VC.obl (St.mk 25 [(1, V.c (C.ptr 1 0)), (2, V.c (C.ptr 2 0)), (3, V.c (C.ptr 5 0)), (4, V.c (C.int IntKind.i64 0))] [(0,
   Ob.amb), (1, Ob.box 25 [C.sl It z2, C.sl (Ty.sl In) z4, C.int IntKind.i64 z5]), (2, Ob.box 59 [C.nils, C.nils]), (4, Ob.row 3 It z6), (5, Ob.box 59 [C.own 4 z3, C.own 7 0]), (7,
   Ob.row 99 Th [])] 8 = St.mk 25 [(1, V.c (C.ptr 1 0)), (2, V.c (C.ptr 2 0)), (3, V.c (C.ptr 5 0)), (4, V.c (C.int IntKind.i64 0))] [(0, Ob.amb), (1, Ob.box 25 [C.sl It z2, C.sl
   (Ty.sl In) z4, C.int IntKind.i64 z5]), (2, Ob.box 59 [C.nils, C.nils]), (4, Ob.row 3 It z6), (5, Ob.box 59 [C.own 4 z3, C.own 7 (Lv.llen L Th [])]), (7, Ob.row 99 Th [])] 8)
   (VC.obl (I ([], 0, ())) (VC.all (List z7 × Int × Unit) fun (v1 : List (Int × List Int × List (Int × Int) × List Int × Bool) × Int × Unit) =>
 let z10 := Prod.fst (Prod.snd v1);
 let z11 := Prod.fst v1;
 let z12 := Lv.llen L Th z11;
 let z13 := Lv.take L Th z11 z12;
 let z14 := Lv.add L (Lv.llen L Th z13) z9;
 let z15 := Lv.ar L BinOp.add IntKind.i64 z10 1;
 let z16 := Lv.app L Th z13 z8;
 let z17 := (Lv.app L Th z13 z8, Lv.ar L BinOp.add IntKind.i64 z10 1, ()); VC.imp (I v1) (VC.br (Lv.cmp L BinOp.lss z10 (Lv.cast L (Lv.llen L (Ty.sl In) z4))) (VC.obl (Lv.mkOk L 10
   10 8) (VC.obl (Lv.room L z14 88) (VC.ok (St.mk 25 [(1, V.c (C.ptr 1 0)), (2, V.c (C.ptr 2 0)), (3, V.c (C.ptr 5 0)), (4, V.c (C.int IntKind.i64 z15))] [(0, Ob.amb), (1, Ob.box 25
   [C.sl It z2, C.sl (Ty.sl In) z4, C.int IntKind.i64 z5]), (2, Ob.box 59 [C.nils, C.nils]), (4, Ob.row 3 It z6), (5, Ob.box 59 [C.own 4 z3, C.own 7 z14]), (7, Ob.row 99 Th z16)] 8
   = St.mk 25 [(1, V.c (C.ptr 1 0)), (2, V.c (C.ptr 2 0)), (3, V.c (C.ptr 5 0)), (4, V.c (C.int IntKind.i64 z15))] [(0, Ob.amb), (1, Ob.box 25 [C.sl It z2, C.sl (Ty.sl In) z4, C.int
   IntKind.i64 z5]), (2, Ob.box 59 [C.nils, C.nils]), (4, Ob.row 3 It z6), (5, Ob.box 59 [C.own 4 z3, C.own 7 (Lv.llen L Th z16)]), (7, Ob.row 99 Th z16)] 8 ∧ I z17 ∧ mu z17 < mu
   v1)))) (VC.ok (((Lv.take L It z6 z3, Lv.take L Th z11 z12), ()) = (BxF.first F p, ())))))))
theorem n37_eq (L : Lv) (F : BxF) (I : Ds [.sl Th, It] → Prop) (mu : Ds [.sl Th, It] → Nat) (p : WkD) : vcC L F [] (D37 (a37 L I mu)) (S79 F) (p, ()) = n37 L F I mu p := by kernel_rfl
theorem n37_go (L : Lv) (F : BxF) (I : Ds [.sl Th, It] → Prop) (mu : Ds [.sl Th, It] → Nat) (p : WkD) (h : VC.holds (n37 L F I mu p)) : Holds (vcC L F [] (D37 (a37 L I mu)) (S79 F) (p, ())) := Holds.of_eq (n37_eq L F I mu p) h
theorem ok37 (F : BxF) (h : F.first = firstF) (hp : F.pFirst = fun p => p.1.length ≤ 1000000 ∧ p.2.1.length ≤ 1000000) : SpecOk prog 37 (S79 F) := by
  refine contract_by hm hE D37 fnok37 _ fun (z : WkD × Unit) hpre => ?_
  obtain ⟨p, ⟨⟩⟩ := z
  have hpre' : F.pFirst p := hpre
  rw [hp] at hpre'
  obtain ⟨g1, g2⟩ := hpre'
  let I : List ThD × Int × Unit → Prop := fun x => (0 ≤ x.2.1 ∧ x.2.1 ≤ p.2.1.length) ∧ x.1 = List.replicate x.2.1.toNat th0
  let mu : List ThD × Int × Unit → Nat := fun x => (p.2.1.length - x.2.1).toNat
  refine pack _ 3 (a37 Lv.std I mu) (only_tab (T := cT F) (l := []) tb_nil) ?_
  refine n37_go Lv.std F I mu p ?_
  simp only [n37, VC.holds, std_cmp, std_scmp, std_ar_add, std_ar_sub, std_ar_mul, std_ar, std_dv, std_shf, std_conv, std_mn, std_mx, std_beq, std_bnot, std_band, std_scat, std_byte, std_ext, std_slen, std_strOf, std_bytes, std_llen, std_get, std_setl, std_app, std_take, std_drop, std_rep, std_mhas, std_mval, std_mput, std_cast, std_toN, std_sub, std_add, std_inR, std_le3, std_leN, std_ltN, std_ne0, std_nonneg, std_catOk, std_room, std_mkOk, std_nth, std_cnt, cmp_lss_t, cmp_lss_f, cmp_leq_t, cmp_leq_f, cmp_gtr_t, cmp_gtr_f, cmp_geq_t, cmp_geq_f, cmp_eql_t, cmp_eql_f, cmp_neq_t, cmp_neq_f, scmp_eql_t, scmp_eql_f, scmp_neq_t, scmp_neq_f, dflt_int, dflt_bool, dflt_str, dflt_sl, dflt_pair, h, List.take_length, List.take_succ_cons, List.take_zero, List.take_nil, List.nil_append, List.length_append, List.length_cons, List.length_nil, Nat.zero_add, pe5, Prod.mk.injEq, and_true, true_and]
  refine ⟨⟨by omega, by omega⟩, ⟨⟨Int.le_refl 0, by show (0 : Int) ≤ p.2.1.length; omega⟩, rfl⟩, ?_⟩
  rintro ⟨l, x, ⟨⟩⟩ ⟨⟨i1, i2⟩, i3⟩
  simp only at i1 i2 i3 ⊢
  obtain ⟨k, rfl⟩ := nat_of i1
  rw [Int.toNat_natCast] at i3
  subst i3
  rw [List.length_replicate]
  have e10 : List.take (Int.toNat 10) (List.replicate (Int.toNat 10) (0 : Int)) = List.replicate 10 0 := by decide
  refine ⟨fun hlt => ?_, fun hge => ?_⟩
  · rw [wr hlt g2, e10]
    refine ⟨by decide, ⟨by omega, by omega⟩, ⟨⟨by show (0 : Int) ≤ ((k + 1 : Nat) : Int); omega, by show ((k + 1 : Nat) : Int) ≤ _; omega⟩, ?_⟩, by show ((p.2.1.length : Int) - ((k + 1 : Nat) : Int)).toNat < ((p.2.1.length : Int) - k).toNat; omega⟩
    show List.replicate k th0 ++ [th0] = List.replicate ((k + 1 : Nat) : Int).toNat th0
    rw [Int.toNat_natCast]
    exact (List.replicate_succ' (n := k) (a := th0)).symm
  · have : k = p.2.1.length := by omega
    subst this; rfl
end Go.Proofs.Tryz
set_option autoImplicit false
set_option linter.all false
namespace Go.Proofs.Tryz
open Go Go.VM
set_option maxRecDepth 100000
def n39 (L : Lv) (F : BxF) (I : Ds [It] → Prop) (mu : Ds [It] → Nat) (I2 : Int × Unit → Ds [It] → Prop) (m2 : Int × Unit → Ds [It] → Nat) (a b : StD)  : VC :=
 let z1 := Prod.fst a;
 let z2 := Prod.fst b;
 let z3 := Prod.snd a;
 let z4 := Lv.llen L Th z3;
 let z5 := Lv.cast L z4;
 let z6 := Prod.snd b;
 let z7 := Lv.llen L Th z6;
 let z8 := (BxF.sameS F a b, ());
 let z9 := Int × Unit; VC.obl (BxF.bl F z1 ∧ BxF.bl F z2) (VC.br (BxF.sameL F z1 z2) (VC.br (Lv.cmp L BinOp.neq z5 (Lv.cast L z7)) (VC.ok ((false, ()) = z8)) (VC.obl (St.mk 96 [(2,
   V.c (C.ptr 1 0)), (3, V.c (C.ptr 2 0)), (5, V.c (C.int IntKind.i64 0))] [(0, Ob.amb), (1, Ob.box 59 [C.sl It z1, C.sl Th z3]), (2, Ob.box 59 [C.sl It z2, C.sl Th z6])] 3 = St.mk
   96 [(2, V.c (C.ptr 1 0)), (3, V.c (C.ptr 2 0)), (5, V.c (C.int IntKind.i64 0))] [(0, Ob.amb), (1, Ob.box 59 [C.sl It z1, C.sl Th z3]), (2, Ob.box 59 [C.sl It z2, C.sl Th z6])] 3)
   (VC.obl (I (0, ())) (VC.all z9 fun (v1 : Int × Unit) =>
 let z10 := Prod.fst v1;
 let z11 := Lv.toN L z10;
 let z12 := Lv.get L Th z3 z11;
 let z13 := Prod.fst z12;
 let z14 := Lv.get L Th z6 z11;
 let z15 := Prod.fst z14;
 let z16 := Prod.snd z12;
 let z17 := Prod.snd z16;
 let z18 := Prod.snd z17;
 let z19 := Prod.snd z18;
 let z20 := Prod.snd z14;
 let z21 := Prod.snd z20;
 let z22 := Prod.snd z21;
 let z23 := Prod.snd z22;
 let z24 := Prod.fst z16;
 let z25 := Prod.fst z20;
 let z26 := (BxF.bl F z24 ∧ BxF.bl F z25);
 let z27 := BxF.sameL F z24 z25;
 let z28 := Prod.fst z18;
 let z29 := Prod.fst z22;
 let z30 := (BxF.bl F z28 ∧ BxF.bl F z29);
 let z31 := BxF.sameL F z28 z29;
 let z32 := Prod.fst z17;
 let z33 := Lv.llen L Kp z32;
 let z34 := Lv.cast L z33;
 let z35 := Prod.fst z21;
 let z36 := Lv.llen L Kp z35;
 let z37 := Lv.cmp L BinOp.neq z34 (Lv.cast L z36);
 let z38 := (Prod.fst v1, ());
 let z39 := Lv.ar L BinOp.add IntKind.i64 z10 1;
 let z40 := (Lv.ar L BinOp.add IntKind.i64 z10 1, ()); VC.imp (I v1) (VC.br (Lv.cmp L BinOp.lss z10 z5) (VC.obl (Lv.inR L z10 z4) (VC.obl (Lv.inR L z10 z7) (VC.br (Lv.cmp L
   BinOp.neq z13 z15) (VC.ok ((false, ()) = z8)) (VC.br z19 (VC.br z23 (VC.br (Lv.bnot L (Lv.beq L true true)) (VC.ok ((false, ()) = z8)) (VC.obl z26 (VC.br z27 (VC.obl z30 (VC.br
   z31 (VC.br z37 (VC.ok ((false, ()) = z8)) (VC.obl (St.mk 96 [(2, V.c (C.ptr 1 0)), (3, V.c (C.ptr 2 0)), (5, V.c (C.int IntKind.i64 z10)), (6, V.c (C.ptr 3 0)), (7, V.c (C.ptr 4
   0)), (8, V.c (C.int IntKind.i64 0))] [(0, Ob.amb), (1, Ob.box 59 [C.sl It z1, C.sl Th z3]), (2, Ob.box 59 [C.sl It z2, C.sl Th z6]), (3, Ob.box 99 [C.int IntKind.i64 z13, C.sl It
   z24, C.sl Kp z32, C.sl It z28, C.sym z19]), (4, Ob.box 99 [C.int IntKind.i64 z15, C.sl It z25, C.sl Kp z35, C.sl It z29, C.sym z23])] 5 = St.mk 96 [(2, V.c (C.ptr 1 0)), (3, V.c
   (C.ptr 2 0)), (5, V.c (C.int IntKind.i64 z10)), (6, V.c (C.ptr 3 0)), (7, V.c (C.ptr 4 0)), (8, V.c (C.int IntKind.i64 0))] [(0, Ob.amb), (1, Ob.box 59 [C.sl It z1, C.sl Th z3]),
   (2, Ob.box 59 [C.sl It z2, C.sl Th z6]), (3, Ob.box 99 [C.int IntKind.i64 z13, C.sl It z24, C.sl Kp z32, C.sl It z28, C.sym z19]), (4, Ob.box 99 [C.int IntKind.i64 z15, C.sl It
   z25, C.sl Kp z35, C.sl It z29, C.sym z23])] 5) (VC.obl (I2 z38 (0, ())) (VC.all z9 fun (v2 : Int × Unit) =>
 let z41 := Prod.fst v2;
 let z42 := Lv.toN L z41;
 let z43 := Lv.get L Kp z32 z42;
 let z44 := Lv.get L Kp z35 z42;
 let z45 := Lv.ar L BinOp.add IntKind.i64 z41 1;
 let z46 := (Lv.ar L BinOp.add IntKind.i64 z41 1, ()); VC.imp (I2 z38 v2) (VC.br (Lv.cmp L BinOp.lss z41 z34) (VC.obl (Lv.inR L z41 z33) (VC.obl (Lv.inR L z41 z36) (VC.br (Lv.bnot L
   (Lv.band L (Lv.cmp L BinOp.eql (Prod.fst z43) (Prod.fst z44)) (Lv.band L (Lv.cmp L BinOp.eql (Prod.snd z43) (Prod.snd z44)) true))) (VC.ok ((false, ()) = z8)) (VC.ok (St.mk 96
   [(2, V.c (C.ptr 1 0)), (3, V.c (C.ptr 2 0)), (5, V.c (C.int IntKind.i64 z10)), (6, V.c (C.ptr 3 0)), (7, V.c (C.ptr 4 0)), (8, V.c (C.int IntKind.i64 z45))] [(0, Ob.amb), (1,
   Ob.box 59 [C.sl It z1, C.sl Th z3]), (2, Ob.box 59 [C.sl It z2, C.sl Th z6]), (3, Ob.box 99 [C.int IntKind.i64 z13, C.sl It z24, C.sl Kp z32, C.sl It z28, C.sym z19]), (4, Ob.box
   99 [C.int IntKind.i64 z15, C.sl It z25, C.sl Kp z35, C.sl It z29, C.sym z23])] 5 = St.mk 96 [(2, V.c (C.ptr 1 0)), (3, V.c (C.ptr 2 0)), (5, V.c (C.int IntKind.i64 z10)), (6, V.c
   (C.ptr 3 0)), (7, V.c (C.ptr 4 0)), (8, V.c (C.int IntKind.i64 z45))] [(0, Ob.amb), (1, Ob.box 59 [C.sl It z1, C.sl Th z3]), (2, Ob.box 59 [C.sl It z2, C.sl Th z6]), (3, Ob.box
   99 [C.int IntKind.i64 z13, C.sl It z24, C.sl Kp z32, C.sl It z28, C.sym z19]), (4, Ob.box 99 [C.int IntKind.i64 z15, C.sl It z25, C.sl Kp z35, C.sl It z29, C.sym z23])] 5 ∧ I2
   z38 z46 ∧ m2 z38 z46 < m2 z38 v2))))) (VC.ok (St.mk 96 [(2, V.c (C.ptr 1 0)), (3, V.c (C.ptr 2 0)), (5, V.c (C.int IntKind.i64 z39))] [(0, Ob.amb), (1, Ob.box 59 [C.sl It z1,
   C.sl Th z3]), (2, Ob.box 59 [C.sl It z2, C.sl Th z6])] 3 = St.mk 96 [(2, V.c (C.ptr 1 0)), (3, V.c (C.ptr 2 0)), (5, V.c (C.int IntKind.i64 z39))] [(0, Ob.amb), (1, Ob.box 59
   [C.sl It z1, C.sl Th z3]), (2, Ob.box 59 [C.sl It z2, C.sl Th z6])] 3 ∧ I z40 ∧ mu z40 < mu v1))))))) (VC.ok ((false, ()) = z8)))) (VC.ok ((false, ()) = z8))))) (VC.br (Lv.bnot L
   (Lv.beq L true false)) (VC.ok ((false, ()) = z8)) (VC.obl z26 (VC.br z27 (VC.obl z30 (VC.br z31 (VC.br z37 (VC.ok ((false, ()) = z8)) (VC.obl (St.mk 96 [(2, V.c (C.ptr 1 0)), (3,
   V.c (C.ptr 2 0)), (5, V.c (C.int IntKind.i64 z10)), (6, V.c (C.ptr 3 0)), (7, V.c (C.ptr 4 0)), (8, V.c (C.int IntKind.i64 0))] [(0, Ob.amb), (1, Ob.box 59 [C.sl It z1, C.sl Th
   z3]), (2, Ob.box 59 [C.sl It z2, C.sl Th z6]), (3, Ob.box 99 [C.int IntKind.i64 z13, C.sl It z24, C.sl Kp z32, C.sl It z28, C.sym z19]), (4, Ob.box 99 [C.int IntKind.i64 z15,
   C.sl It z25, C.sl Kp z35, C.sl It z29, C.sym z23])] 5 = St.mk 96 [(2, V.c (C.ptr 1 0)), (3, V.c (C.ptr 2 0)), (5, V.c (C.int IntKind.i64 z10)), (6, V.c (C.ptr 3 0)), (7, V.c
   (C.ptr 4 0)), (8, V.c (C.int IntKind.i64 0))] [(0, Ob.amb), (1, Ob.box 59 [C.sl It z1, C.sl Th z3]), (2, Ob.box 59 [C.sl It z2, C.sl Th z6]), (3, Ob.box 99 [C.int IntKind.i64
   z13, C.sl It z24, C.sl Kp z32, C.sl It z28, C.sym z19]), (4, Ob.box 99 [C.int IntKind.i64 z15, C.sl It z25, C.sl Kp z35, C.sl It z29, C.sym z23])] 5) (VC.obl (I2 z38 (0, ()))
   (VC.all z9 fun (v3 : Int × Unit) =>
 let z47 := Prod.fst v3;
 let z48 := Lv.toN L z47;
 let z49 := Lv.get L Kp z32 z48;
 let z50 := Lv.get L Kp z35 z48;
 let z51 := Lv.ar L BinOp.add IntKind.i64 z47 1;
 let z52 := (Lv.ar L BinOp.add IntKind.i64 z47 1, ()); VC.imp (I2 z38 v3) (VC.br (Lv.cmp L BinOp.lss z47 z34) (VC.obl (Lv.inR L z47 z33) (VC.obl (Lv.inR L z47 z36) (VC.br (Lv.bnot L
   (Lv.band L (Lv.cmp L BinOp.eql (Prod.fst z49) (Prod.fst z50)) (Lv.band L (Lv.cmp L BinOp.eql (Prod.snd z49) (Prod.snd z50)) true))) (VC.ok ((false, ()) = z8)) (VC.ok (St.mk 96
   [(2, V.c (C.ptr 1 0)), (3, V.c (C.ptr 2 0)), (5, V.c (C.int IntKind.i64 z10)), (6, V.c (C.ptr 3 0)), (7, V.c (C.ptr 4 0)), (8, V.c (C.int IntKind.i64 z51))] [(0, Ob.amb), (1,
   Ob.box 59 [C.sl It z1, C.sl Th z3]), (2, Ob.box 59 [C.sl It z2, C.sl Th z6]), (3, Ob.box 99 [C.int IntKind.i64 z13, C.sl It z24, C.sl Kp z32, C.sl It z28, C.sym z19]), (4, Ob.box
   99 [C.int IntKind.i64 z15, C.sl It z25, C.sl Kp z35, C.sl It z29, C.sym z23])] 5 = St.mk 96 [(2, V.c (C.ptr 1 0)), (3, V.c (C.ptr 2 0)), (5, V.c (C.int IntKind.i64 z10)), (6, V.c
   (C.ptr 3 0)), (7, V.c (C.ptr 4 0)), (8, V.c (C.int IntKind.i64 z51))] [(0, Ob.amb), (1, Ob.box 59 [C.sl It z1, C.sl Th z3]), (2, Ob.box 59 [C.sl It z2, C.sl Th z6]), (3, Ob.box
   99 [C.int IntKind.i64 z13, C.sl It z24, C.sl Kp z32, C.sl It z28, C.sym z19]), (4, Ob.box 99 [C.int IntKind.i64 z15, C.sl It z25, C.sl Kp z35, C.sl It z29, C.sym z23])] 5 ∧ I2
   z38 z52 ∧ m2 z38 z52 < m2 z38 v3))))) (VC.ok (St.mk 96 [(2, V.c (C.ptr 1 0)), (3, V.c (C.ptr 2 0)), (5, V.c (C.int IntKind.i64 z39))] [(0, Ob.amb), (1, Ob.box 59 [C.sl It z1,
   C.sl Th z3]), (2, Ob.box 59 [C.sl It z2, C.sl Th z6])] 3 = St.mk 96 [(2, V.c (C.ptr 1 0)), (3, V.c (C.ptr 2 0)), (5, V.c (C.int IntKind.i64 z39))] [(0, Ob.amb), (1, Ob.box 59
   [C.sl It z1, C.sl Th z3]), (2, Ob.box 59 [C.sl It z2, C.sl Th z6])] 3 ∧ I z40 ∧ mu z40 < mu v1))))))) (VC.ok ((false, ()) = z8)))) (VC.ok ((false, ()) = z8)))))) (VC.br z23
   (VC.br (Lv.bnot L (Lv.beq L false true)) (VC.ok ((false, ()) = z8)) (VC.obl z26 (VC.br z27 (VC.obl z30 (VC.br z31 (VC.br z37 (VC.ok ((false, ()) = z8)) (VC.obl (St.mk 96 [(2, V.c
   (C.ptr 1 0)), (3, V.c (C.ptr 2 0)), (5, V.c (C.int IntKind.i64 z10)), (6, V.c (C.ptr 3 0)), (7, V.c (C.ptr 4 0)), (8, V.c (C.int IntKind.i64 0))] [(0, Ob.amb), (1, Ob.box 59
   [C.sl It z1, C.sl Th z3]), (2, Ob.box 59 [C.sl It z2, C.sl Th z6]), (3, Ob.box 99 [C.int IntKind.i64 z13, C.sl It z24, C.sl Kp z32, C.sl It z28, C.sym z19]), (4, Ob.box 99 [C.int
   IntKind.i64 z15, C.sl It z25, C.sl Kp z35, C.sl It z29, C.sym z23])] 5 = St.mk 96 [(2, V.c (C.ptr 1 0)), (3, V.c (C.ptr 2 0)), (5, V.c (C.int IntKind.i64 z10)), (6, V.c (C.ptr 3
   0)), (7, V.c (C.ptr 4 0)), (8, V.c (C.int IntKind.i64 0))] [(0, Ob.amb), (1, Ob.box 59 [C.sl It z1, C.sl Th z3]), (2, Ob.box 59 [C.sl It z2, C.sl Th z6]), (3, Ob.box 99 [C.int
   IntKind.i64 z13, C.sl It z24, C.sl Kp z32, C.sl It z28, C.sym z19]), (4, Ob.box 99 [C.int IntKind.i64 z15, C.sl It z25, C.sl Kp z35, C.sl It z29, C.sym z23])] 5) (VC.obl (I2 z38
   (0, ())) (VC.all z9 fun (v4 : Int × Unit) =>
 let z53 := Prod.fst v4;
 let z54 := Lv.toN L z53;
 let z55 := Lv.get L Kp z32 z54;
 let z56 := Lv.get L Kp z35 z54;
 let z57 := Lv.ar L BinOp.add IntKind.i64 z53 1;
 let z58 := (Lv.ar L BinOp.add IntKind.i64 z53 1, ()); VC.imp (I2 z38 v4) (VC.br (Lv.cmp L BinOp.lss z53 z34) (VC.obl (Lv.inR L z53 z33) (VC.obl (Lv.inR L z53 z36) (VC.br (Lv.bnot L
   (Lv.band L (Lv.cmp L BinOp.eql (Prod.fst z55) (Prod.fst z56)) (Lv.band L (Lv.cmp L BinOp.eql (Prod.snd z55) (Prod.snd z56)) true))) (VC.ok ((false, ()) = z8)) (VC.ok (St.mk 96
   [(2, V.c (C.ptr 1 0)), (3, V.c (C.ptr 2 0)), (5, V.c (C.int IntKind.i64 z10)), (6, V.c (C.ptr 3 0)), (7, V.c (C.ptr 4 0)), (8, V.c (C.int IntKind.i64 z57))] [(0, Ob.amb), (1,
   Ob.box 59 [C.sl It z1, C.sl Th z3]), (2, Ob.box 59 [C.sl It z2, C.sl Th z6]), (3, Ob.box 99 [C.int IntKind.i64 z13, C.sl It z24, C.sl Kp z32, C.sl It z28, C.sym z19]), (4, Ob.box
   99 [C.int IntKind.i64 z15, C.sl It z25, C.sl Kp z35, C.sl It z29, C.sym z23])] 5 = St.mk 96 [(2, V.c (C.ptr 1 0)), (3, V.c (C.ptr 2 0)), (5, V.c (C.int IntKind.i64 z10)), (6, V.c
   (C.ptr 3 0)), (7, V.c (C.ptr 4 0)), (8, V.c (C.int IntKind.i64 z57))] [(0, Ob.amb), (1, Ob.box 59 [C.sl It z1, C.sl Th z3]), (2, Ob.box 59 [C.sl It z2, C.sl Th z6]), (3, Ob.box
   99 [C.int IntKind.i64 z13, C.sl It z24, C.sl Kp z32, C.sl It z28, C.sym z19]), (4, Ob.box 99 [C.int IntKind.i64 z15, C.sl It z25, C.sl Kp z35, C.sl It z29, C.sym z23])] 5 ∧ I2
   z38 z58 ∧ m2 z38 z58 < m2 z38 v4))))) (VC.ok (St.mk 96 [(2, V.c (C.ptr 1 0)), (3, V.c (C.ptr 2 0)), (5, V.c (C.int IntKind.i64 z39))] [(0, Ob.amb), (1, Ob.box 59 [C.sl It z1,
   C.sl Th z3]), (2, Ob.box 59 [C.sl It z2, C.sl Th z6])] 3 = St.mk 96 [(2, V.c (C.ptr 1 0)), (3, V.c (C.ptr 2 0)), (5, V.c (C.int IntKind.i64 z39))] [(0, Ob.amb), (1, Ob.box 59
   [C.sl It z1, C.sl Th z3]), (2, Ob.box 59 [C.sl It z2, C.sl Th z6])] 3 ∧ I z40 ∧ mu z40 < mu v1))))))) (VC.ok ((false, ()) = z8)))) (VC.ok ((false, ()) = z8))))) (VC.br (Lv.bnot L
   (Lv.beq L false false)) (VC.ok ((false, ()) = z8)) (VC.obl z26 (VC.br z27 (VC.obl z30 (VC.br z31 (VC.br z37 (VC.ok ((false, ()) = z8)) (VC.obl (St.mk 96 [(2, V.c (C.ptr 1 0)),
   (3, V.c (C.ptr 2 0)), (5, V.c (C.int IntKind.i64 z10)), (6, V.c (C.ptr 3 0)), (7, V.c (C.ptr 4 0)), (8, V.c (C.int IntKind.i64 0))] [(0, Ob.amb), (1, Ob.box 59 [C.sl It z1, C.sl
   Th z3]), (2, Ob.box 59 [C.sl It z2, C.sl Th z6]), (3, Ob.box 99 [C.int IntKind.i64 z13, C.sl It z24, C.sl Kp z32, C.sl It z28, C.sym z19]), (4, Ob.box 99 [C.int IntKind.i64 z15,
   C.sl It z25, C.sl Kp z35, C.sl It z29, C.sym z23])] 5 = St.mk 96 [(2, V.c (C.ptr 1 0)), (3, V.c (C.ptr 2 0)), (5, V.c (C.int IntKind.i64 z10)), (6, V.c (C.ptr 3 0)), (7, V.c
   (C.ptr 4 0)), (8, V.c (C.int IntKind.i64 0))] [(0, Ob.amb), (1, Ob.box 59 [C.sl It z1, C.sl Th z3]), (2, Ob.box 59 [C.sl It z2, C.sl Th z6]), (3, Ob.box 99 [C.int IntKind.i64
   z13, C.sl It z24, C.sl Kp z32, C.sl It z28, C.sym z19]), (4, Ob.box 99 [C.int IntKind.i64 z15, C.sl It z25, C.sl Kp z35, C.sl It z29, C.sym z23])] 5) (VC.obl (I2 z38 (0, ()))
   (VC.all z9 fun (v5 : Int × Unit) =>
 let z59 := Prod.fst v5;
 let z60 := Lv.toN L z59;
 let z61 := Lv.get L Kp z32 z60;
 let z62 := Lv.get L Kp z35 z60;
 let z63 := Lv.ar L BinOp.add IntKind.i64 z59 1;
 let z64 := (Lv.ar L BinOp.add IntKind.i64 z59 1, ()); VC.imp (I2 z38 v5) (VC.br (Lv.cmp L BinOp.lss z59 z34) (VC.obl (Lv.inR L z59 z33) (VC.obl (Lv.inR L z59 z36) (VC.br (Lv.bnot L
   (Lv.band L (Lv.cmp L BinOp.eql (Prod.fst z61) (Prod.fst z62)) (Lv.band L (Lv.cmp L BinOp.eql (Prod.snd z61) (Prod.snd z62)) true))) (VC.ok ((false, ()) = z8)) (VC.ok (St.mk 96
   [(2, V.c (C.ptr 1 0)), (3, V.c (C.ptr 2 0)), (5, V.c (C.int IntKind.i64 z10)), (6, V.c (C.ptr 3 0)), (7, V.c (C.ptr 4 0)), (8, V.c (C.int IntKind.i64 z63))] [(0, Ob.amb), (1,
   Ob.box 59 [C.sl It z1, C.sl Th z3]), (2, Ob.box 59 [C.sl It z2, C.sl Th z6]), (3, Ob.box 99 [C.int IntKind.i64 z13, C.sl It z24, C.sl Kp z32, C.sl It z28, C.sym z19]), (4, Ob.box
   99 [C.int IntKind.i64 z15, C.sl It z25, C.sl Kp z35, C.sl It z29, C.sym z23])] 5 = St.mk 96 [(2, V.c (C.ptr 1 0)), (3, V.c (C.ptr 2 0)), (5, V.c (C.int IntKind.i64 z10)), (6, V.c
   (C.ptr 3 0)), (7, V.c (C.ptr 4 0)), (8, V.c (C.int IntKind.i64 z63))] [(0, Ob.amb), (1, Ob.box 59 [C.sl It z1, C.sl Th z3]), (2, Ob.box 59 [C.sl It z2, C.sl Th z6]), (3, Ob.box
   99 [C.int IntKind.i64 z13, C.sl It z24, C.sl Kp z32, C.sl It z28, C.sym z19]), (4, Ob.box 99 [C.int IntKind.i64 z15, C.sl It z25, C.sl Kp z35, C.sl It z29, C.sym z23])] 5 ∧ I2
   z38 z64 ∧ m2 z38 z64 < m2 z38 v5))))) (VC.ok (St.mk 96 [(2, V.c (C.ptr 1 0)), (3, V.c (C.ptr 2 0)), (5, V.c (C.int IntKind.i64 z39))] [(0, Ob.amb), (1, Ob.box 59 [C.sl It z1,
   C.sl Th z3]), (2, Ob.box 59 [C.sl It z2, C.sl Th z6])] 3 = St.mk 96 [(2, V.c (C.ptr 1 0)), (3, V.c (C.ptr 2 0)), (5, V.c (C.int IntKind.i64 z39))] [(0, Ob.amb), (1, Ob.box 59
   [C.sl It z1, C.sl Th z3]), (2, Ob.box 59 [C.sl It z2, C.sl Th z6])] 3 ∧ I z40 ∧ mu z40 < mu v1))))))) (VC.ok ((false, ()) = z8)))) (VC.ok ((false, ()) = z8)))))))))) (VC.ok
   ((true, ()) = z8))))))) (VC.ok ((false, ()) = z8)))
theorem n39_eq (L : Lv) (F : BxF) (I : Ds [It] → Prop) (mu : Ds [It] → Nat) (I2 : Int × Unit → Ds [It] → Prop) (m2 : Int × Unit → Ds [It] → Nat) (a b : StD) : vcC L F [27] (D39 (a39 L I mu I2 m2)) (S39 F) (a, b, ()) = n39 L F I mu I2 m2 a b := by kernel_rfl
theorem n39_go (L : Lv) (F : BxF) (I : Ds [It] → Prop) (mu : Ds [It] → Nat) (I2 : Int × Unit → Ds [It] → Prop) (m2 : Int × Unit → Ds [It] → Nat) (a b : StD) (h : VC.holds (n39 L F I mu I2 m2 a b)) : Holds (vcC L F [27] (D39 (a39 L I mu I2 m2)) (S39 F) (a, b, ())) := Holds.of_eq (n39_eq L F I mu I2 m2 a b) h
theorem eqKp (u v : KpD) : (VM.compare BinOp.eql u.1 v.1 && (VM.compare BinOp.eql u.2 v.2 && true)) = decide (u = v) := by
  obtain ⟨u1, u2⟩ := u
  obtain ⟨v1, v2⟩ := v
  show ((u1 == v1) && ((u2 == v2) && true)) = _
  rw [Bool.eq_iff_iff]; simp
theorem ok39 (F : BxF) (h : F.sameS = fun a b => decide (a = b)) (h1 : F.sameL = fun a b => decide (a = b)) (hp : F.bs = bS) (q : F.bl = bL) (k1 : SpecOk prog 27 (S27 F)) : SpecOk prog 39 (S39 F) := by
  refine contract_by hm hE D39 fnok39 _ fun (z : StD × StD × Unit) hpre => ?_
  obtain ⟨a, b, ⟨⟩⟩ := z
  have hpre' : F.bs a ∧ F.bs b := hpre
  rw [hp] at hpre'
  obtain ⟨⟨a1, a2, a3⟩, b1, b2, b3⟩ := hpre'
  let I : Int × Unit → Prop := Iv a.2.length fun k => (a.2.drop k = b.2.drop k ↔ a = b)
  let I2 : Int × Unit → Int × Unit → Prop := fun e => Iv (thAt a e.1).2.2.1.length fun k => ((thAt a e.1).2.2.1.drop k = (thAt b e.1).2.2.1.drop k ↔ (thAt a e.1).2.2.1 = (thAt b e.1).2.2.1)
  let m2 : Int × Unit → Int × Unit → Nat := fun e => Mu (thAt a e.1).2.2.1.length
  refine pack _ 3 (a39 Lv.std I (Mu a.2.length) I2 m2) (only_tab (T := cT F) (l := [27]) (tb_cons (tb_sp k1 (by kernel_rfl)) tb_nil)) ?_
  refine n39_go Lv.std F I (Mu a.2.length) I2 m2 a b ?_
  have e1 : ∀ k : Int, Lv.std.get Th a.2 k.toNat = thAt a k := fun _ => rfl
  have e2 : ∀ k : Int, Lv.std.get Th b.2 k.toNat = thAt b k := fun _ => rfl
  have e3 : ∀ (l : List KpD) (k : Int), Lv.std.get Kp l k.toNat = (l[k.toNat]?).getD (0, 0) := fun _ _ => rfl
  simp only [n39, VC.holds, std_cmp, std_cast, std_llen, std_toN, std_beq, std_band, std_bnot, e1, e2, e3, std_inR, std_ar_add, cmp_lss_t, cmp_lss_f, cmp_neq_t, cmp_neq_f, h, h1, q, Prod.mk.injEq, and_true, true_and]
  have fls : a ≠ b → false = decide (a = b) := fun e => (decide_eq_false e).symm
  refine ⟨⟨a1, b1⟩, fun h0 => ⟨fun hn => fls fun e => hn (by rw [e]), fun hlen => ⟨Iv.zero ⟨fun e => ?_, fun e => by rw [e]⟩, fun x hx => ?_⟩⟩, fun h0 => fls fun e => of_decide_eq_false h0 (by rw [e])⟩
  · exact Prod.ext (of_decide_eq_true h0) e
  · obtain ⟨k, rfl, hk, i3⟩ := Iv.elim hx
    refine ⟨fun hlt => ?_, fun hge => ?_⟩
    · have k1 : k < a.2.length := by omega
      have k2 : k < b.2.length := by omega
      have ea : thAt a (k : Int) = a.2[k] := by show (a.2[(k : Int).toNat]?).getD _ = _; rw [Int.toNat_natCast, List.getElem?_eq_getElem k1]; rfl
      have eb : thAt b (k : Int) = b.2[k] := by show (b.2[(k : Int).toNat]?).getD _ = _; rw [Int.toNat_natCast, List.getElem?_eq_getElem k2]; rfl
      rw [List.drop_eq_getElem_cons k1, List.drop_eq_getElem_cons k2] at i3
      have nek : a.2[k] ≠ b.2[k] → false = decide (a = b) := fun e => fls fun e' => e (by have := i3.2 e'; injection this)
      have J : I2 ((k : Int), ()) = Iv a.2[k].2.2.1.length fun j => (a.2[k].2.2.1.drop j = b.2[k].2.2.1.drop j ↔ a.2[k].2.2.1 = b.2[k].2.2.1) := by show Iv (thAt a (k : Int)).2.2.1.length (fun j => ((thAt a (k : Int)).2.2.1.drop j = (thAt b (k : Int)).2.2.1.drop j ↔ (thAt a (k : Int)).2.2.1 = (thAt b (k : Int)).2.2.1)) = _; rw [ea, eb]
      have M : m2 ((k : Int), ()) = Mu a.2[k].2.2.1.length := by show Mu (thAt a (k : Int)).2.2.1.length = _; rw [ea]
      have ta := a3 _ (List.getElem_mem k1)
      have tb := b3 _ (List.getElem_mem k2)
      simp only [ea, eb, J, M]
      refine ⟨⟨by omega, hlt⟩, ⟨by omega, by omega⟩, fun hn => nek fun e => hn (by rw [e]), fun hpc => ⟨fun f1 => ⟨fun f2 => ⟨fun hc => by simp at hc, fun _ => ?_⟩, fun f2 => ⟨fun _ => nek fun e => ?_, fun hc => by simp at hc⟩⟩, fun f1 => ⟨fun f2 => ⟨fun _ => nek fun e => ?_, fun hc => by simp at hc⟩, fun f2 => ⟨fun hc => by simp at hc, fun _ => ?_⟩⟩⟩⟩
      · refine ⟨⟨ta.1, tb.1⟩, fun g1 => ⟨⟨ta.2.2, tb.2.2⟩, fun g2 => ⟨fun hn => nek fun e => hn (by rw [e]), fun hl => ⟨Iv.zero Iff.rfl, fun y hy => ?_⟩⟩, fun g2 => nek fun e => of_decide_eq_false g2 (by rw [e])⟩, fun g1 => nek fun e => of_decide_eq_false g1 (by rw [e])⟩
        obtain ⟨j, rfl, hj, j3⟩ := Iv.elim hy
        refine ⟨fun hlt2 => ?_, fun hge2 => ?_⟩
        · have j1 : j < a.2[k].2.2.1.length := by omega
          have j2 : j < b.2[k].2.2.1.length := by omega
          rw [List.drop_eq_getElem_cons j1, List.drop_eq_getElem_cons j2] at j3
          simp only [Int.toNat_natCast, List.getElem?_eq_getElem j1, List.getElem?_eq_getElem j2, Option.getD_some, eqKp, Bool.not_eq_true', Bool.not_eq_false']
          refine ⟨⟨by omega, hlt2⟩, ⟨by omega, by omega⟩, fun he => nek fun e => ?_, fun he => ?_⟩
          · have := j3.2 (by rw [e]); injection this with e1 _; exact of_decide_eq_false he e1
          · rw [wr hlt2 ta.2.1]
            refine ⟨Iv.mk (by omega) ?_, Mu.lt j1⟩
            rw [← j3, of_decide_eq_true he]; simp only [List.cons.injEq, true_and]
        · rw [wr hlt a2]
          have e0 : a.2[k].2.2.1 = b.2[k].2.2.1 := by rw [← j3, List.drop_eq_nil_of_le (by omega), List.drop_eq_nil_of_le (by omega)]
          have e1 : a.2[k] = b.2[k] := Prod.ext hpc (Prod.ext (of_decide_eq_true g1) (Prod.ext e0 (Prod.ext (of_decide_eq_true g2) (by rw [f1, f2]))))
          refine ⟨Iv.mk (by omega) ?_, Mu.lt k1⟩
          rw [← i3, e1]; simp only [List.cons.injEq, true_and]
      · rw [e, f2] at f1; cases f1
      · rw [e, f2] at f1; cases f1
      · refine ⟨⟨ta.1, tb.1⟩, fun g1 => ⟨⟨ta.2.2, tb.2.2⟩, fun g2 => ⟨fun hn => nek fun e => hn (by rw [e]), fun hl => ⟨Iv.zero Iff.rfl, fun y hy => ?_⟩⟩, fun g2 => nek fun e => of_decide_eq_false g2 (by rw [e])⟩, fun g1 => nek fun e => of_decide_eq_false g1 (by rw [e])⟩
        obtain ⟨j, rfl, hj, j3⟩ := Iv.elim hy
        refine ⟨fun hlt2 => ?_, fun hge2 => ?_⟩
        · have j1 : j < a.2[k].2.2.1.length := by omega
          have j2 : j < b.2[k].2.2.1.length := by omega
          rw [List.drop_eq_getElem_cons j1, List.drop_eq_getElem_cons j2] at j3
          simp only [Int.toNat_natCast, List.getElem?_eq_getElem j1, List.getElem?_eq_getElem j2, Option.getD_some, eqKp, Bool.not_eq_true', Bool.not_eq_false']
          refine ⟨⟨by omega, hlt2⟩, ⟨by omega, by omega⟩, fun he => nek fun e => ?_, fun he => ?_⟩
          · have := j3.2 (by rw [e]); injection this with e1 _; exact of_decide_eq_false he e1
          · rw [wr hlt2 ta.2.1]
            refine ⟨Iv.mk (by omega) ?_, Mu.lt j1⟩
            rw [← j3, of_decide_eq_true he]; simp only [List.cons.injEq, true_and]
        · rw [wr hlt a2]
          have e0 : a.2[k].2.2.1 = b.2[k].2.2.1 := by rw [← j3, List.drop_eq_nil_of_le (by omega), List.drop_eq_nil_of_le (by omega)]
          have e1 : a.2[k] = b.2[k] := Prod.ext hpc (Prod.ext (of_decide_eq_true g1) (Prod.ext e0 (Prod.ext (of_decide_eq_true g2) (by rw [f1, f2]))))
          refine ⟨Iv.mk (by omega) ?_, Mu.lt k1⟩
          rw [← i3, e1]; simp only [List.cons.injEq, true_and]
    · have e0 : a = b := i3.1 (by rw [List.drop_eq_nil_of_le (by omega), List.drop_eq_nil_of_le (by omega)])
      exact (decide_eq_true e0).symm
end Go.Proofs.Tryz
set_option autoImplicit false
set_option linter.all false
namespace Go.Proofs.Tryz
open Go Go.VM
set_option maxRecDepth 100000
noncomputable def oL (G : AwF) : List (Nat × FT) := [(18, .spec (S18 G))]
def LW : VM.Spec := ⟨[Wk], [.bool], fun x => bwTF x.1, fun _ => (true, ())⟩
def n10 (L : Lv) (F : BxF) (G : AwF) (p : WkD)  : VC :=
 let z1 := (Prod.fst p, Prod.fst (Prod.snd p), Prod.snd (Prod.snd p));
 let z2 := BxF.bw F z1;
 let z3 := BxF.check F z1;
 let z4 := Lv.cmp L BinOp.eql z3 z3;
 let z5 := BxF.begE F z1;
 let z6 := Lv.cmp L BinOp.eql (Prod.snd z5) z3;
 let z7 := Prod.fst z5;
 let z8 := (Prod.fst z7, Prod.snd z7);
 let z9 := BxF.first F z1;
 let z10 := (Prod.fst z9, Prod.snd z9); VC.obl (BxF.bwT F z1) (VC.br (BxF.long F z1) (VC.obl z2 (VC.obl z2 (VC.obl z2 (VC.br (Lv.cmp L BinOp.eql z3 0) (VC.obl (BxF.pFirst F z1)
   (VC.obl z2 (VC.obl z2 (VC.br z4 (VC.br z6 (VC.obl (BxF.bs F z8 ∧ BxF.bs F z10) (VC.br (BxF.sameS F z8 z10) (VC.obl True (VC.br (AwF.aw G) (VC.ok ((true, ()) = (true, ()))) (VC.ok
   ((false, ()) = (true, ()))))) (VC.ok ((false, ()) = (true, ()))))) (VC.ok ((false, ()) = (true, ())))) (VC.ok ((false, ()) = (true, ()))))))) (VC.obl z2 (VC.obl z2 (VC.br z4
   (VC.br z6 (VC.obl (BxF.bs F z8 ∧ BxF.bs F ([], [])) (VC.br (BxF.sameS F z8 ([], [])) (VC.obl True (VC.br (AwF.aw G) (VC.ok ((true, ()) = (true, ()))) (VC.ok ((false, ()) = (true,
   ()))))) (VC.ok ((false, ()) = (true, ()))))) (VC.ok ((false, ()) = (true, ())))) (VC.ok ((false, ()) = (true, ())))))))))) (VC.obl True (VC.br (AwF.aw G) (VC.ok ((true, ()) =
   (true, ()))) (VC.ok ((false, ()) = (true, ()))))))
theorem n10_eq (L : Lv) (F : BxF) (G : AwF) (p : WkD) : vcO L F (oL G) [18, 20, 22, 28, 36, 37, 38, 39] 3 (D10 a0) LW (p, ()) = n10 L F G p := by kernel_rfl
theorem n10_go (L : Lv) (F : BxF) (G : AwF) (p : WkD) (h : VC.holds (n10 L F G p)) : Holds (vcO L F (oL G) [18, 20, 22, 28, 36, 37, 38, 39] 3 (D10 a0) LW (p, ())) := Holds.of_eq (n10_eq L F G p) h
theorem long_bW {p : WkD} (h : longF p = true) : bW p := by
  unfold longF at h
  simp only [Bool.and_eq_true, decide_eq_true_eq] at h
  obtain ⟨⟨h1, h2⟩, h3⟩ := h
  refine ⟨by omega, by omega, fun l hl => ?_⟩
  have := of_decide_eq_true (List.all_eq_true.1 h1 l hl)
  omega
theorem bS0 : bS ([], []) := ⟨by decide, by decide, fun _ h => by cases h⟩
theorem ok10 (F : BxF) (G : AwF) (g : G.aw = true) (h1 : F.long = longF) (h2 : F.check = checkF) (h3 : F.begE = begF) (h4 : F.first = firstF) (h5 : F.sameS = fun a b => decide (a = b)) (q1 : F.bwT = bwTF) (q2 : F.bw = bW) (q3 : F.bs = bS) (q4 : F.pFirst = fun p => p.1.length ≤ 1000000 ∧ p.2.1.length ≤ 1000000)
    (k1 : SpecOk prog 18 (S18 G)) (k2 : SpecOk prog 20 (S20 F)) (k3 : SpecOk prog 22 (S22 F)) (k4 : SpecOk prog 28 (S28 F)) (k5 : SpecOk prog 36 (S36 F)) (k6 : SpecOk prog 37 (S79 F)) (k7 : SpecOk prog 38 (S22 F)) (k8 : SpecOk prog 39 (S39 F)) : SpecOk prog 10 LW := by
  refine contract_by hm hE D10 fnok10 _ fun (z : WkD × Unit) hpre => ?_
  obtain ⟨p, ⟨⟩⟩ := z
  have hpre : bwTF p := hpre
  refine pack _ 3 a0 (only_tab (T := tabO (oL G) (cT F)) (l := [18, 20, 22, 28, 36, 37, 38, 39]) (tb_cons (tb_sp k1 (by kernel_rfl)) (tb_cons (tb_sp k2 (by kernel_rfl)) (tb_cons (tb_sp k3 (by kernel_rfl)) (tb_cons (tb_sp k4 (by kernel_rfl)) (tb_cons (tb_sp k5 (by kernel_rfl)) (tb_cons (tb_sp k6 (by kernel_rfl)) (tb_cons (tb_sp k7 (by kernel_rfl)) (tb_cons (tb_sp k8 (by kernel_rfl)) tb_nil))))))))) ?_
  refine n10_go Lv.std F G p ?_
  simp only [n10, VC.holds, std_cmp, std_scmp, std_ar_add, std_ar_sub, std_ar_mul, std_ar, std_dv, std_shf, std_conv, std_mn, std_mx, std_beq, std_bnot, std_band, std_scat, std_byte, std_ext, std_slen, std_strOf, std_bytes, std_llen, std_get, std_setl, std_app, std_take, std_drop, std_rep, std_mhas, std_mval, std_mput, std_cast, std_toN, std_sub, std_add, std_inR, std_le3, std_leN, std_ltN, std_ne0, std_nonneg, std_catOk, std_room, std_mkOk, std_nth, std_cnt, cmp_lss_t, cmp_lss_f, cmp_leq_t, cmp_leq_f, cmp_gtr_t, cmp_gtr_f, cmp_geq_t, cmp_geq_f, cmp_eql_t, cmp_eql_f, cmp_neq_t, cmp_neq_f, scmp_eql_t, scmp_eql_f, scmp_neq_t, scmp_neq_f, dflt_int, dflt_bool, dflt_str, dflt_sl, dflt_pair, g, h1, h2, h3, h4, h5, q1, q2, q3, q4, pe5, Prod.mk.injEq, and_true, true_and]
  refine ⟨hpre, fun hl => ?_, fun _ => by simp⟩
  have hb := long_bW hl
  refine ⟨hb, hb, hb, fun c => ?_, fun c => ?_⟩
  · have e : begF p = (firstF p, 0) := by rw [begF, if_neg (by simpa using c)]
    have hs : bS (firstF p) := ok_bS ((okP_iff p).1 c) (first_ok ((okP_iff p).1 c))
    simp [e, c, hb, hs, hb.1, hb.2.1]
  · have e : begF p = (([], []), checkF p) := by rw [begF, if_pos c]
    simp [e, hb, bS0]
end Go.Proofs.Tryz
set_option autoImplicit false
set_option linter.all false
namespace Go.Proofs.Tryz
open Go Go.VM
set_option maxRecDepth 100000
noncomputable def FF : BxF where
  within := withinF
  isNum := isNumF
  truth := truthF
  has := hasF
  fields := fieldsF
  shape := shapeF
  isIns := insOkF
  worked := workedF
  place := placeF
  value := default
  sees := seesF
  pRegs := fun l i => inReg l i.2.2.1 ∧ inReg l i.2.2.2.1
  pPlace := fun _ t i => inReg t.2.1 i.2.2.1
  pSees := fun s t p => inReg s.1 p ∧ t.2.2.1.length ≤ 1000000
  back := backF
  pBack := fun l => l.length ≤ 1000000
  see := default
  pSee := default
  waits := waitsF
  pW := fun _ s t i => pWF s t i
  can := canF
  pC := pCF
  each := eachF
  pE := pEF
  moves := movesF
  ended := endedF
  endOf := endOfF
  pEnd := fun m s => bS s ∧ s.2.length ≤ m.1.2.1.length
  first := firstF
  pFirst := fun p => p.1.length ≤ 1000000 ∧ p.2.1.length ≤ 1000000
  pHas := fun s => s.size ≤ 1000000
  pLi := fun l => l.length ≤ 1000000
  pLt := fun l => l.length ≤ 1000000
  pLk := fun l => l.length ≤ 1000000
  doo := doF
  pDo := pDoF
  step := default
  bl := bL
  bw := bW
  bs := bS
  be := sEn
  ble := fun l => l.length ≤ 1000000 ∧ ∀ e ∈ l, sEn e
  nums := numsF
  check := checkF
  isTh := default
  pTh := default
  isSt := default
  pSt := default
  ckSt := default
  begE := begF
  mvE := default
  ok := default
  okD := default
  okT := default
  doE := default
  endE := default
  endR := default
  seesE := default
  runE := default
  runR := default
  pRunR := default
  fenE := fenF
  fenR := default
  okW := default
  sameL := fun a b => decide (a = b)
  sameE := fun a b => decide (a = b)
  sameEs := fun a b => decide (a = b)
  sameS := fun a b => decide (a = b)
  sameW := default
  sameM := default
  sameK := default
  bm := default
  bk := default
  isMv := default
  isIn := default
  cmpL := cmpLF
  cmpLL := cmpLLF
  cmpE := cmpEF
  cmpR := lexR
  cmpRE := cmpREF
  hows := fun e => e.2.2
  thin := default
  long := longF
  thinS := default
  bwT := bwTF
  pCl := default
  or1 := orF3
  bll := fun l => l.length ≤ 1000000 ∧ ∀ x ∈ l, x.length ≤ 1000000
  put := putF
  pPut := fun b l => b.length ≤ 100000000 ∧ l.length ≤ 1000000
  comp := compL
  sort := fun l => List.mergeSort (α := EnD) l fun x y => !(Go.Proofs.ltOf cmpEF) y x
  rev := List.reverse
  key := keyF
  pKey := fun s => s.1.length ≤ 64 ∧ s.2.length ≤ 4 ∧ ∀ t ∈ s.2, t.2.1.length ≤ 100 ∧ t.2.2.1.length ≤ 100 ∧ t.2.2.2.1.length ≤ 100
  all := allF
  okM := fun m => OkP m.1
  ends := endsG (fun l => List.mergeSort (α := EnD) l fun x y => !(Go.Proofs.ltOf cmpEF) y x) compL
  bM := fun m => bW m.1
  way := wayG
  pWay := fun p _ => bW p
  over := default
  waR := default
  okW2 := default
  bsT := default
noncomputable def GG : AwF where
  ins := insF
  cr := ([0, 0], [[insF 1 1 [1], insF 9 0 [1], insF 8 1 [2], insF 15 0 [2]], [insF 1 1 [1], insF 9 1 [1], insF 8 0 [2], insF 15 0 [2]]], 1)
  ce := fun a b => ([1, 1], [[a], [b]], [1, 1])
  aw := true
theorem h86 : SpecOk prog 86 (S86 FF) := ok86 FF rfl
theorem h92 : SpecOk prog 92 (S92 FF) := ok92 FF rfl rfl h86
theorem h120 : SpecOk prog 120 (S120 FF) := ok120 FF rfl
theorem h84 : SpecOk prog 84 (S84 FF) := ok84 FF rfl rfl rfl rfl h86 h92 h120
theorem h87 : SpecOk prog 87 (S87 FF) := ok87 FF rfl rfl rfl h92
theorem h38 : SpecOk prog 38 (S22 FF) := ok38 FF rfl rfl rfl rfl rfl rfl h84 h86 h87
theorem h76 : XOk prog 76 (R76 FF).x := ok76 FF rfl
theorem h79 : SpecOk prog 79 (S79 FF) := ok79 FF rfl rfl rfl h76
theorem h146 : ItOk prog 146 (I146 FF) := ok146 FF rfl rfl
theorem h101 : SpecOk prog 101 (S101 FF) := ok101 FF rfl rfl rfl rfl h146
theorem h143 : SpecOk prog 143 (S143 FF) := ok143 FF rfl rfl rfl h86
theorem h157 : SpecOk prog 157 (S157 FF) := ok157 FF rfl rfl rfl rfl rfl rfl h101 h143
theorem h136 : SpecOk prog 136 (S136 FF) := ok136 FF rfl rfl rfl rfl h157
theorem h135 : ItOk prog 135 (I135 FF) := ok135 FF rfl rfl rfl rfl h136
theorem h90 : SpecOk prog 90 (S90 FF) := ok90 FF rfl rfl rfl h135
theorem h134 : SpecOk prog 134 (S134 FF) := ok134 FF rfl
theorem h141 : XOk prog 141 (R141 FF).x := ok141 FF rfl
theorem h142 : XOk prog 142 (R142 FF).x := ok142 FF rfl
theorem h144 : XOk prog 144 (mapcX acT) := ok144 FF
theorem h145 : SpecOk prog 145 (S145 FF) := ok145 FF rfl rfl rfl rfl h92 h134
theorem h99 : SpecOk prog 99 (S99 FF) := ok99 FF rfl rfl rfl rfl rfl rfl rfl rfl rfl rfl rfl rfl rfl rfl h76 h86 h92 h101 h134 h141 h142 h143 h144 h145
theorem h133 : XOk prog 133 (R133 FF).x := ok133 FF rfl rfl
theorem h109 : SpecOk prog 109 (S109 FF) := ok109 FF rfl rfl rfl rfl rfl h133 h134
theorem h66 : SpecOk prog 66 (S66 FF) := ok66 FF rfl rfl rfl rfl rfl rfl rfl rfl rfl rfl h79 h90 h99 h109
theorem h69 : SpecOk prog 69 (S69 FF) := ok69 FF rfl rfl rfl h135
theorem h71 : SpecOk prog 71 (S71 FF) := ok71 FF rfl rfl rfl h76
theorem h111 : SpecOk prog 111 (S111 FF) := ok111 FF rfl rfl
theorem h112 : SpecOk prog 112 (S112 FF) := ok112 FF rfl rfl
theorem h113 : XOk prog 113 (R113 FF).x := ok113 FF rfl rfl rfl rfl h112
theorem h114 : SpecOk prog 114 (S114 FF) := ok114 FF rfl rfl
theorem h70 : SpecOk prog 70 (S70 FF) := ok70 FF rfl rfl rfl rfl rfl rfl rfl h111 h112 h113 h114
theorem h106 : XOk prog 106 (R106 FF).u := ok106 FF rfl rfl rfl rfl h70
theorem h108 : SpecOk prog 108 (S108 FF) := ok108 FF rfl rfl h70
theorem h107 : XOk prog 107 (R107 FF).x := ok107 FF rfl rfl rfl rfl h108
theorem h62 : SpecOk prog 62 (S62 FF) := ok62 FF rfl rfl rfl rfl rfl (fun l => List.mergeSort_perm l _) rfl rfl rfl rfl rfl rfl h38 h66 h69 h71 h106 h107
theorem h19 : SpecOk prog 19 (S19 FF) := ok19 FF rfl rfl h62
theorem h21 : SpecOk prog 21 (S21 FF) := ok21 FF rfl rfl h62
theorem h72 : XOk prog 72 (R72 FF).u := ok72 FF rfl rfl
theorem h24 : SpecOk prog 24 (S24 FF) := ok24 FF rfl rfl rfl rfl rfl rfl rfl rfl rfl rfl rfl rfl rfl rfl h38 h66 h69 h71 h70 h72
theorem h75 : SpecOk prog 75 (S75 FF) := ok75 FF rfl rfl
theorem h27 : SpecOk prog 27 (S27 FF) := ok27 FF rfl rfl h75
theorem h29 : SpecOk prog 29 (S29 FF) := ok29 FF rfl rfl rfl rfl h38 h76
theorem h118 : SpecOk prog 118 (S118 FF) := ok118 FF rfl rfl
theorem h74 : SpecOk prog 74 (S74 FF) := ok74 FF rfl rfl rfl rfl rfl h75 h118
theorem h46 : SpecOk prog 46 (S46 FF) := ok46 FF rfl rfl h74
theorem h35 : SpecOk prog 35 (S35 FF) := ok35 FF rfl rfl rfl rfl h46
theorem h105 : SpecOk prog 105 (S105 GG) := ok105 FF GG rfl
theorem h60 : SpecOk prog 60 (S60 GG) := ok60 FF GG rfl rfl h105
theorem h61 : SpecOk prog 61 (S61 GG) := ok61 FF GG rfl
theorem h18 : SpecOk prog 18 (S18 GG) := ok18 FF GG rfl rfl rfl rfl rfl rfl rfl rfl rfl rfl rfl rfl h19 h21 h24 h27 h29 h35 h60 h61
theorem h20 : SpecOk prog 20 (S20 FF) := ok20 FF rfl
theorem h54 : SpecOk prog 54 (S86 FF) := ok54 FF rfl
theorem h63 : SpecOk prog 63 (S92 FF) := ok63 FF rfl rfl h54
theorem h77 : SpecOk prog 77 (S77 FF) := ok77 FF rfl rfl
theorem h78 : SpecOk prog 78 (S78 FF) := ok78 FF rfl
theorem h64 : SpecOk prog 64 (S84 FF) := ok64 FF rfl rfl rfl rfl rfl rfl h54 h63 h77 h78
theorem h22 : SpecOk prog 22 (S22 FF) := ok22 FF rfl rfl rfl rfl rfl h54 h63 h64
theorem h28 : SpecOk prog 28 (S28 FF) := ok28 FF rfl rfl
theorem h36 : SpecOk prog 36 (S36 FF) := ok36 FF rfl rfl rfl rfl rfl h38 h79
theorem h37 : SpecOk prog 37 (S79 FF) := ok37 FF rfl rfl
theorem h39 : SpecOk prog 39 (S39 FF) := ok39 FF rfl rfl rfl rfl h27
theorem h10 : SpecOk prog 10 LW := ok10 FF GG rfl rfl rfl rfl rfl rfl rfl rfl rfl rfl h18 h20 h22 h28 h36 h37 h38 h39
end Go.Proofs.Tryz
