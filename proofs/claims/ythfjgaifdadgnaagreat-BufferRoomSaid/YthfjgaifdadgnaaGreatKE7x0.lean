/- What functions of the weak memory compute, proved through the condition generator, and plain facts of it. Conditions: none of ours. -/
import Derived.Calls
import Derived.Orders
import Derived.Below
import Derived.Lib.ItoaNum
import Derived.Laws.Sem
import Derived.Laws.Cells
import Derived.Laws.Entries
import Derived.Laws.StructEq
import Derived.Lib.IfaceEq
import Derived.Lib.IfaceNeq
import Derived.Laws.MakeOwn
import Derived.Laws.AppendOwn
import Derived.Lib.AppendStr
import Derived.Laws.CopyRow
import Derived.Laws.BytesString
import Derived.MapKept
import Derived.OrdersIn
import Derived.RangeFuncCalls
import Derived.RangeFuncLeaves
import Derived.Test.YthfjgaifdadgnaaGreatProg
import Derived.Shelf.SlSortCmp.Insertion
import GoSem.Step
import Derived.Shelf.SlSortCmp.InsertionK
import Derived.Shelf.SlSortCmp.NoneTotal
import Derived.Ground.SlsfProg
import Derived.Sort.LotA
import Derived.Test.YthfjgaifdadgnaaGreatK0
import Derived.Test.YthfjgaifdadgnaaGreatK1
import Derived.Test.YthfjgaifdadgnaaGreatK2
import Derived.Test.YthfjgaifdadgnaaGreatK3
import Derived.Test.YthfjgaifdadgnaaGreatK4
import Derived.Test.YthfjgaifdadgnaaGreatK5
import Derived.Test.YthfjgaifdadgnaaGreatK6
import Derived.Test.YthfjgaifdadgnaaGreatK7
import Derived.Test.YthfjgaifdadgnaaGreatK8
import Derived.Test.YthfjgaifdadgnaaGreatK9
import Derived.Test.YthfjgaifdadgnaaGreatK10
import Derived.Test.YthfjgaifdadgnaaGreatK11
import Derived.Test.YthfjgaifdadgnaaGreatK12
import Derived.Test.YthfjgaifdadgnaaGreatK13
import Derived.Test.YthfjgaifdadgnaaGreatK14
import Derived.Test.YthfjgaifdadgnaaGreatK15
import Derived.Test.YthfjgaifdadgnaaGreatK16
import Derived.Test.YthfjgaifdadgnaaGreatK17
import Derived.Test.YthfjgaifdadgnaaGreatK18
import Derived.Test.YthfjgaifdadgnaaGreatK19
import Derived.Test.YthfjgaifdadgnaaGreatK20
import Derived.Test.YthfjgaifdadgnaaGreatK21
import Derived.Test.YthfjgaifdadgnaaGreatK22
import Derived.Test.YthfjgaifdadgnaaGreatK23
import Derived.Test.YthfjgaifdadgnaaGreatK24
import Derived.Test.YthfjgaifdadgnaaGreatK25
import Derived.Test.YthfjgaifdadgnaaGreatK26
set_option autoImplicit false
set_option linter.all false
namespace Go.Proofs.Tryz
open Go Go.VM
set_option maxRecDepth 100000
theorem at17 : prog.funcs[17]? = some f17 := by kernel_rfl
def pl17 : Nat → Plan
  | _ => []
noncomputable def D17 (ann : Nat → LAnn) : FnD := ⟨f17.body.getD .skip, f17.ntmps, f17.results.toList, pl17, ann⟩
theorem fnok17 (ann : Nat → LAnn) : FnOk prog 17 (D17 ann) := ⟨f17, at17, by kernel_rfl, by kernel_rfl, rfl, rfl, by kernel_rfl⟩
theorem at32 : prog.funcs[32]? = some f32 := by kernel_rfl
def pl32 : Nat → Plan
  | _ => []
noncomputable def D32 (ann : Nat → LAnn) : FnD := ⟨f32.body.getD .skip, f32.ntmps, f32.results.toList, pl32, ann⟩
theorem fnok32 (ann : Nat → LAnn) : FnOk prog 32 (D32 ann) := ⟨f32, at32, by kernel_rfl, by kernel_rfl, rfl, rfl, by kernel_rfl⟩
theorem at33 : prog.funcs[33]? = some f33 := by kernel_rfl
def pl33 : Nat → Plan
  | _ => []
noncomputable def D33 (ann : Nat → LAnn) : FnD := ⟨f33.body.getD .skip, f33.ntmps, f33.results.toList, pl33, ann⟩
theorem fnok33 (ann : Nat → LAnn) : FnOk prog 33 (D33 ann) := ⟨f33, at33, by kernel_rfl, by kernel_rfl, rfl, rfl, by kernel_rfl⟩
theorem at34 : prog.funcs[34]? = some f34 := by kernel_rfl
def pl34 : Nat → Plan
  | 4 => [(0, []), (1, [0]), (2, []), (3, []), (4, [0, 1, 2, 3]), (5, [])]
  | _ => []
noncomputable def D34 (ann : Nat → LAnn) : FnD := ⟨f34.body.getD .skip, f34.ntmps, f34.results.toList, pl34, ann⟩
theorem fnok34 (ann : Nat → LAnn) : FnOk prog 34 (D34 ann) := ⟨f34, at34, by kernel_rfl, by kernel_rfl, rfl, rfl, by kernel_rfl⟩
end Go.Proofs.Tryz
set_option autoImplicit false
set_option linter.all false
namespace Go.Proofs.Tryz
open Go Go.VM
set_option maxRecDepth 100000
theorem at7 : prog.funcs[7]? = some f7 := by kernel_rfl
def pl7 : Nat → Plan
  | _ => []
noncomputable def D7 (ann : Nat → LAnn) : FnD := ⟨f7.body.getD .skip, f7.ntmps, f7.results.toList, pl7, ann⟩
theorem fnok7 (ann : Nat → LAnn) : FnOk prog 7 (D7 ann) := ⟨f7, at7, by kernel_rfl, by kernel_rfl, rfl, rfl, by kernel_rfl⟩
end Go.Proofs.Tryz
set_option autoImplicit false
set_option linter.all false
namespace Go.Proofs.Tryz
open Go Go.VM
set_option maxRecDepth 100000
def a34 (L : Lv) (I : Ds [It] → Prop) (mu : Ds [It] → Nat) : Nat → LAnn
  | 0 => anH L [0, 3, 5] [] [.s 5 It] I mu
  | _ => .no
def n34 (L : Lv) (F : BxF) (I : Ds [It] → Prop) (mu : Ds [It] → Nat) (a : List EnD) (b : EnD)  : VC :=
 let z1 := Prod.fst b;
 let z2 := Prod.snd b;
 let z3 := Prod.fst z2;
 let z4 := Ty.int IntKind.u8;
 let z5 := Prod.snd z2;
 let z6 := (Prod.fst b, Prod.fst z2, Prod.snd z2);
 let z7 := (BxF.isIn F a b, ()); VC.obl (St.mk 18 [(0, V.c (C.sl En a)), (3, V.c (C.ptr 1 0)), (5, V.c (C.int IntKind.i64 0))] [(0, Ob.amb), (1, Ob.box 38 [C.sl It z1, C.sl (Ty.sl
   It) z3, C.sl z4 z5])] 2 = St.mk 18 [(0, V.c (C.sl En a)), (3, V.c (C.ptr 1 0)), (5, V.c (C.int IntKind.i64 0))] [(0, Ob.amb), (1, Ob.box 38 [C.sl It z1, C.sl (Ty.sl It) z3, C.sl
   z4 z5])] 2) (VC.obl (I (0, ())) (VC.all (Int × Unit) fun (v1 : Int × Unit) =>
 let z8 := Prod.fst v1;
 let z9 := Lv.get L En a (Lv.toN L z8);
 let z10 := Prod.snd z9;
 let z11 := (Prod.fst z9, Prod.fst z10, Prod.snd z10);
 let z12 := Lv.ar L BinOp.add IntKind.i64 z8 1;
 let z13 := (Lv.ar L BinOp.add IntKind.i64 z8 1, ()); VC.imp (I v1) (VC.br (Lv.cmp L BinOp.lss z8 (Lv.cast L (Lv.llen L En a))) (VC.obl (Lv.inR L z8 (Lv.llen L En a)) (VC.obl
   (BxF.be F z11 ∧ BxF.be F z6) (VC.br (BxF.sameE F z11 z6) (VC.ok ((true, ()) = z7)) (VC.ok (St.mk 18 [(0, V.c (C.sl En a)), (3, V.c (C.ptr 1 0)), (5, V.c (C.int IntKind.i64 z12))]
   [(0, Ob.amb), (1, Ob.box 38 [C.sl It z1, C.sl (Ty.sl It) z3, C.sl z4 z5])] 2 = St.mk 18 [(0, V.c (C.sl En a)), (3, V.c (C.ptr 1 0)), (5, V.c (C.int IntKind.i64 z12))] [(0,
   Ob.amb), (1, Ob.box 38 [C.sl It z1, C.sl (Ty.sl It) z3, C.sl z4 z5])] 2 ∧ I z13 ∧ mu z13 < mu v1))))) (VC.ok ((false, ()) = z7)))))
theorem n34_eq (L : Lv) (F : BxF) (I : Ds [It] → Prop) (mu : Ds [It] → Nat) (a : List EnD) (b : EnD) : vcC L F [46] (D34 (a34 L I mu)) (S34 F) (a, b, ()) = n34 L F I mu a b := by kernel_rfl
theorem n34_go (L : Lv) (F : BxF) (I : Ds [It] → Prop) (mu : Ds [It] → Nat) (a : List EnD) (b : EnD) (h : VC.holds (n34 L F I mu a b)) : Holds (vcC L F [46] (D34 (a34 L I mu)) (S34 F) (a, b, ())) := Holds.of_eq (n34_eq L F I mu a b) h
theorem ok34 (F : BxF) (h : F.isIn = fun l x => decide (x ∈ l)) (h1 : F.sameE = fun a b => decide (a = b)) (hp : F.ble = fun l => l.length ≤ 1000000 ∧ ∀ e ∈ l, sEn e) (q : F.be = sEn) (k1 : SpecOk prog 46 (S46 F)) : SpecOk prog 34 (S34 F) := by
  refine contract_by hm hE D34 fnok34 _ fun (z : List EnD × EnD × Unit) hpre => ?_
  obtain ⟨a, b, ⟨⟩⟩ := z
  have hpre' : F.ble a ∧ F.be b := hpre
  rw [hp, q] at hpre'
  obtain ⟨⟨g, g2⟩, g3⟩ := hpre'
  let I : Int × Unit → Prop := Iv a.length fun k => ∀ x ∈ a.take k, x ≠ b
  refine pack _ 3 (a34 Lv.std I (Mu a.length)) (only_tab (T := cT F) (l := [46]) (tb_cons (tb_sp k1 (by kernel_rfl)) tb_nil)) ?_
  refine n34_go Lv.std F I (Mu a.length) a b ?_
  have e1 : ∀ (l : List EnD) (k : Int), Lv.std.get En l k.toNat = (l[k.toNat]?).getD ([], [], []) := fun _ _ => rfl
  simp only [n34, VC.holds, std_cmp, std_cast, std_llen, std_toN, e1, std_inR, std_ar_add, cmp_lss_t, cmp_lss_f, h, h1, q, pe5, Prod.mk.injEq, and_true, true_and]
  refine ⟨Iv.zero (by simp), fun x hx => ?_⟩
  obtain ⟨k, rfl, hk, i3⟩ := Iv.elim hx
  simp only [Int.toNat_natCast]
  refine ⟨fun hlt => ?_, fun hge => ?_⟩
  · have h1 : k < a.length := by omega
    simp only [List.getElem?_eq_getElem h1, Option.getD_some]
    refine ⟨⟨by omega, hlt⟩, ⟨g2 _ (List.getElem_mem h1), g3⟩, fun he => ?_, fun he => ?_⟩
    · have he' : a[k] = b := of_decide_eq_true he
      exact (decide_eq_true (by rw [← he']; exact List.getElem_mem h1)).symm
    · have he' : ¬ a[k] = b := of_decide_eq_false he
      rw [wr hlt g]
      refine ⟨Iv.mk (by omega) (fun x hx => ?_), Mu.lt (by omega)⟩
      rw [List.take_succ, List.getElem?_eq_getElem h1] at hx
      rcases List.mem_append.1 hx with h2 | h2
      · exact i3 x h2
      · have : x = a[k] := by simpa using h2
        rw [this]; exact he'
  · rw [show k = a.length by omega, List.take_length] at i3
    exact (decide_eq_false (fun hm => i3 b hm rfl)).symm
end Go.Proofs.Tryz
set_option autoImplicit false
set_option linter.all false
namespace Go.Proofs.Tryz
open Go Go.VM
set_option maxRecDepth 100000
def n17 (L : Lv) (F : BxF) (I : Ds [It] → Prop) (mu : Ds [It] → Nat) (p : WkD)  : VC :=
 let z1 := Prod.fst p;
 let z2 := Lv.cast L (Lv.llen L It z1);
 let z3 := (BxF.thin F p, ());
 let z4 := Prod.fst (Prod.snd p);
 let z5 := Lv.llen L (Ty.sl In) z4;
 let z6 := Lv.cast L z5;
 let z7 := Lv.cmp L BinOp.gtr z6 6;
 let z8 := Prod.snd (Prod.snd p);
 let z9 := Lv.cmp L BinOp.gtr z6 3; VC.br (Lv.cmp L BinOp.gtr z2 70) (VC.ok ((false, ()) = z3)) (VC.br (Lv.cmp L BinOp.gtr z2 8) (VC.br (Lv.cmp L BinOp.leq z2 64) (VC.ok ((false,
   ()) = z3)) (VC.br z7 (VC.ok ((false, ()) = z3)) (VC.obl (St.mk 60 [(1, V.c (C.ptr 1 0)), (3, V.c (C.int IntKind.i64 0))] [(0, Ob.amb), (1, Ob.box 25 [C.sl It z1, C.sl (Ty.sl In)
   z4, C.int IntKind.i64 z8])] 2 = St.mk 60 [(1, V.c (C.ptr 1 0)), (3, V.c (C.int IntKind.i64 0))] [(0, Ob.amb), (1, Ob.box 25 [C.sl It z1, C.sl (Ty.sl In) z4, C.int IntKind.i64
   z8])] 2) (VC.obl (I (0, ())) (VC.all (Int × Unit) fun (v1 : Int × Unit) =>
 let z10 := Prod.fst v1;
 let z11 := Lv.cast L (Lv.llen L In (Lv.get L (Ty.sl In) z4 (Lv.toN L z10)));
 let z12 := Lv.cmp L BinOp.gtr z11 2;
 let z13 := Lv.ar L BinOp.add IntKind.i64 z10 1;
 let z14 := (Lv.ar L BinOp.add IntKind.i64 z10 1, ()); VC.imp (I v1) (VC.br (Lv.cmp L BinOp.lss z10 z6) (VC.obl (Lv.inR L z10 z5) (VC.br (Lv.cmp L BinOp.gtr z11 205) (VC.ok ((false,
   ()) = z3)) (VC.br (Lv.cmp L BinOp.gtr z11 12) (VC.br (Lv.cmp L BinOp.leq z11 200) (VC.ok ((false, ()) = z3)) (VC.br z9 (VC.br z12 (VC.ok ((false, ()) = z3)) (VC.ok (St.mk 60 [(1,
   V.c (C.ptr 1 0)), (3, V.c (C.int IntKind.i64 z13))] [(0, Ob.amb), (1, Ob.box 25 [C.sl It z1, C.sl (Ty.sl In) z4, C.int IntKind.i64 z8])] 2 = St.mk 60 [(1, V.c (C.ptr 1 0)), (3,
   V.c (C.int IntKind.i64 z13))] [(0, Ob.amb), (1, Ob.box 25 [C.sl It z1, C.sl (Ty.sl In) z4, C.int IntKind.i64 z8])] 2 ∧ I z14 ∧ mu z14 < mu v1))) (VC.ok (St.mk 60 [(1, V.c (C.ptr
   1 0)), (3, V.c (C.int IntKind.i64 z13))] [(0, Ob.amb), (1, Ob.box 25 [C.sl It z1, C.sl (Ty.sl In) z4, C.int IntKind.i64 z8])] 2 = St.mk 60 [(1, V.c (C.ptr 1 0)), (3, V.c (C.int
   IntKind.i64 z13))] [(0, Ob.amb), (1, Ob.box 25 [C.sl It z1, C.sl (Ty.sl In) z4, C.int IntKind.i64 z8])] 2 ∧ I z14 ∧ mu z14 < mu v1)))) (VC.br z9 (VC.br z12 (VC.ok ((false, ()) =
   z3)) (VC.ok (St.mk 60 [(1, V.c (C.ptr 1 0)), (3, V.c (C.int IntKind.i64 z13))] [(0, Ob.amb), (1, Ob.box 25 [C.sl It z1, C.sl (Ty.sl In) z4, C.int IntKind.i64 z8])] 2 = St.mk 60
   [(1, V.c (C.ptr 1 0)), (3, V.c (C.int IntKind.i64 z13))] [(0, Ob.amb), (1, Ob.box 25 [C.sl It z1, C.sl (Ty.sl In) z4, C.int IntKind.i64 z8])] 2 ∧ I z14 ∧ mu z14 < mu v1))) (VC.ok
   (St.mk 60 [(1, V.c (C.ptr 1 0)), (3, V.c (C.int IntKind.i64 z13))] [(0, Ob.amb), (1, Ob.box 25 [C.sl It z1, C.sl (Ty.sl In) z4, C.int IntKind.i64 z8])] 2 = St.mk 60 [(1, V.c
   (C.ptr 1 0)), (3, V.c (C.int IntKind.i64 z13))] [(0, Ob.amb), (1, Ob.box 25 [C.sl It z1, C.sl (Ty.sl In) z4, C.int IntKind.i64 z8])] 2 ∧ I z14 ∧ mu z14 < mu v1)))))) (VC.ok
   ((true, ()) = z3)))))))) (VC.br z7 (VC.ok ((false, ()) = z3)) (VC.obl (St.mk 60 [(1, V.c (C.ptr 1 0)), (3, V.c (C.int IntKind.i64 0))] [(0, Ob.amb), (1, Ob.box 25 [C.sl It z1,
   C.sl (Ty.sl In) z4, C.int IntKind.i64 z8])] 2 = St.mk 60 [(1, V.c (C.ptr 1 0)), (3, V.c (C.int IntKind.i64 0))] [(0, Ob.amb), (1, Ob.box 25 [C.sl It z1, C.sl (Ty.sl In) z4, C.int
   IntKind.i64 z8])] 2) (VC.obl (I (0, ())) (VC.all (Int × Unit) fun (v2 : Int × Unit) =>
 let z15 := Prod.fst v2;
 let z16 := Lv.cast L (Lv.llen L In (Lv.get L (Ty.sl In) z4 (Lv.toN L z15)));
 let z17 := Lv.cmp L BinOp.gtr z16 2;
 let z18 := Lv.ar L BinOp.add IntKind.i64 z15 1;
 let z19 := (Lv.ar L BinOp.add IntKind.i64 z15 1, ()); VC.imp (I v2) (VC.br (Lv.cmp L BinOp.lss z15 z6) (VC.obl (Lv.inR L z15 z5) (VC.br (Lv.cmp L BinOp.gtr z16 205) (VC.ok ((false,
   ()) = z3)) (VC.br (Lv.cmp L BinOp.gtr z16 12) (VC.br (Lv.cmp L BinOp.leq z16 200) (VC.ok ((false, ()) = z3)) (VC.br z9 (VC.br z17 (VC.ok ((false, ()) = z3)) (VC.ok (St.mk 60 [(1,
   V.c (C.ptr 1 0)), (3, V.c (C.int IntKind.i64 z18))] [(0, Ob.amb), (1, Ob.box 25 [C.sl It z1, C.sl (Ty.sl In) z4, C.int IntKind.i64 z8])] 2 = St.mk 60 [(1, V.c (C.ptr 1 0)), (3,
   V.c (C.int IntKind.i64 z18))] [(0, Ob.amb), (1, Ob.box 25 [C.sl It z1, C.sl (Ty.sl In) z4, C.int IntKind.i64 z8])] 2 ∧ I z19 ∧ mu z19 < mu v2))) (VC.ok (St.mk 60 [(1, V.c (C.ptr
   1 0)), (3, V.c (C.int IntKind.i64 z18))] [(0, Ob.amb), (1, Ob.box 25 [C.sl It z1, C.sl (Ty.sl In) z4, C.int IntKind.i64 z8])] 2 = St.mk 60 [(1, V.c (C.ptr 1 0)), (3, V.c (C.int
   IntKind.i64 z18))] [(0, Ob.amb), (1, Ob.box 25 [C.sl It z1, C.sl (Ty.sl In) z4, C.int IntKind.i64 z8])] 2 ∧ I z19 ∧ mu z19 < mu v2)))) (VC.br z9 (VC.br z17 (VC.ok ((false, ()) =
   z3)) (VC.ok (St.mk 60 [(1, V.c (C.ptr 1 0)), (3, V.c (C.int IntKind.i64 z18))] [(0, Ob.amb), (1, Ob.box 25 [C.sl It z1, C.sl (Ty.sl In) z4, C.int IntKind.i64 z8])] 2 = St.mk 60
   [(1, V.c (C.ptr 1 0)), (3, V.c (C.int IntKind.i64 z18))] [(0, Ob.amb), (1, Ob.box 25 [C.sl It z1, C.sl (Ty.sl In) z4, C.int IntKind.i64 z8])] 2 ∧ I z19 ∧ mu z19 < mu v2))) (VC.ok
   (St.mk 60 [(1, V.c (C.ptr 1 0)), (3, V.c (C.int IntKind.i64 z18))] [(0, Ob.amb), (1, Ob.box 25 [C.sl It z1, C.sl (Ty.sl In) z4, C.int IntKind.i64 z8])] 2 = St.mk 60 [(1, V.c
   (C.ptr 1 0)), (3, V.c (C.int IntKind.i64 z18))] [(0, Ob.amb), (1, Ob.box 25 [C.sl It z1, C.sl (Ty.sl In) z4, C.int IntKind.i64 z8])] 2 ∧ I z19 ∧ mu z19 < mu v2)))))) (VC.ok
   ((true, ()) = z3))))))))
theorem n17_eq (L : Lv) (F : BxF) (I : Ds [It] → Prop) (mu : Ds [It] → Nat) (p : WkD) : vcC L F [] (D17 (aT3 L I mu)) (S17 F) (p, ()) = n17 L F I mu p := by kernel_rfl
theorem n17_go (L : Lv) (F : BxF) (I : Ds [It] → Prop) (mu : Ds [It] → Nat) (p : WkD) (h : VC.holds (n17 L F I mu p)) : Holds (vcC L F [] (D17 (aT3 L I mu)) (S17 F) (p, ())) := Holds.of_eq (n17_eq L F I mu p) h
def thinL (n : Nat) (l : List InD) : Bool := !(decide (205 < (l.length : Int)) || (decide (12 < (l.length : Int)) && decide ((l.length : Int) ≤ 200)) || (decide (3 < (n : Int)) && decide (2 < (l.length : Int))))
def thinF (p : WkD) : Bool := !(decide (70 < (p.1.length : Int)) || (decide (8 < (p.1.length : Int)) && decide ((p.1.length : Int) ≤ 64)) || decide (6 < (p.2.1.length : Int))) && p.2.1.all (thinL p.2.1.length)
theorem ok17 (F : BxF) (h : F.thin = thinF) (hp : F.bwT = bwTF) : SpecOk prog 17 (S17 F) := by
  refine contract_by hm hE D17 fnok17 _ fun (z : WkD × Unit) hpre => ?_
  obtain ⟨p, ⟨⟩⟩ := z
  have hpre' : F.bwT p := hpre
  rw [hp] at hpre'
  obtain ⟨g1, g2, g3⟩ := hpre'
  let I : Int × Unit → Prop := Iv p.2.1.length fun k => (p.2.1.drop k).all (thinL p.2.1.length) = p.2.1.all (thinL p.2.1.length)
  refine pack _ 3 (aT3 Lv.std I (Mu p.2.1.length)) (only_tab (T := cT F) (l := []) tb_nil) ?_
  refine n17_go Lv.std F I (Mu p.2.1.length) p ?_
  have e2 : ∀ (l : List (List InD)) (k : Int), Lv.std.get (.sl In) l k.toNat = (l[k.toNat]?).getD [] := fun _ _ => rfl
  simp only [n17, VC.holds, std_cmp, std_cast, std_llen, std_toN, e2, std_inR, std_ar_add, cmp_lss_t, cmp_lss_f, cmp_gtr_t, cmp_gtr_f, cmp_leq_t, cmp_leq_f, h, and_true, true_and]
  have et : ∀ l, thinL p.2.1.length l = true ↔ ¬ (205 < (l.length : Int) ∨ (12 < (l.length : Int) ∧ (l.length : Int) ≤ 200) ∨ (3 < (p.2.1.length : Int) ∧ 2 < (l.length : Int))) := fun l => by
    unfold thinL; simp only [Bool.not_eq_true', Bool.or_eq_false_iff, Bool.and_eq_false_iff, decide_eq_false_iff_not]; omega
  have ew : thinF p = true ↔ ¬ (70 < (p.1.length : Int) ∨ (8 < (p.1.length : Int) ∧ (p.1.length : Int) ≤ 64) ∨ 6 < (p.2.1.length : Int)) ∧ p.2.1.all (thinL p.2.1.length) = true := by
    unfold thinF; simp only [Bool.and_eq_true, Bool.not_eq_true', Bool.or_eq_false_iff, Bool.and_eq_false_iff, decide_eq_false_iff_not]
    constructor
    · rintro ⟨h1, h2⟩; exact ⟨by omega, h2⟩
    · rintro ⟨h1, h2⟩; exact ⟨by omega, h2⟩
  have fls : ¬ (thinF p = true) → (false, ()) = (thinF p, ()) := fun h => by rw [Bool.not_eq_true] at h; rw [h]
  have fw : (70 < (p.1.length : Int) ∨ (8 < (p.1.length : Int) ∧ (p.1.length : Int) ≤ 64) ∨ 6 < (p.2.1.length : Int)) → (false, ()) = (thinF p, ()) := fun h => fls fun e => (ew.1 e).1 h
  have fail : ∀ k : Nat, k < p.2.1.length → (p.2.1.drop k).all (thinL p.2.1.length) = p.2.1.all (thinL p.2.1.length) → (205 < (((p.2.1[k]?).getD []).length : Int) ∨ (12 < (((p.2.1[k]?).getD []).length : Int) ∧ (((p.2.1[k]?).getD []).length : Int) ≤ 200) ∨ (3 < (p.2.1.length : Int) ∧ 2 < (((p.2.1[k]?).getD []).length : Int))) → (false, ()) = (thinF p, ()) := fun k hk i3 h => fls fun e => by
    rw [(ew.1 e).2, all_drop _ _ k [] hk, Bool.and_eq_true] at i3
    exact (et _).1 i3.1 h
  have passI : ∀ k : Nat, k < p.2.1.length → (p.2.1.drop k).all (thinL p.2.1.length) = p.2.1.all (thinL p.2.1.length) → ¬ (205 < (((p.2.1[k]?).getD []).length : Int) ∨ (12 < (((p.2.1[k]?).getD []).length : Int) ∧ (((p.2.1[k]?).getD []).length : Int) ≤ 200) ∨ (3 < (p.2.1.length : Int) ∧ 2 < (((p.2.1[k]?).getD []).length : Int))) → I (IntKind.i64.wrap ((k : Int) + 1), ()) := fun k hk i3 h => by
    rw [all_drop _ _ k [] hk, (et _).2 h, Bool.true_and] at i3
    rw [wrB (by omega) g2]
    exact Iv.mk (by omega) i3
  have passM : ∀ k : Nat, k < p.2.1.length → Mu p.2.1.length (IntKind.i64.wrap ((k : Int) + 1), ()) < Mu p.2.1.length ((k : Int), ()) := fun k hk => by rw [wrB (by omega) g2]; exact Mu.lt hk
  refine ⟨fun a => fw (by omega), fun a => ⟨fun b => ⟨fun c => fw (by omega), fun c => ⟨fun d => fw (by omega), fun d => ?_⟩⟩, fun b => ⟨fun d => fw (by omega), fun d => ?_⟩⟩⟩
  all_goals
    refine ⟨Iv.zero rfl, fun x hx => ?_⟩
    obtain ⟨k, rfl, hk, i3⟩ := Iv.elim hx
    simp only [Int.toNat_natCast]
    refine ⟨fun hlt => ⟨⟨by omega, hlt⟩, ?_⟩, fun hge => ?_⟩
    · have fail' := fail k (by omega) i3
      have passI' := passI k (by omega) i3
      have passM' := passM k (by omega)
      clear_value I
      repeat' (first | refine And.intro ?_ ?_ | intro _)
      all_goals first | exact passM' | exact fail' (by omega) | exact passI' (by omega)
    · rw [show k = p.2.1.length by omega, List.drop_length] at i3
      have i3 : true = p.2.1.all (thinL p.2.1.length) := i3
      rw [ew.2 ⟨by omega, i3.symm⟩]
end Go.Proofs.Tryz
set_option autoImplicit false
set_option linter.all false
namespace Go.Proofs.Tryz
open Go Go.VM
theorem getq_app {α : Type} {l : List α} {n : Nat} {x : α} (r : List α) (h : l[n]? = some x) : (l ++ r)[n]? = some x := by
  obtain ⟨h1, h2⟩ := List.getElem?_eq_some_iff.1 h
  rw [List.getElem?_append_left h1]; exact h
theorem getq_lt {α : Type} {l : List α} {n : Nat} {x : α} (h : l[n]? = some x) : n < l.length := (List.getElem?_eq_some_iff.1 h).1
theorem met_mem {l : List MtD} {s : StD} : metIn l s = true ↔ s ∈ l.map Prod.fst := by
  rw [met_iff, List.mem_map]
  constructor
  · rintro ⟨n, x, hn, he⟩; exact ⟨x, List.mem_of_getElem? hn, he⟩
  · rintro ⟨x, hx, he⟩
    obtain ⟨n, hn⟩ := List.getElem?_of_mem hx
    exact ⟨n, x, hn, he⟩
theorem AddI.snoc {m : McD} {a : Nat} {s : StD} {j : Nat} {l : List MtD} (h : AddI m a s j l) {v : MvD} (hv : (movesF m s)[j]? = some v) (hn : metIn l (doF m s v) = false) : AddI m a s (j + 1) (l ++ [(doF m s v, (a : Int), (j : Int))]) where
  first := getq_app _ h.first
  nodup := by
    rw [List.map_append, List.nodup_append]
    refine ⟨h.nodup, by simp, fun x hx y hy => ?_⟩
    simp only [List.map_cons, List.map_nil, List.mem_singleton] at hy
    rw [hy]; intro e; rw [← e] at hn; rw [met_mem.2 hx] at hn; cases hn
  par := fun n x hx h0 => by
    rcases Nat.lt_or_ge n l.length with hl | hl
    · rw [List.getElem?_append_left hl] at hx
      obtain ⟨b, i, y, w, h1, h2, h3, h4, h5⟩ := h.par n x hx h0
      exact ⟨b, i, y, w, h1, h2, getq_app _ h3, h4, h5⟩
    · obtain ⟨y, hy, hs⟩ := h.cur
      have := getq_lt hx
      simp only [List.length_append, List.length_cons, List.length_nil] at this
      have e : n = l.length := by omega
      subst e
      rw [List.getElem?_append_right (Nat.le_refl _), Nat.sub_self] at hx
      cases hx
      exact ⟨a, j, y, v, getq_lt hy, by omega, getq_app _ hy, by rw [hs], by rw [hs]; exact hv⟩
  mono := fun n k x y hnk hx hy => by
    rcases Nat.lt_or_ge k l.length with hl | hl
    · rw [List.getElem?_append_left hl] at hy
      rw [List.getElem?_append_left (by omega)] at hx
      exact h.mono n k x y hnk hx hy
    · have := getq_lt hy
      simp only [List.length_append, List.length_cons, List.length_nil] at this
      have e : k = l.length := by omega
      subst e
      rw [List.getElem?_append_right (Nat.le_refl _), Nat.sub_self] at hy
      cases hy
      rcases Nat.lt_or_ge n l.length with hn | hn
      · rw [List.getElem?_append_left hn] at hx
        by_cases h0 : n = 0
        · subst h0; rw [h.first] at hx; cases hx; show (-1 : Int) ≤ (a : Int); omega
        · obtain ⟨b, i, z, w, h1, h2, h3, h4, h5⟩ := h.par n x hx (by omega)
          rw [h4]; show (b : Int) ≤ (a : Int); omega
      · have e : n = l.length := by omega
        subst e
        rw [List.getElem?_append_right (Nat.le_refl _), Nat.sub_self] at hx
        cases hx; exact Int.le_refl _
  closed := fun b y hb hy w hw => by
    obtain ⟨z, hz, _⟩ := h.cur
    have := getq_lt hz
    rw [List.getElem?_append_left (by omega)] at hy
    obtain ⟨n, x, h1, h2, h3⟩ := h.closed b y hb hy w hw
    exact ⟨n, x, getq_app _ h1, h2, h3⟩
  cur := by obtain ⟨y, h1, h2⟩ := h.cur; exact ⟨y, getq_app _ h1, h2⟩
  now := fun i w hi hw => by
    by_cases e : i = j
    · subst e
      rw [hv] at hw; cases hw
      refine ⟨l.length, (doF m s v, (a : Int), (i : Int)), ?_, rfl, Int.le_refl _⟩
      rw [List.getElem?_append_right (Nat.le_refl _), Nat.sub_self]; rfl
    · obtain ⟨n, x, h1, h2, h3⟩ := h.now i w (by omega) hw
      exact ⟨n, x, getq_app _ h1, h2, h3⟩
def Many (m : McD) : Prop := ∃ r : List StD, r.length = 20001 ∧ r.Nodup ∧ ∀ s ∈ r, ∃ d, Reach m d s
theorem addN_inv {m : McD} {a : Nat} {s : StD} : ∀ (mv : List MvD) (j : Nat) (l : List MtD), AddI m a s j l → (movesF m s).drop j = mv → l.length ≤ 20000 →
    (∃ l', addN m s a j mv l = some l' ∧ AddI m a s (movesF m s).length l' ∧ l.length ≤ l'.length ∧ l'.length ≤ 20000) ∨ (addN m s a j mv l = none ∧ Many m)
  | [], j, l, h, hd, hl => by
    left
    refine ⟨l, rfl, ⟨h.first, h.nodup, h.par, h.mono, h.closed, h.cur, fun i v hi hv => h.now i v ?_ hv⟩, Nat.le_refl _, hl⟩
    have := List.drop_eq_nil_iff.1 hd
    omega
  | v :: r, j, l, h, hd, hl => by
    have hj : j < (movesF m s).length := by
      rcases Nat.lt_or_ge j (movesF m s).length with h1 | h1
      · exact h1
      · rw [List.drop_eq_nil_of_le h1] at hd; cases hd
    rw [List.drop_eq_getElem_cons hj] at hd
    injection hd with hd1 hd2
    have hv : (movesF m s)[j]? = some v := by rw [List.getElem?_eq_getElem hj, hd1]
    rw [addN]
    cases hc : metIn l (doF m s v) with
    | true => simp only [if_true]; exact addN_inv r (j + 1) l (h.skip hv hc) hd2 hl
    | false =>
      simp only [Bool.false_eq_true, if_false]
      by_cases e : l.length = 20000
      · rw [if_pos e]
        right
        refine ⟨rfl, l.map Prod.fst ++ [doF m s v], by simp [e], ?_, fun x hx => ?_⟩
        · rw [List.nodup_append]
          refine ⟨h.nodup, by simp, fun x hx y hy => ?_⟩
          rw [List.mem_singleton.1 hy]; intro e; rw [← e, met_mem.2 hx] at hc; cases hc
        · have hr := par_reach h.first h.par
          rcases List.mem_append.1 hx with h1 | h1
          · obtain ⟨y, hy, rfl⟩ := List.mem_map.1 h1
            obtain ⟨n, hn⟩ := List.getElem?_of_mem hy
            exact hr n y hn
          · rw [List.mem_singleton.1 h1]
            obtain ⟨y, hy, rfl⟩ := h.cur
            obtain ⟨d, hd⟩ := hr a y hy
            exact ⟨d + 1, .step hd (List.mem_of_getElem? hv)⟩
      · rw [if_neg e]
        rcases addN_inv r (j + 1) _ (h.snoc hv hc) hd2 (by simp; omega) with ⟨l', h1, h2, h3, h4⟩ | h1
        · left; refine ⟨l', h1, h2, ?_, h4⟩; simp at h3; omega
        · right; exact h1
theorem bfsN_inv {m : McD} : ∀ (f a : Nat) (l : List MtD), BfsI m a l → a ≤ l.length → l.length ≤ 20000 → 20001 ≤ f + a →
    (∃ l', bfsN m f a l = some l' ∧ BfsI m l'.length l' ∧ l'.length ≤ 20000) ∨ (bfsN m f a l = none ∧ Many m)
  | 0, a, l, h, ha, hl, hf => by omega
  | f + 1, a, l, h, ha, hl, hf => by
    rw [bfsN]
    by_cases hlt : a < l.length
    · rw [List.getElem?_eq_getElem hlt]
      simp only
      have hi : AddI m a l[a].1 0 l := ⟨h.first, h.nodup, fun n x hx h0 => by
        obtain ⟨b, j, y, v, h1, h2, h3⟩ := h.par n x hx h0
        exact ⟨b, j, y, v, h1, by omega, h3⟩, h.mono, h.closed, ⟨l[a], List.getElem?_eq_getElem hlt, rfl⟩, fun i v hi _ => by omega⟩
      rcases addN_inv _ 0 l hi rfl hl with ⟨l', h1, h2, h3, h4⟩ | ⟨h1, h2⟩
      · rw [List.drop_zero] at h1
        rw [h1]
        simp only
        refine bfsN_inv f (a + 1) l' ⟨h2.first, h2.nodup, h2.par, h2.mono, fun b y hb hy v hv => ?_⟩ (by omega) h4 (by omega)
        by_cases e : b = a
        · subst e
          obtain ⟨z, hz, hs⟩ := h2.cur
          rw [hy] at hz; cases hz
          obtain ⟨i, hi⟩ := List.getElem?_of_mem hv
          have hi' := getq_lt hi
          rw [hs] at hi hi' ⊢
          exact h2.now i v hi' hi
        · exact h2.closed b y (by omega) hy v hv
      · rw [List.drop_zero] at h1
        rw [h1]; right; exact ⟨rfl, h2⟩
    · rw [List.getElem?_eq_none (by omega)]
      left
      exact ⟨l, rfl, by rw [show l.length = a by omega]; exact h, hl⟩
theorem all_inv (m : McD) : (∃ l, allF m = (l, 0) ∧ BfsI m l.length l ∧ l.length ≤ 20000) ∨ (allF m = ([], 5) ∧ Many m) := by
  have h0 : BfsI m 0 [(firstF m.1, -1, 0)] := ⟨rfl, by simp, fun n x hx h0 => by
    have := getq_lt hx; simp at this; omega, fun n k x y hnk hx hy => by
    have h1 := getq_lt hx; have h2 := getq_lt hy
    simp only [List.length_cons, List.length_nil] at h1 h2
    have e1 : n = 0 := by omega
    have e2 : k = 0 := by omega
    subst e1; subst e2
    cases hx; cases hy; exact Int.le_refl _, fun b y hb => by omega⟩
  rcases bfsN_inv 20001 0 _ h0 (by simp) (by simp) (by omega) with ⟨l, h1, h2, h3⟩ | ⟨h1, h2⟩
  · left; exact ⟨l, by rw [allF, bfs0, h1], h2, h3⟩
  · right; exact ⟨by rw [allF, bfs0, h1], h2⟩
theorem BfsI.met {m : McD} {l : List MtD} (h : BfsI m l.length l) {d : Nat} {s : StD} (hr : Reach m d s) : ∃ (n : Nat) (x : MtD), l[n]? = some x ∧ x.1 = s := by
  induction hr with
  | zero => exact ⟨0, _, h.first, rfl⟩
  | step _ hv ih =>
    obtain ⟨n, x, hx, rfl⟩ := ih
    obtain ⟨k, y, h1, h2, _⟩ := h.closed n x (getq_lt hx) hx _ hv
    exact ⟨k, y, h1, h2⟩
theorem nodup_len {α : Type} [DecidableEq α] : ∀ (r l : List α), r.Nodup → (∀ x ∈ r, x ∈ l) → r.length ≤ l.length
  | [], l, _, _ => Nat.zero_le _
  | x :: r, l, hn, hs => by
    have hx := hs x (by simp)
    have hn' := List.nodup_cons.1 hn
    have := nodup_len r (l.erase x) hn'.2 fun y hy => (List.mem_erase_of_ne (a := y) (b := x) (fun e => hn'.1 (by rw [← e]; exact hy))).2 (hs y (by simp [hy]))
    rw [List.length_erase_of_mem hx] at this
    have := List.length_pos_of_mem hx
    simp only [List.length_cons]; omega
def EndsAt (m : McD) (e : EnD) : Prop := ∃ d s, Reach m d s ∧ endedF m s = true ∧ endOfF m s = e
theorem endsOf_mem {m : McD} (h : (allF m).2 = 0) (e : EnD) : e ∈ endsOf m (allF m).1 ↔ EndsAt m e := by
  rcases all_inv m with ⟨l, h1, h2, _⟩ | ⟨h1, _⟩
  · rw [h1]
    unfold endsOf EndsAt
    simp only [List.mem_map, List.mem_filter]
    constructor
    · rintro ⟨x, ⟨hx, he⟩, rfl⟩
      obtain ⟨n, hn⟩ := List.getElem?_of_mem hx
      obtain ⟨d, hd⟩ := h2.reach hn
      exact ⟨d, x.1, hd, he, rfl⟩
    · rintro ⟨d, s, hd, he, rfl⟩
      obtain ⟨n, x, hx, rfl⟩ := h2.met hd
      exact ⟨x, ⟨List.mem_of_getElem? hx, he⟩, rfl⟩
  · rw [h1] at h; cases h
end Go.Proofs.Tryz
set_option autoImplicit false
set_option linter.all false
namespace Go.Proofs.Tryz
open Go Go.VM
def ltE (x y : EnD) : Bool := Go.Proofs.ltOf cmpEF x y
theorem ltE_irr (x : EnD) : ltE x x = false := cmpE_ord.swo.irrefl x
theorem ltE_tot {x y : EnD} (h1 : ltE x y = false) (h2 : ltE y x = false) : x = y := cmpE_ord.tot x y h1 h2
def sortE (l : List EnD) : List EnD := List.mergeSort (α := EnD) l fun x y => !(Go.Proofs.ltOf cmpEF) y x
theorem sortE_mem (l : List EnD) (e : EnD) : e ∈ sortE l ↔ e ∈ l := List.mem_mergeSort
theorem sortE_ord (l : List EnD) : (sortE l).Pairwise fun x y => ltE y x = false := by
  have h := List.pairwise_mergeSort (le := fun x y : EnD => !(Go.Proofs.ltOf cmpEF) y x) (fun a b c h1 h2 => by
    simp only [Bool.not_eq_true'] at h1 h2 ⊢
    exact cmpE_ord.swo.ntrans c b a h2 h1) (fun a b => by
    simp only [Bool.or_eq_true, Bool.not_eq_true']
    cases h : Go.Proofs.ltOf cmpEF b a with
    | false => exact .inl rfl
    | true =>
      right
      cases h' : Go.Proofs.ltOf cmpEF a b with
      | false => rfl
      | true => have := cmpE_ord.swo.trans _ _ _ h h'; rw [cmpE_ord.swo.irrefl] at this; cases this) l
  exact h.imp fun {a b} h => by
    have h' : (!(Go.Proofs.ltOf cmpEF) b a) = true := h
    show Go.Proofs.ltOf cmpEF b a = false
    simpa using h'
theorem snocRec {α : Type} {P : List α → Prop} (h0 : P []) (h1 : ∀ l x, P l → P (l ++ [x])) (l : List α) : P l := by
  have : ∀ n, ∀ l : List α, l.length = n → P l := fun n => by
    induction n with
    | zero => intro l h; rw [List.eq_nil_of_length_eq_zero h]; exact h0
    | succ n ih =>
      intro l h
      rcases List.eq_nil_or_concat l with rfl | ⟨q, x, rfl⟩
      · cases h
      · rw [List.concat_eq_append] at h ⊢
        exact h1 q x (ih q (by simpa using h))
  exact this l.length l rfl
theorem compL_mem (l : List EnD) (e : EnD) : e ∈ compL l ↔ e ∈ l := by
  induction l using snocRec with
  | h0 => exact Iff.rfl
  | h1 l x ih =>
    rw [compL_snoc, pushE]
    split
    · rename_i hx
      rw [ih, List.mem_append, List.mem_singleton]
      constructor
      · exact .inl
      · rintro (h | rfl)
        · exact h
        · exact ih.1 (List.mem_of_getLast? hx)
    · rw [List.mem_append, List.mem_append, ih]
theorem compL_strict (l : List EnD) (h : l.Pairwise fun x y => ltE y x = false) : (compL l).Pairwise fun x y => ltE x y = true := by
  induction l using snocRec with
  | h0 => exact .nil
  | h1 l x ih =>
    rw [List.pairwise_append] at h
    obtain ⟨h1, _, h3⟩ := h
    have ih := ih h1
    rw [compL_snoc, pushE]
    split
    · exact ih
    · rename_i hx
      rw [List.pairwise_append]
      refine ⟨ih, by simp, fun y hy z hz => ?_⟩
      rw [List.mem_singleton.1 hz]
      have a1 : ltE x y = false := h3 y ((compL_mem l y).1 hy) x (by simp)
      cases a2 : ltE y x with
      | true => rfl
      | false =>
        exfalso
        have e := ltE_tot a2 a1
        subst e
        obtain ⟨i, hi, rfl⟩ := List.getElem_of_mem hy
        by_cases hl : i = (compL l).length - 1
        · exact hx (by rw [List.getLast?_eq_getElem?, ← hl, List.getElem?_eq_getElem hi])
        · have a3 := List.pairwise_iff_getElem.1 ih i ((compL l).length - 1) hi (by omega) (by omega)
          have a4 : ltE (compL l)[i] ((compL l)[(compL l).length - 1]'(by omega)) = false := h3 _ ((compL_mem l _).1 (List.getElem_mem (show (compL l).length - 1 < (compL l).length by omega))) _ (List.mem_singleton.2 rfl)
          rw [a4] at a3; cases a3
noncomputable def endsM (m : McD) : List EnD × Int × Int := endsG sortE compL m
theorem endsM_ok {m : McD} (h : (endsM m).2.2 = 0) : checkF m.1 = 0 ∧ (allF m).2 = 0 ∧ (endsM m).1 = compL (sortE (endsOf m (allF m).1)) := by
  unfold endsM endsG at h ⊢
  split at h
  · rename_i h1; exact absurd h h1
  · rename_i h1
    split at h
    · rename_i h2; exact absurd h h2
    · rename_i h2; simp only [ne_eq, Decidable.not_not] at h1 h2; rw [if_neg (by simpa using h1), if_neg (by simpa using h2)]; exact ⟨h1, h2, rfl⟩
theorem endsM_mem {m : McD} (h : (endsM m).2.2 = 0) (e : EnD) : e ∈ (endsM m).1 ↔ EndsAt m e := by
  obtain ⟨_, h2, h3⟩ := endsM_ok h
  rw [h3, compL_mem, sortE_mem, endsOf_mem h2]
theorem endsM_strict {m : McD} (h : (endsM m).2.2 = 0) : (endsM m).1.Pairwise fun x y => ltE x y = true := by
  obtain ⟨_, h2, h3⟩ := endsM_ok h
  rw [h3]; exact compL_strict _ (sortE_ord _)
theorem endsM_len {m : McD} (h : (endsM m).2.2 = 0) : (endsM m).1.Nodup := by
  rw [List.nodup_iff_pairwise_ne]
  exact (endsM_strict h).imp fun {a b} hab e => by rw [e, ltE_irr] at hab; cases hab
theorem ok_reach {p : WkD} {b : Bool} (hp : OkP p) {d : Nat} {s : StD} (h : Reach (p, b) d s) : OkS p s := by
  induction h with
  | zero => exact first_ok hp
  | step _ hv ih => exact do_ok hp ih hv
theorem endsAt_sEn {p : WkD} {b : Bool} (hp : OkP p) {e : EnD} (h : EndsAt (p, b) e) : sEn e := by
  obtain ⟨d, s, h1, _, rfl⟩ := h
  exact ok_sEn hp (ok_reach hp h1)
theorem endsM_sEn {p : WkD} {b : Bool} (h : (endsM (p, b)).2.2 = 0) : ∀ e ∈ (endsM (p, b)).1, sEn e := fun e he =>
  endsAt_sEn ((okP_iff p).1 (endsM_ok h).1) ((endsM_mem h e).1 he)
theorem endsM_le {m : McD} (h : (endsM m).2.2 = 0) : (endsM m).1.length ≤ 20000 := by
  obtain ⟨_, h2, h3⟩ := endsM_ok h
  have := nodup_len _ (endsOf m (allF m).1) (endsM_len h) fun x hx => by rw [h3, compL_mem, sortE_mem] at hx; exact hx
  have h5 : (endsOf m (allF m).1).length ≤ (allF m).1.length := by
    have := endsOf_len m (allF m).1 (allF m).1.length
    rwa [List.take_length] at this
  rcases all_inv m with ⟨l, g1, _, g3⟩ | ⟨g1, _⟩
  · have e : (allF m).1 = l := by rw [g1]
    rw [e] at h5 this; omega
  · have e : (allF m).1 = [] := by rw [g1]
    rw [e] at h5 this; simp only [List.length_nil] at h5; omega
end Go.Proofs.Tryz
set_option autoImplicit false
set_option linter.all false
namespace Go.Proofs.Tryz
open Go Go.VM
section
variable {m : McD} {a : Nat} {l : List MtD}
end
theorem ended_iff {m : McD} {s : StD} : endedF m s = true ↔ movesF m s = [] := decide_eq_true_iff
end Go.Proofs.Tryz
set_option autoImplicit false
set_option linter.all false
namespace Go.Proofs.Tryz
open Go Go.VM
theorem nil_of {α : Type} {l : List α} (h : ∀ x, x ∉ l) : l = [] := List.eq_nil_iff_forall_not_mem.2 h
theorem waits_room {p : WkD} {b : Bool} {r : Int} {s : StD} {t : ThD} {i : InD} (h : waitsF (p, b) s t i = false) (hk : (t.2.2.1.length : Int) ≤ p.2.2) (hr : p.2.2 ≤ r) : waitsF (rm p r, b) s t i = false := by
  unfold waitsF at h ⊢
  by_cases h9 : i.1 = 9
  · rw [if_pos h9] at h ⊢
    cases b with
    | true => rfl
    | false =>
      have h1 : ¬ ((t.2.2.1.length : Int) = p.2.2) := by simpa using h
      have h2 : ¬ ((t.2.2.1.length : Int) = r) := by omega
      show (!false && decide ((t.2.2.1.length : Int) = r)) = false
      rw [decide_eq_false h2]; rfl
  · rw [if_neg h9] at h ⊢; exact h
theorem waits_room0 {p : WkD} {b : Bool} {r : Int} {s : StD} {t : ThD} {i : InD} (h : waitsF (rm p r, b) s t i = false) (hk : t.2.2.1.length = 0) (hr : 1 ≤ p.2.2) : waitsF (p, b) s t i = false := by
  unfold waitsF at h ⊢
  by_cases h9 : i.1 = 9
  · rw [if_pos h9] at h ⊢
    have h2 : ¬ ((t.2.2.1.length : Int) = p.2.2) := by omega
    show (!b && decide ((t.2.2.1.length : Int) = p.2.2)) = false
    rw [decide_eq_false h2]; cases b <;> rfl
  · rw [if_neg h9] at h ⊢; exact h
theorem moves_room {p : WkD} {b : Bool} {r : Int} {s : StD} (hs : OkS p s) (hr : p.2.2 ≤ r) {v : MvD} (hv : v ∈ movesF (p, b) s) : v ∈ movesF (rm p r, b) s := by
  obtain ⟨k, h1, h2, h3⟩ := mem_moves.1 hv
  refine mem_moves.2 ⟨k, h1, h2, ?_⟩
  rcases h3 with ⟨h3, h4⟩ | h3
  · obtain ⟨a1, a2, a3⟩ := can_t.1 h4
    exact .inl ⟨h3, can_t.2 ⟨a1, a2, waits_room a3 (hs.th k h1).kept hr⟩⟩
  · exact .inr h3
theorem do_room (p : WkD) (b : Bool) (r : Int) (s : StD) (v : MvD) : doF (rm p r, b) s v = doF (p, b) s v := rfl
theorem reach_room {p : WkD} {b : Bool} {r : Int} (hp : OkP p) (hr : p.2.2 ≤ r) {d : Nat} {s : StD} (h : Reach (p, b) d s) : Reach (rm p r, b) d s := by
  induction h with
  | zero => exact .zero
  | step h hv ih => rw [← do_room p b r]; exact .step ih (moves_room (ok_reach hp h) hr hv)
theorem no_kept {m : McD} {s : StD} (h : movesF m s = []) {k : Nat} (hk : k < s.2.length) : (thAt s k).2.2.1 = [] ∧ canF m s k = false := by
  constructor
  · apply List.eq_nil_of_length_eq_zero
    rcases Nat.eq_zero_or_pos (thAt s k).2.2.1.length with h0 | h0
    · exact h0
    · have : ((k : Int), true) ∈ movesF m s := mem_moves.2 ⟨k, hk, rfl, .inr ⟨rfl, h0⟩⟩
      rw [h] at this; cases this
  · cases hc : canF m s k with
    | false => rfl
    | true =>
      have : ((k : Int), false) ∈ movesF m s := mem_moves.2 ⟨k, hk, rfl, .inl ⟨rfl, hc⟩⟩
      rw [h] at this; cases this
theorem ended_of {m : McD} {s : StD} (h : ∀ k, k < s.2.length → (thAt s k).2.2.1 = [] ∧ canF m s k = false) : movesF m s = [] := nil_of fun v hv => by
  obtain ⟨k, h1, h2, h3⟩ := mem_moves.1 hv
  obtain ⟨g1, g2⟩ := h k h1
  rcases h3 with ⟨_, h4⟩ | ⟨_, h4⟩
  · rw [g2] at h4; cases h4
  · rw [g1] at h4; exact absurd h4 (Nat.lt_irrefl _)
theorem room_ends {p : WkD} {b : Bool} {r : Int} (hp : OkP p) (hr : p.2.2 ≤ r) {e : EnD} (h : EndsAt (p, b) e) : EndsAt (rm p r, b) e := by
  obtain ⟨d, s, h1, h2, rfl⟩ := h
  refine ⟨d, s, reach_room hp hr h1, ended_iff.2 (ended_of fun k hk => ?_), rfl⟩
  obtain ⟨g1, g2⟩ := no_kept (ended_iff.1 h2) hk
  refine ⟨g1, ?_⟩
  cases hc : canF (rm p r, b) s k with
  | false => rfl
  | true =>
    obtain ⟨a1, a2, a3⟩ := can_t.1 hc
    have : canF (p, b) s k = true := can_t.2 ⟨a1, a2, waits_room0 (p := p) a3 (by rw [g1]; rfl) hp.room.1⟩
    rw [g2] at this; cases this
end Go.Proofs.Tryz
set_option autoImplicit false
set_option linter.all false
namespace Go.Proofs.Tryz
open Go Go.VM
set_option maxRecDepth 100000
def S32 (H : LwF) : VM.Spec := ⟨[Wk], [.bool], fun x => H.pR x.1, fun x => (H.right x.1, ())⟩
def S33 (H : LwF) : VM.Spec := ⟨[Wk], [.sl En, .bool], fun x => H.pL x.1, fun x => ((H.list x.1).1, (H.list x.1).2, ())⟩
noncomputable def oH (G : AwF) (H : LwF) : List (Nat × FT) := [(18, .spec (S18 G)), (32, .spec (S32 H)), (33, .spec (S33 H))]
def LWU : VM.Spec := ⟨[Wk, U8], [.bool], fun x => bwTF x.1 ∧ 0 ≤ x.2.1 ∧ x.2.1 < 256, fun _ => (true, ())⟩
def n32 (L : Lv) (F : BxF) (G : AwF) (H : LwF) (p : WkD)  : VC :=
 let z1 := (Prod.fst p, Prod.fst (Prod.snd p), Prod.snd (Prod.snd p));
 let z2 := (LwF.right H p, ()); VC.obl (BxF.bwT F z1) (VC.br (BxF.thin F z1) (VC.obl (BxF.bw F z1) (VC.br (Lv.cmp L BinOp.eql (BxF.check F z1) 0) (VC.ok ((true, ()) = z2)) (VC.ok
   ((false, ()) = z2)))) (VC.ok ((false, ()) = z2)))
theorem n32_eq (L : Lv) (F : BxF) (G : AwF) (H : LwF) (p : WkD) : vcO L F [] [17, 22] 3 (D32 a0) (S32 H) (p, ()) = n32 L F G H p := by kernel_rfl
theorem n32_go (L : Lv) (F : BxF) (G : AwF) (H : LwF) (p : WkD) (h : VC.holds (n32 L F G H p)) : Holds (vcO L F [] [17, 22] 3 (D32 a0) (S32 H) (p, ())) := Holds.of_eq (n32_eq L F G H p) h
def n33 (L : Lv) (F : BxF) (G : AwF) (H : LwF) (p : WkD)  : VC :=
 let z1 := (Prod.fst p, Prod.fst (Prod.snd p), Prod.snd (Prod.snd p));
 let z2 := BxF.bw F z1;
 let z3 := (BxF.ends F (z1, false));
 let z4 := (Prod.fst (LwF.list H p), Prod.snd (LwF.list H p), ()); VC.obl z2 (VC.obl z2 (VC.br (Lv.cmp L BinOp.eql (Prod.snd (Prod.snd z3)) 0) (VC.ok ((Prod.fst z3, true, ()) = z4))
   (VC.ok ((Prod.fst z3, false, ()) = z4))))
theorem n33_eq (L : Lv) (F : BxF) (G : AwF) (H : LwF) (p : WkD) : vcO L F [] [19, 20] 3 (D33 a0) (S33 H) (p, ()) = n33 L F G H p := by kernel_rfl
theorem n33_go (L : Lv) (F : BxF) (G : AwF) (H : LwF) (p : WkD) (h : VC.holds (n33 L F G H p)) : Holds (vcO L F [] [19, 20] 3 (D33 a0) (S33 H) (p, ())) := Holds.of_eq (n33_eq L F G H p) h
def n7 (L : Lv) (F : BxF) (G : AwF) (H : LwF) (I : Ds [It] → Prop) (mu : Ds [It] → Nat) (p : WkD) (more : Int)  : VC :=
 let z1 := Prod.snd p;
 let z2 := (Prod.fst p, Prod.fst z1, Prod.snd z1);
 let z3 := LwF.list H z2;
 let z4 := Prod.snd z1;
 let z5 := Lv.ar L BinOp.add IntKind.i64 (Lv.ar L BinOp.add IntKind.i64 z4 1) (Lv.dv L BinOp.rem IntKind.i64 (Lv.conv L IntKind.i64 more) 3);
 let z6 := (Prod.fst p, Prod.fst z1, Lv.mn L 8 z5);
 let z7 := LwF.pL H z6;
 let z8 := LwF.list H z6;
 let z9 := Prod.snd z8;
 let z10 := Prod.fst z3;
 let z11 := Prod.fst z8;
 let z12 := Prod.fst p;
 let z13 := Prod.fst z1;
 let z14 := Lv.mn L 8 z5;
 let z15 := Lv.llen L En z10; VC.obl (LwF.pR H z2) (VC.br (LwF.right H z2) (VC.obl (BxF.bw F z2) (VC.obl (Lv.ne0 L 3) (VC.obl (LwF.pL H z2) (VC.br (Prod.snd z3) (VC.obl z7 (VC.br z9
   (VC.obl (St.mk 57 [(6, V.c (C.sl En z10)), (8, V.c (C.sl En z11)), (10, V.c (C.int IntKind.i64 0))] [(0, Ob.amb), (1, Ob.box 25 [C.sl It z12, C.sl (Ty.sl In) z13, C.int
   IntKind.i64 z4]), (2, Ob.box 25 [C.sl It z12, C.sl (Ty.sl In) z13, C.int IntKind.i64 z14])] 3 = St.mk 57 [(6, V.c (C.sl En z10)), (8, V.c (C.sl En z11)), (10, V.c (C.int
   IntKind.i64 0))] [(0, Ob.amb), (1, Ob.box 25 [C.sl It z12, C.sl (Ty.sl In) z13, C.int IntKind.i64 z4]), (2, Ob.box 25 [C.sl It z12, C.sl (Ty.sl In) z13, C.int IntKind.i64 z14])]
   3) (VC.obl (I (0, ())) (VC.all (Int × Unit) fun (v1 : Int × Unit) =>
 let z16 := Prod.fst v1;
 let z17 := Lv.get L En z10 (Lv.toN L z16);
 let z18 := Prod.snd z17;
 let z19 := (Prod.fst z17, Prod.fst z18, Prod.snd z18);
 let z20 := Lv.ar L BinOp.add IntKind.i64 z16 1;
 let z21 := (Lv.ar L BinOp.add IntKind.i64 z16 1, ()); VC.imp (I v1) (VC.br (Lv.cmp L BinOp.lss z16 (Lv.cast L z15)) (VC.obl (Lv.inR L z16 z15) (VC.obl (BxF.ble F z11 ∧ BxF.be F
   z19) (VC.br (BxF.isIn F z11 z19) (VC.ok (St.mk 57 [(6, V.c (C.sl En z10)), (8, V.c (C.sl En z11)), (10, V.c (C.int IntKind.i64 z20))] [(0, Ob.amb), (1, Ob.box 25 [C.sl It z12,
   C.sl (Ty.sl In) z13, C.int IntKind.i64 z4]), (2, Ob.box 25 [C.sl It z12, C.sl (Ty.sl In) z13, C.int IntKind.i64 z14])] 3 = St.mk 57 [(6, V.c (C.sl En z10)), (8, V.c (C.sl En
   z11)), (10, V.c (C.int IntKind.i64 z20))] [(0, Ob.amb), (1, Ob.box 25 [C.sl It z12, C.sl (Ty.sl In) z13, C.int IntKind.i64 z4]), (2, Ob.box 25 [C.sl It z12, C.sl (Ty.sl In) z13,
   C.int IntKind.i64 z14])] 3 ∧ I z21 ∧ mu z21 < mu v1)) (VC.ok ((false, ()) = (true, ())))))) (VC.obl True (VC.br (AwF.aw G) (VC.ok ((true, ()) = (true, ()))) (VC.ok ((false, ()) =
   (true, ()))))))))) (VC.obl True (VC.br (AwF.aw G) (VC.ok ((true, ()) = (true, ()))) (VC.ok ((false, ()) = (true, ()))))))) (VC.obl z7 (VC.br z9 (VC.obl True (VC.br (AwF.aw G)
   (VC.ok ((true, ()) = (true, ()))) (VC.ok ((false, ()) = (true, ()))))) (VC.obl True (VC.br (AwF.aw G) (VC.ok ((true, ()) = (true, ()))) (VC.ok ((false, ()) = (true, ())))))))))))
   (VC.obl True (VC.br (AwF.aw G) (VC.ok ((true, ()) = (true, ()))) (VC.ok ((false, ()) = (true, ()))))))
theorem n7_eq (L : Lv) (F : BxF) (G : AwF) (H : LwF) (I : Ds [It] → Prop) (mu : Ds [It] → Nat) (p : WkD) (more : Int) : vcO L F (oH G H) [18, 20, 32, 33, 34] 3 (D7 (a7 L I mu)) LWU (p, more, ()) = n7 L F G H I mu p more := by kernel_rfl
theorem n7_go (L : Lv) (F : BxF) (G : AwF) (H : LwF) (I : Ds [It] → Prop) (mu : Ds [It] → Nat) (p : WkD) (more : Int) (h : VC.holds (n7 L F G H I mu p more)) : Holds (vcO L F (oH G H) [18, 20, 32, 33, 34] 3 (D7 (a7 L I mu)) LWU (p, more, ())) := Holds.of_eq (n7_eq L F G H I mu p more) h
def rightF (p : WkD) : Bool := thinF p && decide (checkF p = 0)
noncomputable def listF (p : WkD) : List EnD × Bool := ((endsM (p, false)).1, decide ((endsM (p, false)).2.2 = 0))
theorem thin_bW {p : WkD} (h : thinF p = true) : bW p := by
  unfold thinF at h
  simp only [Bool.and_eq_true, Bool.not_eq_true', Bool.or_eq_false_iff, decide_eq_false_iff_not] at h
  obtain ⟨⟨⟨h1, _⟩, h2⟩, h3⟩ := h
  refine ⟨by omega, by omega, fun l hl => ?_⟩
  have := List.all_eq_true.1 h3 l hl
  unfold thinL at this
  simp only [Bool.not_eq_true', Bool.or_eq_false_iff, decide_eq_false_iff_not] at this
  omega
theorem ok32 (F : BxF) (G : AwF) (H : LwF) (h : H.right = rightF) (hp : H.pR = bwTF) (h1 : F.thin = thinF) (h2 : F.check = checkF) (q1 : F.bwT = bwTF) (q2 : F.bw = bW) (k1 : SpecOk prog 17 (S17 F)) (k2 : SpecOk prog 22 (S22 F)) : SpecOk prog 32 (S32 H) := by
  refine contract_by hm hE D32 fnok32 _ fun (z : WkD × Unit) hpre => ?_
  obtain ⟨p, ⟨⟩⟩ := z
  have hpre' : H.pR p := hpre
  rw [hp] at hpre'
  refine pack _ 3 a0 (only_tab (T := tabO [] (cT F)) (l := [17, 22]) (tb_cons (tb_sp k1 (by kernel_rfl)) (tb_cons (tb_sp k2 (by kernel_rfl)) tb_nil))) ?_
  refine n32_go Lv.std F G H p ?_
  simp only [n32, VC.holds, std_cmp, std_scmp, std_ar_add, std_ar_sub, std_ar_mul, std_ar, std_dv, std_shf, std_conv, std_mn, std_mx, std_beq, std_bnot, std_band, std_scat, std_byte, std_ext, std_slen, std_strOf, std_bytes, std_llen, std_get, std_setl, std_app, std_take, std_drop, std_rep, std_mhas, std_mval, std_mput, std_cast, std_toN, std_sub, std_add, std_inR, std_le3, std_leN, std_ltN, std_ne0, std_nonneg, std_catOk, std_room, std_mkOk, std_nth, std_cnt, cmp_lss_t, cmp_lss_f, cmp_leq_t, cmp_leq_f, cmp_gtr_t, cmp_gtr_f, cmp_geq_t, cmp_geq_f, cmp_eql_t, cmp_eql_f, cmp_neq_t, cmp_neq_f, scmp_eql_t, scmp_eql_f, scmp_neq_t, scmp_neq_f, dflt_int, dflt_bool, dflt_str, dflt_sl, dflt_pair, h, h1, h2, q1, q2, pe5, Prod.mk.injEq, and_true, true_and]
  refine ⟨hpre', fun ht => ⟨thin_bW ht, fun c => ?_, fun c => ?_⟩, fun ht => ?_⟩
  · rw [rightF, ht, decide_eq_true c]; rfl
  · rw [rightF, decide_eq_false c, Bool.and_false]
  · rw [rightF, ht]; rfl
theorem ok33 (F : BxF) (G : AwF) (H : LwF) (h : H.list = listF) (hp : H.pL = bW) (h1 : F.ends = endsM) (q2 : F.bw = bW) (k1 : SpecOk prog 19 (S19 F)) (k2 : SpecOk prog 20 (S20 F)) : SpecOk prog 33 (S33 H) := by
  refine contract_by hm hE D33 fnok33 _ fun (z : WkD × Unit) hpre => ?_
  obtain ⟨p, ⟨⟩⟩ := z
  have hpre' : H.pL p := hpre
  rw [hp] at hpre'
  refine pack _ 3 a0 (only_tab (T := tabO [] (cT F)) (l := [19, 20]) (tb_cons (tb_sp k1 (by kernel_rfl)) (tb_cons (tb_sp k2 (by kernel_rfl)) tb_nil))) ?_
  refine n33_go Lv.std F G H p ?_
  simp only [n33, VC.holds, std_cmp, std_scmp, std_ar_add, std_ar_sub, std_ar_mul, std_ar, std_dv, std_shf, std_conv, std_mn, std_mx, std_beq, std_bnot, std_band, std_scat, std_byte, std_ext, std_slen, std_strOf, std_bytes, std_llen, std_get, std_setl, std_app, std_take, std_drop, std_rep, std_mhas, std_mval, std_mput, std_cast, std_toN, std_sub, std_add, std_inR, std_le3, std_leN, std_ltN, std_ne0, std_nonneg, std_catOk, std_room, std_mkOk, std_nth, std_cnt, cmp_lss_t, cmp_lss_f, cmp_leq_t, cmp_leq_f, cmp_gtr_t, cmp_gtr_f, cmp_geq_t, cmp_geq_f, cmp_eql_t, cmp_eql_f, cmp_neq_t, cmp_neq_f, scmp_eql_t, scmp_eql_f, scmp_neq_t, scmp_neq_f, dflt_int, dflt_bool, dflt_str, dflt_sl, dflt_pair, h, h1, q2, pe5, Prod.mk.injEq, and_true, true_and]
  refine ⟨hpre', hpre', fun c => ⟨rfl, (decide_eq_true c).symm⟩, fun c => ⟨rfl, (decide_eq_false c).symm⟩⟩
end Go.Proofs.Tryz
set_option autoImplicit false
set_option linter.all false
namespace Go.Proofs.Tryz
open Go Go.VM
set_option maxRecDepth 100000
theorem right_ok {p : WkD} (h : rightF p = true) : bW p ∧ OkP p := by
  unfold rightF at h
  rw [Bool.and_eq_true, decide_eq_true_eq] at h
  exact ⟨thin_bW h.1, (okP_iff p).1 h.2⟩
theorem list_t {p : WkD} : (listF p).2 = true ↔ (endsM (p, false)).2.2 = 0 := decide_eq_true_iff
theorem ends_b {m : McD} (h : (endsM m).2.2 = 0) : (endsM m).1.length ≤ 1000000 := by have := endsM_le h; omega
theorem ends_at {m : McD} {k : Nat} (h : k < (endsM m).1.length) : ((endsM m).1[k]?).getD ([], [], []) = (endsM m).1[k] := by rw [List.getElem?_eq_getElem h]; rfl
theorem ok7 (F : BxF) (G : AwF) (H : LwF) (g : G.aw = true) (h : H.right = rightF) (h' : H.list = listF) (hp : H.pR = bwTF) (hp' : H.pL = bW) (h3 : F.isIn = fun l v => decide (v ∈ l)) (q2 : F.bw = bW) (q3 : F.be = sEn) (q4 : F.ble = fun l => l.length ≤ 1000000 ∧ ∀ e ∈ l, sEn e)
    (k1 : SpecOk prog 18 (S18 G)) (k2 : SpecOk prog 20 (S20 F)) (k3 : SpecOk prog 32 (S32 H)) (k4 : SpecOk prog 33 (S33 H)) (k5 : SpecOk prog 34 (S34 F)) : SpecOk prog 7 LWU := by
  refine contract_by hm hE D7 fnok7 _ fun (z : WkD × Int × Unit) hpre => ?_
  obtain ⟨p, more, ⟨⟩⟩ := z
  have hpre : bwTF p ∧ 0 ≤ more ∧ more < 256 := hpre
  let I : Int × Unit → Prop := Iv (endsM (p, false)).1.length fun _ => True
  refine pack _ 3 (a7 Lv.std I (Mu (endsM (p, false)).1.length)) (only_tab (T := tabO (oH G H) (cT F)) (l := [18, 20, 32, 33, 34]) (tb_cons (tb_sp k1 (by kernel_rfl)) (tb_cons (tb_sp k2 (by kernel_rfl)) (tb_cons (tb_sp k3 (by kernel_rfl)) (tb_cons (tb_sp k4 (by kernel_rfl)) (tb_cons (tb_sp k5 (by kernel_rfl)) tb_nil)))))) ?_
  refine n7_go Lv.std F G H I (Mu (endsM (p, false)).1.length) p more ?_
  have e1 : ∀ (l : List EnD) (k : Int), Lv.std.get En l k.toNat = (l[k.toNat]?).getD ([], [], []) := fun _ _ => rfl
  simp only [n7, VC.holds, std_cmp, std_cast, std_llen, std_toN, std_beq, std_band, std_bnot, e1, std_inR, std_ar_add, cmp_lss_t, cmp_lss_f, cmp_neq_t, cmp_neq_f, cmp_eql_t, cmp_eql_f, cmp_gtr_t, cmp_gtr_f, g, h, h', hp, hp', h3, q2, q3, q4, pe5, Prod.mk.injEq, and_true, true_and]
  refine ⟨hpre.1, fun hr => ?_, fun _ => tt⟩
  obtain ⟨hb, op⟩ := right_ok hr
  have hroom := op.room
  obtain ⟨x, hx, hx3⟩ : ∃ x : Nat, Lv.std.dv BinOp.rem IntKind.i64 (Lv.std.conv IntKind.i64 more) 3 = (x : Int) ∧ x < 3 := by
    have e : Lv.std.dv BinOp.rem IntKind.i64 (Lv.std.conv IntKind.i64 more) 3 = more.tmod 3 := by
      rw [std_conv, wrap_i64 (by omega) (by omega)]; rfl
    rw [e]
    have a1 := Int.tmod_nonneg 3 hpre.2.1
    have a2 := Int.tmod_lt_of_pos more (show (0 : Int) < 3 by decide)
    obtain ⟨x, hx⟩ := nat_of a1
    exact ⟨x, hx, by omega⟩
  rw [hx, std_mn, wrap_i64 (show -9223372036854775808 ≤ p.2.2 + 1 by omega) (by omega), wrap_i64 (show -9223372036854775808 ≤ p.2.2 + 1 + (x : Int) by omega) (by omega)]
  generalize hR : min (8 : Int) (p.2.2 + 1 + (x : Int)) = R
  have hle : p.2.2 ≤ R := by omega
  have hbR : bW (p.1, p.2.1, R) := hb
  refine ⟨hb, by rw [std_ne0]; decide, hb, fun hl => ⟨hbR, fun hl2 => ⟨Iv.zero trivial, fun b hbb => ?_⟩, fun _ => tt⟩, fun _ => ⟨hbR, fun _ => tt, fun _ => tt⟩⟩
  have hw := list_t.1 hl
  have hw2 := list_t.1 hl2
  obtain ⟨k, rfl, hk, _⟩ := Iv.elim hbb
  simp only [Int.toNat_natCast]
  refine ⟨fun hlt => ?_, fun _ => tt⟩
  have hk' : k < (endsM (p, false)).1.length := Int.ofNat_lt.1 hlt
  simp only [show ((listF p).1[k]?).getD ([], [], []) = (endsM (p, false)).1[k] from ends_at hk']
  have hm := List.getElem_mem hk'
  refine ⟨⟨by omega, hlt⟩, ⟨⟨ends_b hw2, endsM_sEn hw2⟩, endsM_sEn hw _ hm⟩, fun _ => ?_, fun hne => ?_⟩
  · rw [wr (n := (endsM (p, false)).1.length) hlt (ends_b hw)]
    exact ⟨Iv.mk (by omega) trivial, Mu.lt hk'⟩
  · exact absurd ((endsM_mem hw2 _).2 (room_ends op hle ((endsM_mem hw _).1 hm))) (of_decide_eq_false hne)
end Go.Proofs.Tryz
set_option autoImplicit false
set_option linter.all false
namespace Go.Proofs.Tryz
open Go Go.VM
set_option maxRecDepth 100000
noncomputable def FF : BxF where
  within := withinF
  isNum := isNumF
  truth := truthF
  has := hasF
  fields := fieldsF
  shape := shapeF
  isIns := insOkF
  worked := workedF
  place := placeF
  value := default
  sees := seesF
  pRegs := fun l i => inReg l i.2.2.1 ∧ inReg l i.2.2.2.1
  pPlace := fun _ t i => inReg t.2.1 i.2.2.1
  pSees := fun s t p => inReg s.1 p ∧ t.2.2.1.length ≤ 1000000
  back := backF
  pBack := fun l => l.length ≤ 1000000
  see := default
  pSee := default
  waits := waitsF
  pW := fun _ s t i => pWF s t i
  can := canF
  pC := pCF
  each := eachF
  pE := pEF
  moves := movesF
  ended := endedF
  endOf := endOfF
  pEnd := fun m s => bS s ∧ s.2.length ≤ m.1.2.1.length
  first := firstF
  pFirst := fun p => p.1.length ≤ 1000000 ∧ p.2.1.length ≤ 1000000
  pHas := fun s => s.size ≤ 1000000
  pLi := fun l => l.length ≤ 1000000
  pLt := fun l => l.length ≤ 1000000
  pLk := fun l => l.length ≤ 1000000
  doo := doF
  pDo := pDoF
  step := default
  bl := bL
  bw := bW
  bs := default
  be := sEn
  ble := fun l => l.length ≤ 1000000 ∧ ∀ e ∈ l, sEn e
  nums := numsF
  check := checkF
  isTh := default
  pTh := default
  isSt := default
  pSt := default
  ckSt := default
  begE := default
  mvE := default
  ok := default
  okD := default
  okT := default
  doE := default
  endE := default
  endR := default
  seesE := default
  runE := default
  runR := default
  pRunR := default
  fenE := fenF
  fenR := default
  okW := default
  sameL := fun a b => decide (a = b)
  sameE := fun a b => decide (a = b)
  sameEs := fun a b => decide (a = b)
  sameS := default
  sameW := default
  sameM := default
  sameK := default
  bm := default
  bk := default
  isMv := default
  isIn := fun l x => decide (x ∈ l)
  cmpL := cmpLF
  cmpLL := cmpLLF
  cmpE := cmpEF
  cmpR := lexR
  cmpRE := cmpREF
  hows := fun e => e.2.2
  thin := thinF
  long := default
  thinS := default
  bwT := bwTF
  pCl := default
  or1 := orF3
  bll := fun l => l.length ≤ 1000000 ∧ ∀ x ∈ l, x.length ≤ 1000000
  put := putF
  pPut := fun b l => b.length ≤ 100000000 ∧ l.length ≤ 1000000
  comp := compL
  sort := fun l => List.mergeSort (α := EnD) l fun x y => !(Go.Proofs.ltOf cmpEF) y x
  rev := List.reverse
  key := keyF
  pKey := fun s => s.1.length ≤ 64 ∧ s.2.length ≤ 4 ∧ ∀ t ∈ s.2, t.2.1.length ≤ 100 ∧ t.2.2.1.length ≤ 100 ∧ t.2.2.2.1.length ≤ 100
  all := allF
  okM := fun m => OkP m.1
  ends := endsM
  bM := fun m => bW m.1
  way := wayG
  pWay := fun p _ => bW p
  over := default
  waR := default
  okW2 := default
  bsT := default
noncomputable def GG : AwF where
  ins := insF
  cr := ([0, 0], [[insF 1 1 [1], insF 9 0 [1], insF 8 1 [2], insF 15 0 [2]], [insF 1 1 [1], insF 9 1 [1], insF 8 0 [2], insF 15 0 [2]]], 1)
  ce := fun a b => ([1, 1], [[a], [b]], [1, 1])
  aw := true
noncomputable def HH : LwF where
  right := rightF
  pR := bwTF
  pL := bW
  list := listF
  picks := default
  pPicks := default
theorem h86 : SpecOk prog 86 (S86 FF) := ok86 FF rfl
theorem h92 : SpecOk prog 92 (S92 FF) := ok92 FF rfl rfl h86
theorem h120 : SpecOk prog 120 (S120 FF) := ok120 FF rfl
theorem h84 : SpecOk prog 84 (S84 FF) := ok84 FF rfl rfl rfl rfl h86 h92 h120
theorem h87 : SpecOk prog 87 (S87 FF) := ok87 FF rfl rfl rfl h92
theorem h38 : SpecOk prog 38 (S22 FF) := ok38 FF rfl rfl rfl rfl rfl rfl h84 h86 h87
theorem h76 : XOk prog 76 (R76 FF).x := ok76 FF rfl
theorem h79 : SpecOk prog 79 (S79 FF) := ok79 FF rfl rfl rfl h76
theorem h146 : ItOk prog 146 (I146 FF) := ok146 FF rfl rfl
theorem h101 : SpecOk prog 101 (S101 FF) := ok101 FF rfl rfl rfl rfl h146
theorem h143 : SpecOk prog 143 (S143 FF) := ok143 FF rfl rfl rfl h86
theorem h157 : SpecOk prog 157 (S157 FF) := ok157 FF rfl rfl rfl rfl rfl rfl h101 h143
theorem h136 : SpecOk prog 136 (S136 FF) := ok136 FF rfl rfl rfl rfl h157
theorem h135 : ItOk prog 135 (I135 FF) := ok135 FF rfl rfl rfl rfl h136
theorem h90 : SpecOk prog 90 (S90 FF) := ok90 FF rfl rfl rfl h135
theorem h134 : SpecOk prog 134 (S134 FF) := ok134 FF rfl
theorem h141 : XOk prog 141 (R141 FF).x := ok141 FF rfl
theorem h142 : XOk prog 142 (R142 FF).x := ok142 FF rfl
theorem h144 : XOk prog 144 (mapcX acT) := ok144 FF
theorem h145 : SpecOk prog 145 (S145 FF) := ok145 FF rfl rfl rfl rfl h92 h134
theorem h99 : SpecOk prog 99 (S99 FF) := ok99 FF rfl rfl rfl rfl rfl rfl rfl rfl rfl rfl rfl rfl rfl rfl h76 h86 h92 h101 h134 h141 h142 h143 h144 h145
theorem h133 : XOk prog 133 (R133 FF).x := ok133 FF rfl rfl
theorem h109 : SpecOk prog 109 (S109 FF) := ok109 FF rfl rfl rfl rfl rfl h133 h134
theorem h66 : SpecOk prog 66 (S66 FF) := ok66 FF rfl rfl rfl rfl rfl rfl rfl rfl rfl rfl h79 h90 h99 h109
theorem h69 : SpecOk prog 69 (S69 FF) := ok69 FF rfl rfl rfl h135
theorem h71 : SpecOk prog 71 (S71 FF) := ok71 FF rfl rfl rfl h76
theorem h111 : SpecOk prog 111 (S111 FF) := ok111 FF rfl rfl
theorem h112 : SpecOk prog 112 (S112 FF) := ok112 FF rfl rfl
theorem h113 : XOk prog 113 (R113 FF).x := ok113 FF rfl rfl rfl rfl h112
theorem h114 : SpecOk prog 114 (S114 FF) := ok114 FF rfl rfl
theorem h70 : SpecOk prog 70 (S70 FF) := ok70 FF rfl rfl rfl rfl rfl rfl rfl h111 h112 h113 h114
theorem h106 : XOk prog 106 (R106 FF).u := ok106 FF rfl rfl rfl rfl h70
theorem h108 : SpecOk prog 108 (S108 FF) := ok108 FF rfl rfl h70
theorem h107 : XOk prog 107 (R107 FF).x := ok107 FF rfl rfl rfl rfl h108
theorem h62 : SpecOk prog 62 (S62 FF) := ok62 FF rfl rfl rfl rfl rfl (fun l => List.mergeSort_perm l _) rfl rfl rfl rfl rfl rfl h38 h66 h69 h71 h106 h107
theorem h19 : SpecOk prog 19 (S19 FF) := ok19 FF rfl rfl h62
theorem h21 : SpecOk prog 21 (S21 FF) := ok21 FF rfl rfl h62
theorem h72 : XOk prog 72 (R72 FF).u := ok72 FF rfl rfl
theorem h24 : SpecOk prog 24 (S24 FF) := ok24 FF rfl rfl rfl rfl rfl rfl rfl rfl rfl rfl rfl rfl rfl rfl h38 h66 h69 h71 h70 h72
theorem h75 : SpecOk prog 75 (S75 FF) := ok75 FF rfl rfl
theorem h27 : SpecOk prog 27 (S27 FF) := ok27 FF rfl rfl h75
theorem h29 : SpecOk prog 29 (S29 FF) := ok29 FF rfl rfl rfl rfl h38 h76
theorem h118 : SpecOk prog 118 (S118 FF) := ok118 FF rfl rfl
theorem h74 : SpecOk prog 74 (S74 FF) := ok74 FF rfl rfl rfl rfl rfl h75 h118
theorem h46 : SpecOk prog 46 (S46 FF) := ok46 FF rfl rfl h74
theorem h35 : SpecOk prog 35 (S35 FF) := ok35 FF rfl rfl rfl rfl h46
theorem h105 : SpecOk prog 105 (S105 GG) := ok105 FF GG rfl
theorem h60 : SpecOk prog 60 (S60 GG) := ok60 FF GG rfl rfl h105
theorem h61 : SpecOk prog 61 (S61 GG) := ok61 FF GG rfl
theorem h18 : SpecOk prog 18 (S18 GG) := ok18 FF GG rfl rfl rfl rfl rfl rfl rfl rfl rfl rfl rfl rfl h19 h21 h24 h27 h29 h35 h60 h61
theorem h20 : SpecOk prog 20 (S20 FF) := ok20 FF rfl
theorem h17 : SpecOk prog 17 (S17 FF) := ok17 FF rfl rfl
theorem h54 : SpecOk prog 54 (S86 FF) := ok54 FF rfl
theorem h63 : SpecOk prog 63 (S92 FF) := ok63 FF rfl rfl h54
theorem h77 : SpecOk prog 77 (S77 FF) := ok77 FF rfl rfl
theorem h78 : SpecOk prog 78 (S78 FF) := ok78 FF rfl
theorem h64 : SpecOk prog 64 (S84 FF) := ok64 FF rfl rfl rfl rfl rfl rfl h54 h63 h77 h78
theorem h22 : SpecOk prog 22 (S22 FF) := ok22 FF rfl rfl rfl rfl rfl h54 h63 h64
theorem h32 : SpecOk prog 32 (S32 HH) := ok32 FF GG HH rfl rfl rfl rfl rfl rfl h17 h22
theorem h33 : SpecOk prog 33 (S33 HH) := ok33 FF GG HH rfl rfl rfl rfl h19 h20
theorem h34 : SpecOk prog 34 (S34 FF) := ok34 FF rfl rfl rfl rfl h46
theorem h7 : SpecOk prog 7 LWU := ok7 FF GG HH rfl rfl rfl rfl rfl rfl rfl rfl rfl h18 h20 h32 h33 h34
end Go.Proofs.Tryz
