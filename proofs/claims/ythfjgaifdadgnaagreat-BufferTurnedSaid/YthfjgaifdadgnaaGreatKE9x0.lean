/- What functions of the weak memory compute, proved through the condition generator, and plain facts of it. Conditions: none of ours. -/
import Derived.Calls
import Derived.Orders
import Derived.Below
import Derived.Lib.ItoaNum
import Derived.Laws.Sem
import Derived.Laws.Cells
import Derived.Laws.Entries
import Derived.Laws.StructEq
import Derived.Lib.IfaceEq
import Derived.Lib.IfaceNeq
import Derived.Laws.MakeOwn
import Derived.Laws.AppendOwn
import Derived.Lib.AppendStr
import Derived.Laws.CopyRow
import Derived.Laws.BytesString
import Derived.MapKept
import Derived.OrdersIn
import Derived.RangeFuncCalls
import Derived.RangeFuncLeaves
import Derived.Test.YthfjgaifdadgnaaGreatProg
import Derived.Shelf.SlSortCmp.Insertion
import GoSem.Step
import Derived.Shelf.SlSortCmp.InsertionK
import Derived.Shelf.SlSortCmp.NoneTotal
import Derived.Ground.SlsfProg
import Derived.Sort.LotA
import Derived.Test.YthfjgaifdadgnaaGreatK0
import Derived.Test.YthfjgaifdadgnaaGreatK1
import Derived.Test.YthfjgaifdadgnaaGreatK2
import Derived.Test.YthfjgaifdadgnaaGreatK3
import Derived.Test.YthfjgaifdadgnaaGreatK4
import Derived.Test.YthfjgaifdadgnaaGreatK5
import Derived.Test.YthfjgaifdadgnaaGreatK6
import Derived.Test.YthfjgaifdadgnaaGreatK7
import Derived.Test.YthfjgaifdadgnaaGreatK8
import Derived.Test.YthfjgaifdadgnaaGreatK9
import Derived.Test.YthfjgaifdadgnaaGreatK10
import Derived.Test.YthfjgaifdadgnaaGreatK11
import Derived.Test.YthfjgaifdadgnaaGreatK12
import Derived.Test.YthfjgaifdadgnaaGreatK13
import Derived.Test.YthfjgaifdadgnaaGreatK14
import Derived.Test.YthfjgaifdadgnaaGreatK15
import Derived.Test.YthfjgaifdadgnaaGreatK16
import Derived.Test.YthfjgaifdadgnaaGreatK17
import Derived.Test.YthfjgaifdadgnaaGreatK18
import Derived.Test.YthfjgaifdadgnaaGreatK19
import Derived.Test.YthfjgaifdadgnaaGreatK20
import Derived.Test.YthfjgaifdadgnaaGreatK21
import Derived.Test.YthfjgaifdadgnaaGreatK22
import Derived.Test.YthfjgaifdadgnaaGreatK23
import Derived.Test.YthfjgaifdadgnaaGreatK24
import Derived.Test.YthfjgaifdadgnaaGreatK25
import Derived.Test.YthfjgaifdadgnaaGreatK26
set_option autoImplicit false
set_option linter.all false
namespace Go.Proofs.Tryz
open Go Go.VM
set_option maxRecDepth 100000
theorem at17 : prog.funcs[17]? = some f17 := by kernel_rfl
def pl17 : Nat → Plan
  | _ => []
noncomputable def D17 (ann : Nat → LAnn) : FnD := ⟨f17.body.getD .skip, f17.ntmps, f17.results.toList, pl17, ann⟩
theorem fnok17 (ann : Nat → LAnn) : FnOk prog 17 (D17 ann) := ⟨f17, at17, by kernel_rfl, by kernel_rfl, rfl, rfl, by kernel_rfl⟩
theorem at32 : prog.funcs[32]? = some f32 := by kernel_rfl
def pl32 : Nat → Plan
  | _ => []
noncomputable def D32 (ann : Nat → LAnn) : FnD := ⟨f32.body.getD .skip, f32.ntmps, f32.results.toList, pl32, ann⟩
theorem fnok32 (ann : Nat → LAnn) : FnOk prog 32 (D32 ann) := ⟨f32, at32, by kernel_rfl, by kernel_rfl, rfl, rfl, by kernel_rfl⟩
theorem at33 : prog.funcs[33]? = some f33 := by kernel_rfl
def pl33 : Nat → Plan
  | _ => []
noncomputable def D33 (ann : Nat → LAnn) : FnD := ⟨f33.body.getD .skip, f33.ntmps, f33.results.toList, pl33, ann⟩
theorem fnok33 (ann : Nat → LAnn) : FnOk prog 33 (D33 ann) := ⟨f33, at33, by kernel_rfl, by kernel_rfl, rfl, rfl, by kernel_rfl⟩
theorem at34 : prog.funcs[34]? = some f34 := by kernel_rfl
def pl34 : Nat → Plan
  | 4 => [(0, []), (1, [0]), (2, []), (3, []), (4, [0, 1, 2, 3]), (5, [])]
  | _ => []
noncomputable def D34 (ann : Nat → LAnn) : FnD := ⟨f34.body.getD .skip, f34.ntmps, f34.results.toList, pl34, ann⟩
theorem fnok34 (ann : Nat → LAnn) : FnOk prog 34 (D34 ann) := ⟨f34, at34, by kernel_rfl, by kernel_rfl, rfl, rfl, by kernel_rfl⟩
end Go.Proofs.Tryz
set_option autoImplicit false
set_option linter.all false
namespace Go.Proofs.Tryz
open Go Go.VM
set_option maxRecDepth 100000
theorem at9 : prog.funcs[9]? = some f9 := by kernel_rfl
def pl9 : Nat → Plan
  | 6 => [(0, []), (1, [0]), (2, [0]), (3, [0, 1, 2]), (4, [0]), (5, []), (6, [0, 1, 2, 3, 4, 5]), (7, [0, 1, 2, 3, 4, 5]), (8, [0, 1, 2, 3, 4, 5, 6, 7]), (9, [0, 1, 2, 3, 4, 5]), (10, []), (11, []), (12, [])]
  | 17 => [(0, []), (1, [0]), (2, [0]), (3, [0, 1, 2]), (4, [0]), (5, []), (6, [0, 1, 2, 3, 4, 5]), (7, [0, 1, 2, 3, 4, 5]), (8, [0, 1, 2, 3, 4, 5, 6, 7]), (9, [0, 1, 2, 3, 4, 5]), (10, []), (11, []), (12, [])]
  | 18 => [(0, []), (1, [0]), (2, [0]), (3, [0, 1, 2]), (4, [0]), (5, []), (6, [0, 1, 2, 3, 4, 5]), (7, [0, 1, 2, 3, 4, 5]), (8, [0, 1, 2, 3, 4, 5, 6, 7]), (9, [0, 1, 2, 3, 4, 5]), (10, []), (11, []), (12, [])]
  | _ => []
noncomputable def D9 (ann : Nat → LAnn) : FnD := ⟨f9.body.getD .skip, f9.ntmps, f9.results.toList, pl9, ann⟩
theorem fnok9 (ann : Nat → LAnn) : FnOk prog 9 (D9 ann) := ⟨f9, at9, by kernel_rfl, by kernel_rfl, rfl, rfl, by kernel_rfl⟩
end Go.Proofs.Tryz
set_option autoImplicit false
set_option linter.all false
namespace Go.Proofs.Tryz
open Go Go.VM
theorem ok_bW {p : WkD} (hp : OkP p) : bW p := ⟨by have := hp.w64; omega, by have := hp.t4; omega, fun l hl => by have := (hp.list l hl).1; omega⟩
end Go.Proofs.Tryz
set_option autoImplicit false
set_option linter.all false
namespace Go.Proofs.Tryz
open Go Go.VM
set_option maxRecDepth 100000
def a34 (L : Lv) (I : Ds [It] → Prop) (mu : Ds [It] → Nat) : Nat → LAnn
  | 0 => anH L [0, 3, 5] [] [.s 5 It] I mu
  | _ => .no
def n34 (L : Lv) (F : BxF) (I : Ds [It] → Prop) (mu : Ds [It] → Nat) (a : List EnD) (b : EnD)  : VC :=
 let z1 := Prod.fst b;
 let z2 := Prod.snd b;
 let z3 := Prod.fst z2;
 let z4 := Ty.int IntKind.u8;
 let z5 := Prod.snd z2;
 let z6 := (Prod.fst b, Prod.fst z2, Prod.snd z2);
 let z7 := (BxF.isIn F a b, ()); VC.obl (St.mk 18 [(0, V.c (C.sl En a)), (3, V.c (C.ptr 1 0)), (5, V.c (C.int IntKind.i64 0))] [(0, Ob.amb), (1, Ob.box 38 [C.sl It z1, C.sl (Ty.sl
   It) z3, C.sl z4 z5])] 2 = St.mk 18 [(0, V.c (C.sl En a)), (3, V.c (C.ptr 1 0)), (5, V.c (C.int IntKind.i64 0))] [(0, Ob.amb), (1, Ob.box 38 [C.sl It z1, C.sl (Ty.sl It) z3, C.sl
   z4 z5])] 2) (VC.obl (I (0, ())) (VC.all (Int × Unit) fun (v1 : Int × Unit) =>
 let z8 := Prod.fst v1;
 let z9 := Lv.get L En a (Lv.toN L z8);
 let z10 := Prod.snd z9;
 let z11 := (Prod.fst z9, Prod.fst z10, Prod.snd z10);
 let z12 := Lv.ar L BinOp.add IntKind.i64 z8 1;
 let z13 := (Lv.ar L BinOp.add IntKind.i64 z8 1, ()); VC.imp (I v1) (VC.br (Lv.cmp L BinOp.lss z8 (Lv.cast L (Lv.llen L En a))) (VC.obl (Lv.inR L z8 (Lv.llen L En a)) (VC.obl
   (BxF.be F z11 ∧ BxF.be F z6) (VC.br (BxF.sameE F z11 z6) (VC.ok ((true, ()) = z7)) (VC.ok (St.mk 18 [(0, V.c (C.sl En a)), (3, V.c (C.ptr 1 0)), (5, V.c (C.int IntKind.i64 z12))]
   [(0, Ob.amb), (1, Ob.box 38 [C.sl It z1, C.sl (Ty.sl It) z3, C.sl z4 z5])] 2 = St.mk 18 [(0, V.c (C.sl En a)), (3, V.c (C.ptr 1 0)), (5, V.c (C.int IntKind.i64 z12))] [(0,
   Ob.amb), (1, Ob.box 38 [C.sl It z1, C.sl (Ty.sl It) z3, C.sl z4 z5])] 2 ∧ I z13 ∧ mu z13 < mu v1))))) (VC.ok ((false, ()) = z7)))))
theorem n34_eq (L : Lv) (F : BxF) (I : Ds [It] → Prop) (mu : Ds [It] → Nat) (a : List EnD) (b : EnD) : vcC L F [46] (D34 (a34 L I mu)) (S34 F) (a, b, ()) = n34 L F I mu a b := by kernel_rfl
theorem n34_go (L : Lv) (F : BxF) (I : Ds [It] → Prop) (mu : Ds [It] → Nat) (a : List EnD) (b : EnD) (h : VC.holds (n34 L F I mu a b)) : Holds (vcC L F [46] (D34 (a34 L I mu)) (S34 F) (a, b, ())) := Holds.of_eq (n34_eq L F I mu a b) h
theorem ok34 (F : BxF) (h : F.isIn = fun l x => decide (x ∈ l)) (h1 : F.sameE = fun a b => decide (a = b)) (hp : F.ble = fun l => l.length ≤ 1000000 ∧ ∀ e ∈ l, sEn e) (q : F.be = sEn) (k1 : SpecOk prog 46 (S46 F)) : SpecOk prog 34 (S34 F) := by
  refine contract_by hm hE D34 fnok34 _ fun (z : List EnD × EnD × Unit) hpre => ?_
  obtain ⟨a, b, ⟨⟩⟩ := z
  have hpre' : F.ble a ∧ F.be b := hpre
  rw [hp, q] at hpre'
  obtain ⟨⟨g, g2⟩, g3⟩ := hpre'
  let I : Int × Unit → Prop := Iv a.length fun k => ∀ x ∈ a.take k, x ≠ b
  refine pack _ 3 (a34 Lv.std I (Mu a.length)) (only_tab (T := cT F) (l := [46]) (tb_cons (tb_sp k1 (by kernel_rfl)) tb_nil)) ?_
  refine n34_go Lv.std F I (Mu a.length) a b ?_
  have e1 : ∀ (l : List EnD) (k : Int), Lv.std.get En l k.toNat = (l[k.toNat]?).getD ([], [], []) := fun _ _ => rfl
  simp only [n34, VC.holds, std_cmp, std_cast, std_llen, std_toN, e1, std_inR, std_ar_add, cmp_lss_t, cmp_lss_f, h, h1, q, pe5, Prod.mk.injEq, and_true, true_and]
  refine ⟨Iv.zero (by simp), fun x hx => ?_⟩
  obtain ⟨k, rfl, hk, i3⟩ := Iv.elim hx
  simp only [Int.toNat_natCast]
  refine ⟨fun hlt => ?_, fun hge => ?_⟩
  · have h1 : k < a.length := by omega
    simp only [List.getElem?_eq_getElem h1, Option.getD_some]
    refine ⟨⟨by omega, hlt⟩, ⟨g2 _ (List.getElem_mem h1), g3⟩, fun he => ?_, fun he => ?_⟩
    · have he' : a[k] = b := of_decide_eq_true he
      exact (decide_eq_true (by rw [← he']; exact List.getElem_mem h1)).symm
    · have he' : ¬ a[k] = b := of_decide_eq_false he
      rw [wr hlt g]
      refine ⟨Iv.mk (by omega) (fun x hx => ?_), Mu.lt (by omega)⟩
      rw [List.take_succ, List.getElem?_eq_getElem h1] at hx
      rcases List.mem_append.1 hx with h2 | h2
      · exact i3 x h2
      · have : x = a[k] := by simpa using h2
        rw [this]; exact he'
  · rw [show k = a.length by omega, List.take_length] at i3
    exact (decide_eq_false (fun hm => i3 b hm rfl)).symm
end Go.Proofs.Tryz
set_option autoImplicit false
set_option linter.all false
namespace Go.Proofs.Tryz
open Go Go.VM
set_option maxRecDepth 100000
def n17 (L : Lv) (F : BxF) (I : Ds [It] → Prop) (mu : Ds [It] → Nat) (p : WkD)  : VC :=
 let z1 := Prod.fst p;
 let z2 := Lv.cast L (Lv.llen L It z1);
 let z3 := (BxF.thin F p, ());
 let z4 := Prod.fst (Prod.snd p);
 let z5 := Lv.llen L (Ty.sl In) z4;
 let z6 := Lv.cast L z5;
 let z7 := Lv.cmp L BinOp.gtr z6 6;
 let z8 := Prod.snd (Prod.snd p);
 let z9 := Lv.cmp L BinOp.gtr z6 3; VC.br (Lv.cmp L BinOp.gtr z2 70) (VC.ok ((false, ()) = z3)) (VC.br (Lv.cmp L BinOp.gtr z2 8) (VC.br (Lv.cmp L BinOp.leq z2 64) (VC.ok ((false,
   ()) = z3)) (VC.br z7 (VC.ok ((false, ()) = z3)) (VC.obl (St.mk 60 [(1, V.c (C.ptr 1 0)), (3, V.c (C.int IntKind.i64 0))] [(0, Ob.amb), (1, Ob.box 25 [C.sl It z1, C.sl (Ty.sl In)
   z4, C.int IntKind.i64 z8])] 2 = St.mk 60 [(1, V.c (C.ptr 1 0)), (3, V.c (C.int IntKind.i64 0))] [(0, Ob.amb), (1, Ob.box 25 [C.sl It z1, C.sl (Ty.sl In) z4, C.int IntKind.i64
   z8])] 2) (VC.obl (I (0, ())) (VC.all (Int × Unit) fun (v1 : Int × Unit) =>
 let z10 := Prod.fst v1;
 let z11 := Lv.cast L (Lv.llen L In (Lv.get L (Ty.sl In) z4 (Lv.toN L z10)));
 let z12 := Lv.cmp L BinOp.gtr z11 2;
 let z13 := Lv.ar L BinOp.add IntKind.i64 z10 1;
 let z14 := (Lv.ar L BinOp.add IntKind.i64 z10 1, ()); VC.imp (I v1) (VC.br (Lv.cmp L BinOp.lss z10 z6) (VC.obl (Lv.inR L z10 z5) (VC.br (Lv.cmp L BinOp.gtr z11 205) (VC.ok ((false,
   ()) = z3)) (VC.br (Lv.cmp L BinOp.gtr z11 12) (VC.br (Lv.cmp L BinOp.leq z11 200) (VC.ok ((false, ()) = z3)) (VC.br z9 (VC.br z12 (VC.ok ((false, ()) = z3)) (VC.ok (St.mk 60 [(1,
   V.c (C.ptr 1 0)), (3, V.c (C.int IntKind.i64 z13))] [(0, Ob.amb), (1, Ob.box 25 [C.sl It z1, C.sl (Ty.sl In) z4, C.int IntKind.i64 z8])] 2 = St.mk 60 [(1, V.c (C.ptr 1 0)), (3,
   V.c (C.int IntKind.i64 z13))] [(0, Ob.amb), (1, Ob.box 25 [C.sl It z1, C.sl (Ty.sl In) z4, C.int IntKind.i64 z8])] 2 ∧ I z14 ∧ mu z14 < mu v1))) (VC.ok (St.mk 60 [(1, V.c (C.ptr
   1 0)), (3, V.c (C.int IntKind.i64 z13))] [(0, Ob.amb), (1, Ob.box 25 [C.sl It z1, C.sl (Ty.sl In) z4, C.int IntKind.i64 z8])] 2 = St.mk 60 [(1, V.c (C.ptr 1 0)), (3, V.c (C.int
   IntKind.i64 z13))] [(0, Ob.amb), (1, Ob.box 25 [C.sl It z1, C.sl (Ty.sl In) z4, C.int IntKind.i64 z8])] 2 ∧ I z14 ∧ mu z14 < mu v1)))) (VC.br z9 (VC.br z12 (VC.ok ((false, ()) =
   z3)) (VC.ok (St.mk 60 [(1, V.c (C.ptr 1 0)), (3, V.c (C.int IntKind.i64 z13))] [(0, Ob.amb), (1, Ob.box 25 [C.sl It z1, C.sl (Ty.sl In) z4, C.int IntKind.i64 z8])] 2 = St.mk 60
   [(1, V.c (C.ptr 1 0)), (3, V.c (C.int IntKind.i64 z13))] [(0, Ob.amb), (1, Ob.box 25 [C.sl It z1, C.sl (Ty.sl In) z4, C.int IntKind.i64 z8])] 2 ∧ I z14 ∧ mu z14 < mu v1))) (VC.ok
   (St.mk 60 [(1, V.c (C.ptr 1 0)), (3, V.c (C.int IntKind.i64 z13))] [(0, Ob.amb), (1, Ob.box 25 [C.sl It z1, C.sl (Ty.sl In) z4, C.int IntKind.i64 z8])] 2 = St.mk 60 [(1, V.c
   (C.ptr 1 0)), (3, V.c (C.int IntKind.i64 z13))] [(0, Ob.amb), (1, Ob.box 25 [C.sl It z1, C.sl (Ty.sl In) z4, C.int IntKind.i64 z8])] 2 ∧ I z14 ∧ mu z14 < mu v1)))))) (VC.ok
   ((true, ()) = z3)))))))) (VC.br z7 (VC.ok ((false, ()) = z3)) (VC.obl (St.mk 60 [(1, V.c (C.ptr 1 0)), (3, V.c (C.int IntKind.i64 0))] [(0, Ob.amb), (1, Ob.box 25 [C.sl It z1,
   C.sl (Ty.sl In) z4, C.int IntKind.i64 z8])] 2 = St.mk 60 [(1, V.c (C.ptr 1 0)), (3, V.c (C.int IntKind.i64 0))] [(0, Ob.amb), (1, Ob.box 25 [C.sl It z1, C.sl (Ty.sl In) z4, C.int
   IntKind.i64 z8])] 2) (VC.obl (I (0, ())) (VC.all (Int × Unit) fun (v2 : Int × Unit) =>
 let z15 := Prod.fst v2;
 let z16 := Lv.cast L (Lv.llen L In (Lv.get L (Ty.sl In) z4 (Lv.toN L z15)));
 let z17 := Lv.cmp L BinOp.gtr z16 2;
 let z18 := Lv.ar L BinOp.add IntKind.i64 z15 1;
 let z19 := (Lv.ar L BinOp.add IntKind.i64 z15 1, ()); VC.imp (I v2) (VC.br (Lv.cmp L BinOp.lss z15 z6) (VC.obl (Lv.inR L z15 z5) (VC.br (Lv.cmp L BinOp.gtr z16 205) (VC.ok ((false,
   ()) = z3)) (VC.br (Lv.cmp L BinOp.gtr z16 12) (VC.br (Lv.cmp L BinOp.leq z16 200) (VC.ok ((false, ()) = z3)) (VC.br z9 (VC.br z17 (VC.ok ((false, ()) = z3)) (VC.ok (St.mk 60 [(1,
   V.c (C.ptr 1 0)), (3, V.c (C.int IntKind.i64 z18))] [(0, Ob.amb), (1, Ob.box 25 [C.sl It z1, C.sl (Ty.sl In) z4, C.int IntKind.i64 z8])] 2 = St.mk 60 [(1, V.c (C.ptr 1 0)), (3,
   V.c (C.int IntKind.i64 z18))] [(0, Ob.amb), (1, Ob.box 25 [C.sl It z1, C.sl (Ty.sl In) z4, C.int IntKind.i64 z8])] 2 ∧ I z19 ∧ mu z19 < mu v2))) (VC.ok (St.mk 60 [(1, V.c (C.ptr
   1 0)), (3, V.c (C.int IntKind.i64 z18))] [(0, Ob.amb), (1, Ob.box 25 [C.sl It z1, C.sl (Ty.sl In) z4, C.int IntKind.i64 z8])] 2 = St.mk 60 [(1, V.c (C.ptr 1 0)), (3, V.c (C.int
   IntKind.i64 z18))] [(0, Ob.amb), (1, Ob.box 25 [C.sl It z1, C.sl (Ty.sl In) z4, C.int IntKind.i64 z8])] 2 ∧ I z19 ∧ mu z19 < mu v2)))) (VC.br z9 (VC.br z17 (VC.ok ((false, ()) =
   z3)) (VC.ok (St.mk 60 [(1, V.c (C.ptr 1 0)), (3, V.c (C.int IntKind.i64 z18))] [(0, Ob.amb), (1, Ob.box 25 [C.sl It z1, C.sl (Ty.sl In) z4, C.int IntKind.i64 z8])] 2 = St.mk 60
   [(1, V.c (C.ptr 1 0)), (3, V.c (C.int IntKind.i64 z18))] [(0, Ob.amb), (1, Ob.box 25 [C.sl It z1, C.sl (Ty.sl In) z4, C.int IntKind.i64 z8])] 2 ∧ I z19 ∧ mu z19 < mu v2))) (VC.ok
   (St.mk 60 [(1, V.c (C.ptr 1 0)), (3, V.c (C.int IntKind.i64 z18))] [(0, Ob.amb), (1, Ob.box 25 [C.sl It z1, C.sl (Ty.sl In) z4, C.int IntKind.i64 z8])] 2 = St.mk 60 [(1, V.c
   (C.ptr 1 0)), (3, V.c (C.int IntKind.i64 z18))] [(0, Ob.amb), (1, Ob.box 25 [C.sl It z1, C.sl (Ty.sl In) z4, C.int IntKind.i64 z8])] 2 ∧ I z19 ∧ mu z19 < mu v2)))))) (VC.ok
   ((true, ()) = z3))))))))
theorem n17_eq (L : Lv) (F : BxF) (I : Ds [It] → Prop) (mu : Ds [It] → Nat) (p : WkD) : vcC L F [] (D17 (aT3 L I mu)) (S17 F) (p, ()) = n17 L F I mu p := by kernel_rfl
theorem n17_go (L : Lv) (F : BxF) (I : Ds [It] → Prop) (mu : Ds [It] → Nat) (p : WkD) (h : VC.holds (n17 L F I mu p)) : Holds (vcC L F [] (D17 (aT3 L I mu)) (S17 F) (p, ())) := Holds.of_eq (n17_eq L F I mu p) h
def thinL (n : Nat) (l : List InD) : Bool := !(decide (205 < (l.length : Int)) || (decide (12 < (l.length : Int)) && decide ((l.length : Int) ≤ 200)) || (decide (3 < (n : Int)) && decide (2 < (l.length : Int))))
def thinF (p : WkD) : Bool := !(decide (70 < (p.1.length : Int)) || (decide (8 < (p.1.length : Int)) && decide ((p.1.length : Int) ≤ 64)) || decide (6 < (p.2.1.length : Int))) && p.2.1.all (thinL p.2.1.length)
theorem ok17 (F : BxF) (h : F.thin = thinF) (hp : F.bwT = bwTF) : SpecOk prog 17 (S17 F) := by
  refine contract_by hm hE D17 fnok17 _ fun (z : WkD × Unit) hpre => ?_
  obtain ⟨p, ⟨⟩⟩ := z
  have hpre' : F.bwT p := hpre
  rw [hp] at hpre'
  obtain ⟨g1, g2, g3⟩ := hpre'
  let I : Int × Unit → Prop := Iv p.2.1.length fun k => (p.2.1.drop k).all (thinL p.2.1.length) = p.2.1.all (thinL p.2.1.length)
  refine pack _ 3 (aT3 Lv.std I (Mu p.2.1.length)) (only_tab (T := cT F) (l := []) tb_nil) ?_
  refine n17_go Lv.std F I (Mu p.2.1.length) p ?_
  have e2 : ∀ (l : List (List InD)) (k : Int), Lv.std.get (.sl In) l k.toNat = (l[k.toNat]?).getD [] := fun _ _ => rfl
  simp only [n17, VC.holds, std_cmp, std_cast, std_llen, std_toN, e2, std_inR, std_ar_add, cmp_lss_t, cmp_lss_f, cmp_gtr_t, cmp_gtr_f, cmp_leq_t, cmp_leq_f, h, and_true, true_and]
  have et : ∀ l, thinL p.2.1.length l = true ↔ ¬ (205 < (l.length : Int) ∨ (12 < (l.length : Int) ∧ (l.length : Int) ≤ 200) ∨ (3 < (p.2.1.length : Int) ∧ 2 < (l.length : Int))) := fun l => by
    unfold thinL; simp only [Bool.not_eq_true', Bool.or_eq_false_iff, Bool.and_eq_false_iff, decide_eq_false_iff_not]; omega
  have ew : thinF p = true ↔ ¬ (70 < (p.1.length : Int) ∨ (8 < (p.1.length : Int) ∧ (p.1.length : Int) ≤ 64) ∨ 6 < (p.2.1.length : Int)) ∧ p.2.1.all (thinL p.2.1.length) = true := by
    unfold thinF; simp only [Bool.and_eq_true, Bool.not_eq_true', Bool.or_eq_false_iff, Bool.and_eq_false_iff, decide_eq_false_iff_not]
    constructor
    · rintro ⟨h1, h2⟩; exact ⟨by omega, h2⟩
    · rintro ⟨h1, h2⟩; exact ⟨by omega, h2⟩
  have fls : ¬ (thinF p = true) → (false, ()) = (thinF p, ()) := fun h => by rw [Bool.not_eq_true] at h; rw [h]
  have fw : (70 < (p.1.length : Int) ∨ (8 < (p.1.length : Int) ∧ (p.1.length : Int) ≤ 64) ∨ 6 < (p.2.1.length : Int)) → (false, ()) = (thinF p, ()) := fun h => fls fun e => (ew.1 e).1 h
  have fail : ∀ k : Nat, k < p.2.1.length → (p.2.1.drop k).all (thinL p.2.1.length) = p.2.1.all (thinL p.2.1.length) → (205 < (((p.2.1[k]?).getD []).length : Int) ∨ (12 < (((p.2.1[k]?).getD []).length : Int) ∧ (((p.2.1[k]?).getD []).length : Int) ≤ 200) ∨ (3 < (p.2.1.length : Int) ∧ 2 < (((p.2.1[k]?).getD []).length : Int))) → (false, ()) = (thinF p, ()) := fun k hk i3 h => fls fun e => by
    rw [(ew.1 e).2, all_drop _ _ k [] hk, Bool.and_eq_true] at i3
    exact (et _).1 i3.1 h
  have passI : ∀ k : Nat, k < p.2.1.length → (p.2.1.drop k).all (thinL p.2.1.length) = p.2.1.all (thinL p.2.1.length) → ¬ (205 < (((p.2.1[k]?).getD []).length : Int) ∨ (12 < (((p.2.1[k]?).getD []).length : Int) ∧ (((p.2.1[k]?).getD []).length : Int) ≤ 200) ∨ (3 < (p.2.1.length : Int) ∧ 2 < (((p.2.1[k]?).getD []).length : Int))) → I (IntKind.i64.wrap ((k : Int) + 1), ()) := fun k hk i3 h => by
    rw [all_drop _ _ k [] hk, (et _).2 h, Bool.true_and] at i3
    rw [wrB (by omega) g2]
    exact Iv.mk (by omega) i3
  have passM : ∀ k : Nat, k < p.2.1.length → Mu p.2.1.length (IntKind.i64.wrap ((k : Int) + 1), ()) < Mu p.2.1.length ((k : Int), ()) := fun k hk => by rw [wrB (by omega) g2]; exact Mu.lt hk
  refine ⟨fun a => fw (by omega), fun a => ⟨fun b => ⟨fun c => fw (by omega), fun c => ⟨fun d => fw (by omega), fun d => ?_⟩⟩, fun b => ⟨fun d => fw (by omega), fun d => ?_⟩⟩⟩
  all_goals
    refine ⟨Iv.zero rfl, fun x hx => ?_⟩
    obtain ⟨k, rfl, hk, i3⟩ := Iv.elim hx
    simp only [Int.toNat_natCast]
    refine ⟨fun hlt => ⟨⟨by omega, hlt⟩, ?_⟩, fun hge => ?_⟩
    · have fail' := fail k (by omega) i3
      have passI' := passI k (by omega) i3
      have passM' := passM k (by omega)
      clear_value I
      repeat' (first | refine And.intro ?_ ?_ | intro _)
      all_goals first | exact passM' | exact fail' (by omega) | exact passI' (by omega)
    · rw [show k = p.2.1.length by omega, List.drop_length] at i3
      have i3 : true = p.2.1.all (thinL p.2.1.length) := i3
      rw [ew.2 ⟨by omega, i3.symm⟩]
end Go.Proofs.Tryz
set_option autoImplicit false
set_option linter.all false
namespace Go.Proofs.Tryz
open Go Go.VM
theorem getq_app {α : Type} {l : List α} {n : Nat} {x : α} (r : List α) (h : l[n]? = some x) : (l ++ r)[n]? = some x := by
  obtain ⟨h1, h2⟩ := List.getElem?_eq_some_iff.1 h
  rw [List.getElem?_append_left h1]; exact h
theorem getq_lt {α : Type} {l : List α} {n : Nat} {x : α} (h : l[n]? = some x) : n < l.length := (List.getElem?_eq_some_iff.1 h).1
theorem met_mem {l : List MtD} {s : StD} : metIn l s = true ↔ s ∈ l.map Prod.fst := by
  rw [met_iff, List.mem_map]
  constructor
  · rintro ⟨n, x, hn, he⟩; exact ⟨x, List.mem_of_getElem? hn, he⟩
  · rintro ⟨x, hx, he⟩
    obtain ⟨n, hn⟩ := List.getElem?_of_mem hx
    exact ⟨n, x, hn, he⟩
theorem AddI.snoc {m : McD} {a : Nat} {s : StD} {j : Nat} {l : List MtD} (h : AddI m a s j l) {v : MvD} (hv : (movesF m s)[j]? = some v) (hn : metIn l (doF m s v) = false) : AddI m a s (j + 1) (l ++ [(doF m s v, (a : Int), (j : Int))]) where
  first := getq_app _ h.first
  nodup := by
    rw [List.map_append, List.nodup_append]
    refine ⟨h.nodup, by simp, fun x hx y hy => ?_⟩
    simp only [List.map_cons, List.map_nil, List.mem_singleton] at hy
    rw [hy]; intro e; rw [← e] at hn; rw [met_mem.2 hx] at hn; cases hn
  par := fun n x hx h0 => by
    rcases Nat.lt_or_ge n l.length with hl | hl
    · rw [List.getElem?_append_left hl] at hx
      obtain ⟨b, i, y, w, h1, h2, h3, h4, h5⟩ := h.par n x hx h0
      exact ⟨b, i, y, w, h1, h2, getq_app _ h3, h4, h5⟩
    · obtain ⟨y, hy, hs⟩ := h.cur
      have := getq_lt hx
      simp only [List.length_append, List.length_cons, List.length_nil] at this
      have e : n = l.length := by omega
      subst e
      rw [List.getElem?_append_right (Nat.le_refl _), Nat.sub_self] at hx
      cases hx
      exact ⟨a, j, y, v, getq_lt hy, by omega, getq_app _ hy, by rw [hs], by rw [hs]; exact hv⟩
  mono := fun n k x y hnk hx hy => by
    rcases Nat.lt_or_ge k l.length with hl | hl
    · rw [List.getElem?_append_left hl] at hy
      rw [List.getElem?_append_left (by omega)] at hx
      exact h.mono n k x y hnk hx hy
    · have := getq_lt hy
      simp only [List.length_append, List.length_cons, List.length_nil] at this
      have e : k = l.length := by omega
      subst e
      rw [List.getElem?_append_right (Nat.le_refl _), Nat.sub_self] at hy
      cases hy
      rcases Nat.lt_or_ge n l.length with hn | hn
      · rw [List.getElem?_append_left hn] at hx
        by_cases h0 : n = 0
        · subst h0; rw [h.first] at hx; cases hx; show (-1 : Int) ≤ (a : Int); omega
        · obtain ⟨b, i, z, w, h1, h2, h3, h4, h5⟩ := h.par n x hx (by omega)
          rw [h4]; show (b : Int) ≤ (a : Int); omega
      · have e : n = l.length := by omega
        subst e
        rw [List.getElem?_append_right (Nat.le_refl _), Nat.sub_self] at hx
        cases hx; exact Int.le_refl _
  closed := fun b y hb hy w hw => by
    obtain ⟨z, hz, _⟩ := h.cur
    have := getq_lt hz
    rw [List.getElem?_append_left (by omega)] at hy
    obtain ⟨n, x, h1, h2, h3⟩ := h.closed b y hb hy w hw
    exact ⟨n, x, getq_app _ h1, h2, h3⟩
  cur := by obtain ⟨y, h1, h2⟩ := h.cur; exact ⟨y, getq_app _ h1, h2⟩
  now := fun i w hi hw => by
    by_cases e : i = j
    · subst e
      rw [hv] at hw; cases hw
      refine ⟨l.length, (doF m s v, (a : Int), (i : Int)), ?_, rfl, Int.le_refl _⟩
      rw [List.getElem?_append_right (Nat.le_refl _), Nat.sub_self]; rfl
    · obtain ⟨n, x, h1, h2, h3⟩ := h.now i w (by omega) hw
      exact ⟨n, x, getq_app _ h1, h2, h3⟩
def Many (m : McD) : Prop := ∃ r : List StD, r.length = 20001 ∧ r.Nodup ∧ ∀ s ∈ r, ∃ d, Reach m d s
theorem addN_inv {m : McD} {a : Nat} {s : StD} : ∀ (mv : List MvD) (j : Nat) (l : List MtD), AddI m a s j l → (movesF m s).drop j = mv → l.length ≤ 20000 →
    (∃ l', addN m s a j mv l = some l' ∧ AddI m a s (movesF m s).length l' ∧ l.length ≤ l'.length ∧ l'.length ≤ 20000) ∨ (addN m s a j mv l = none ∧ Many m)
  | [], j, l, h, hd, hl => by
    left
    refine ⟨l, rfl, ⟨h.first, h.nodup, h.par, h.mono, h.closed, h.cur, fun i v hi hv => h.now i v ?_ hv⟩, Nat.le_refl _, hl⟩
    have := List.drop_eq_nil_iff.1 hd
    omega
  | v :: r, j, l, h, hd, hl => by
    have hj : j < (movesF m s).length := by
      rcases Nat.lt_or_ge j (movesF m s).length with h1 | h1
      · exact h1
      · rw [List.drop_eq_nil_of_le h1] at hd; cases hd
    rw [List.drop_eq_getElem_cons hj] at hd
    injection hd with hd1 hd2
    have hv : (movesF m s)[j]? = some v := by rw [List.getElem?_eq_getElem hj, hd1]
    rw [addN]
    cases hc : metIn l (doF m s v) with
    | true => simp only [if_true]; exact addN_inv r (j + 1) l (h.skip hv hc) hd2 hl
    | false =>
      simp only [Bool.false_eq_true, if_false]
      by_cases e : l.length = 20000
      · rw [if_pos e]
        right
        refine ⟨rfl, l.map Prod.fst ++ [doF m s v], by simp [e], ?_, fun x hx => ?_⟩
        · rw [List.nodup_append]
          refine ⟨h.nodup, by simp, fun x hx y hy => ?_⟩
          rw [List.mem_singleton.1 hy]; intro e; rw [← e, met_mem.2 hx] at hc; cases hc
        · have hr := par_reach h.first h.par
          rcases List.mem_append.1 hx with h1 | h1
          · obtain ⟨y, hy, rfl⟩ := List.mem_map.1 h1
            obtain ⟨n, hn⟩ := List.getElem?_of_mem hy
            exact hr n y hn
          · rw [List.mem_singleton.1 h1]
            obtain ⟨y, hy, rfl⟩ := h.cur
            obtain ⟨d, hd⟩ := hr a y hy
            exact ⟨d + 1, .step hd (List.mem_of_getElem? hv)⟩
      · rw [if_neg e]
        rcases addN_inv r (j + 1) _ (h.snoc hv hc) hd2 (by simp; omega) with ⟨l', h1, h2, h3, h4⟩ | h1
        · left; refine ⟨l', h1, h2, ?_, h4⟩; simp at h3; omega
        · right; exact h1
theorem bfsN_inv {m : McD} : ∀ (f a : Nat) (l : List MtD), BfsI m a l → a ≤ l.length → l.length ≤ 20000 → 20001 ≤ f + a →
    (∃ l', bfsN m f a l = some l' ∧ BfsI m l'.length l' ∧ l'.length ≤ 20000) ∨ (bfsN m f a l = none ∧ Many m)
  | 0, a, l, h, ha, hl, hf => by omega
  | f + 1, a, l, h, ha, hl, hf => by
    rw [bfsN]
    by_cases hlt : a < l.length
    · rw [List.getElem?_eq_getElem hlt]
      simp only
      have hi : AddI m a l[a].1 0 l := ⟨h.first, h.nodup, fun n x hx h0 => by
        obtain ⟨b, j, y, v, h1, h2, h3⟩ := h.par n x hx h0
        exact ⟨b, j, y, v, h1, by omega, h3⟩, h.mono, h.closed, ⟨l[a], List.getElem?_eq_getElem hlt, rfl⟩, fun i v hi _ => by omega⟩
      rcases addN_inv _ 0 l hi rfl hl with ⟨l', h1, h2, h3, h4⟩ | ⟨h1, h2⟩
      · rw [List.drop_zero] at h1
        rw [h1]
        simp only
        refine bfsN_inv f (a + 1) l' ⟨h2.first, h2.nodup, h2.par, h2.mono, fun b y hb hy v hv => ?_⟩ (by omega) h4 (by omega)
        by_cases e : b = a
        · subst e
          obtain ⟨z, hz, hs⟩ := h2.cur
          rw [hy] at hz; cases hz
          obtain ⟨i, hi⟩ := List.getElem?_of_mem hv
          have hi' := getq_lt hi
          rw [hs] at hi hi' ⊢
          exact h2.now i v hi' hi
        · exact h2.closed b y (by omega) hy v hv
      · rw [List.drop_zero] at h1
        rw [h1]; right; exact ⟨rfl, h2⟩
    · rw [List.getElem?_eq_none (by omega)]
      left
      exact ⟨l, rfl, by rw [show l.length = a by omega]; exact h, hl⟩
theorem all_inv (m : McD) : (∃ l, allF m = (l, 0) ∧ BfsI m l.length l ∧ l.length ≤ 20000) ∨ (allF m = ([], 5) ∧ Many m) := by
  have h0 : BfsI m 0 [(firstF m.1, -1, 0)] := ⟨rfl, by simp, fun n x hx h0 => by
    have := getq_lt hx; simp at this; omega, fun n k x y hnk hx hy => by
    have h1 := getq_lt hx; have h2 := getq_lt hy
    simp only [List.length_cons, List.length_nil] at h1 h2
    have e1 : n = 0 := by omega
    have e2 : k = 0 := by omega
    subst e1; subst e2
    cases hx; cases hy; exact Int.le_refl _, fun b y hb => by omega⟩
  rcases bfsN_inv 20001 0 _ h0 (by simp) (by simp) (by omega) with ⟨l, h1, h2, h3⟩ | ⟨h1, h2⟩
  · left; exact ⟨l, by rw [allF, bfs0, h1], h2, h3⟩
  · right; exact ⟨by rw [allF, bfs0, h1], h2⟩
theorem BfsI.met {m : McD} {l : List MtD} (h : BfsI m l.length l) {d : Nat} {s : StD} (hr : Reach m d s) : ∃ (n : Nat) (x : MtD), l[n]? = some x ∧ x.1 = s := by
  induction hr with
  | zero => exact ⟨0, _, h.first, rfl⟩
  | step _ hv ih =>
    obtain ⟨n, x, hx, rfl⟩ := ih
    obtain ⟨k, y, h1, h2, _⟩ := h.closed n x (getq_lt hx) hx _ hv
    exact ⟨k, y, h1, h2⟩
theorem nodup_len {α : Type} [DecidableEq α] : ∀ (r l : List α), r.Nodup → (∀ x ∈ r, x ∈ l) → r.length ≤ l.length
  | [], l, _, _ => Nat.zero_le _
  | x :: r, l, hn, hs => by
    have hx := hs x (by simp)
    have hn' := List.nodup_cons.1 hn
    have := nodup_len r (l.erase x) hn'.2 fun y hy => (List.mem_erase_of_ne (a := y) (b := x) (fun e => hn'.1 (by rw [← e]; exact hy))).2 (hs y (by simp [hy]))
    rw [List.length_erase_of_mem hx] at this
    have := List.length_pos_of_mem hx
    simp only [List.length_cons]; omega
theorem few_of {m m' : McD} (f : StD → StD) (hf : ∀ s d, Reach m d s → ∃ d', Reach m' d' (f s)) (hi : ∀ s s' d d', Reach m d s → Reach m d' s' → f s = f s' → s = s') (h : (allF m').2 = 0) : (allF m).2 = 0 := by
  rcases all_inv m with ⟨l, h1, _⟩ | ⟨_, r, h1, h2, h3⟩
  · rw [h1]
  · exfalso
    rcases all_inv m' with ⟨l, g1, g2, g3⟩ | ⟨g1, _⟩
    · have hn : (r.map f).Nodup := by
        rw [List.nodup_iff_pairwise_ne, List.pairwise_map]
        refine List.Pairwise.imp_of_mem ?_ (List.nodup_iff_pairwise_ne.1 h2)
        intro a b ha hb hab e
        obtain ⟨d, hd⟩ := h3 a ha
        obtain ⟨d', hd'⟩ := h3 b hb
        exact hab (hi a b d d' hd hd' e)
      have := nodup_len (r.map f) (l.map Prod.fst) hn fun y hy => by
        obtain ⟨s, hs, rfl⟩ := List.mem_map.1 hy
        obtain ⟨d, hd⟩ := h3 s hs
        obtain ⟨d', hd'⟩ := hf s d hd
        obtain ⟨n, x, hx, e⟩ := g2.met hd'
        exact List.mem_map.2 ⟨x, List.mem_of_getElem? hx, e⟩
      rw [List.length_map, List.length_map] at this
      omega
    · rw [g1] at h; cases h
def EndsAt (m : McD) (e : EnD) : Prop := ∃ d s, Reach m d s ∧ endedF m s = true ∧ endOfF m s = e
theorem endsOf_mem {m : McD} (h : (allF m).2 = 0) (e : EnD) : e ∈ endsOf m (allF m).1 ↔ EndsAt m e := by
  rcases all_inv m with ⟨l, h1, h2, _⟩ | ⟨h1, _⟩
  · rw [h1]
    unfold endsOf EndsAt
    simp only [List.mem_map, List.mem_filter]
    constructor
    · rintro ⟨x, ⟨hx, he⟩, rfl⟩
      obtain ⟨n, hn⟩ := List.getElem?_of_mem hx
      obtain ⟨d, hd⟩ := h2.reach hn
      exact ⟨d, x.1, hd, he, rfl⟩
    · rintro ⟨d, s, hd, he, rfl⟩
      obtain ⟨n, x, hx, rfl⟩ := h2.met hd
      exact ⟨x, ⟨List.mem_of_getElem? hx, he⟩, rfl⟩
  · rw [h1] at h; cases h
end Go.Proofs.Tryz
set_option autoImplicit false
set_option linter.all false
namespace Go.Proofs.Tryz
open Go Go.VM
def ltE (x y : EnD) : Bool := Go.Proofs.ltOf cmpEF x y
theorem ltE_irr (x : EnD) : ltE x x = false := cmpE_ord.swo.irrefl x
theorem ltE_tot {x y : EnD} (h1 : ltE x y = false) (h2 : ltE y x = false) : x = y := cmpE_ord.tot x y h1 h2
def sortE (l : List EnD) : List EnD := List.mergeSort (α := EnD) l fun x y => !(Go.Proofs.ltOf cmpEF) y x
theorem sortE_mem (l : List EnD) (e : EnD) : e ∈ sortE l ↔ e ∈ l := List.mem_mergeSort
theorem sortE_ord (l : List EnD) : (sortE l).Pairwise fun x y => ltE y x = false := by
  have h := List.pairwise_mergeSort (le := fun x y : EnD => !(Go.Proofs.ltOf cmpEF) y x) (fun a b c h1 h2 => by
    simp only [Bool.not_eq_true'] at h1 h2 ⊢
    exact cmpE_ord.swo.ntrans c b a h2 h1) (fun a b => by
    simp only [Bool.or_eq_true, Bool.not_eq_true']
    cases h : Go.Proofs.ltOf cmpEF b a with
    | false => exact .inl rfl
    | true =>
      right
      cases h' : Go.Proofs.ltOf cmpEF a b with
      | false => rfl
      | true => have := cmpE_ord.swo.trans _ _ _ h h'; rw [cmpE_ord.swo.irrefl] at this; cases this) l
  exact h.imp fun {a b} h => by
    have h' : (!(Go.Proofs.ltOf cmpEF) b a) = true := h
    show Go.Proofs.ltOf cmpEF b a = false
    simpa using h'
theorem snocRec {α : Type} {P : List α → Prop} (h0 : P []) (h1 : ∀ l x, P l → P (l ++ [x])) (l : List α) : P l := by
  have : ∀ n, ∀ l : List α, l.length = n → P l := fun n => by
    induction n with
    | zero => intro l h; rw [List.eq_nil_of_length_eq_zero h]; exact h0
    | succ n ih =>
      intro l h
      rcases List.eq_nil_or_concat l with rfl | ⟨q, x, rfl⟩
      · cases h
      · rw [List.concat_eq_append] at h ⊢
        exact h1 q x (ih q (by simpa using h))
  exact this l.length l rfl
theorem compL_mem (l : List EnD) (e : EnD) : e ∈ compL l ↔ e ∈ l := by
  induction l using snocRec with
  | h0 => exact Iff.rfl
  | h1 l x ih =>
    rw [compL_snoc, pushE]
    split
    · rename_i hx
      rw [ih, List.mem_append, List.mem_singleton]
      constructor
      · exact .inl
      · rintro (h | rfl)
        · exact h
        · exact ih.1 (List.mem_of_getLast? hx)
    · rw [List.mem_append, List.mem_append, ih]
theorem compL_strict (l : List EnD) (h : l.Pairwise fun x y => ltE y x = false) : (compL l).Pairwise fun x y => ltE x y = true := by
  induction l using snocRec with
  | h0 => exact .nil
  | h1 l x ih =>
    rw [List.pairwise_append] at h
    obtain ⟨h1, _, h3⟩ := h
    have ih := ih h1
    rw [compL_snoc, pushE]
    split
    · exact ih
    · rename_i hx
      rw [List.pairwise_append]
      refine ⟨ih, by simp, fun y hy z hz => ?_⟩
      rw [List.mem_singleton.1 hz]
      have a1 : ltE x y = false := h3 y ((compL_mem l y).1 hy) x (by simp)
      cases a2 : ltE y x with
      | true => rfl
      | false =>
        exfalso
        have e := ltE_tot a2 a1
        subst e
        obtain ⟨i, hi, rfl⟩ := List.getElem_of_mem hy
        by_cases hl : i = (compL l).length - 1
        · exact hx (by rw [List.getLast?_eq_getElem?, ← hl, List.getElem?_eq_getElem hi])
        · have a3 := List.pairwise_iff_getElem.1 ih i ((compL l).length - 1) hi (by omega) (by omega)
          have a4 : ltE (compL l)[i] ((compL l)[(compL l).length - 1]'(by omega)) = false := h3 _ ((compL_mem l _).1 (List.getElem_mem (show (compL l).length - 1 < (compL l).length by omega))) _ (List.mem_singleton.2 rfl)
          rw [a4] at a3; cases a3
noncomputable def endsM (m : McD) : List EnD × Int × Int := endsG sortE compL m
theorem endsM_ok {m : McD} (h : (endsM m).2.2 = 0) : checkF m.1 = 0 ∧ (allF m).2 = 0 ∧ (endsM m).1 = compL (sortE (endsOf m (allF m).1)) := by
  unfold endsM endsG at h ⊢
  split at h
  · rename_i h1; exact absurd h h1
  · rename_i h1
    split at h
    · rename_i h2; exact absurd h h2
    · rename_i h2; simp only [ne_eq, Decidable.not_not] at h1 h2; rw [if_neg (by simpa using h1), if_neg (by simpa using h2)]; exact ⟨h1, h2, rfl⟩
theorem endsM_err {m : McD} (h : checkF m.1 = 0) : (endsM m).2.2 = (allF m).2 := by
  unfold endsM endsG
  rw [if_neg (by simpa using h)]
  split
  · rfl
  · rename_i h2; simp only [ne_eq, Decidable.not_not] at h2; exact h2.symm
theorem endsM_mem {m : McD} (h : (endsM m).2.2 = 0) (e : EnD) : e ∈ (endsM m).1 ↔ EndsAt m e := by
  obtain ⟨_, h2, h3⟩ := endsM_ok h
  rw [h3, compL_mem, sortE_mem, endsOf_mem h2]
theorem endsM_strict {m : McD} (h : (endsM m).2.2 = 0) : (endsM m).1.Pairwise fun x y => ltE x y = true := by
  obtain ⟨_, h2, h3⟩ := endsM_ok h
  rw [h3]; exact compL_strict _ (sortE_ord _)
theorem endsM_len {m : McD} (h : (endsM m).2.2 = 0) : (endsM m).1.Nodup := by
  rw [List.nodup_iff_pairwise_ne]
  exact (endsM_strict h).imp fun {a b} hab e => by rw [e, ltE_irr] at hab; cases hab
theorem ok_reach {p : WkD} {b : Bool} (hp : OkP p) {d : Nat} {s : StD} (h : Reach (p, b) d s) : OkS p s := by
  induction h with
  | zero => exact first_ok hp
  | step _ hv ih => exact do_ok hp ih hv
theorem endsAt_sEn {p : WkD} {b : Bool} (hp : OkP p) {e : EnD} (h : EndsAt (p, b) e) : sEn e := by
  obtain ⟨d, s, h1, _, rfl⟩ := h
  exact ok_sEn hp (ok_reach hp h1)
theorem endsM_sEn {p : WkD} {b : Bool} (h : (endsM (p, b)).2.2 = 0) : ∀ e ∈ (endsM (p, b)).1, sEn e := fun e he =>
  endsAt_sEn ((okP_iff p).1 (endsM_ok h).1) ((endsM_mem h e).1 he)
theorem endsM_le {m : McD} (h : (endsM m).2.2 = 0) : (endsM m).1.length ≤ 20000 := by
  obtain ⟨_, h2, h3⟩ := endsM_ok h
  have := nodup_len _ (endsOf m (allF m).1) (endsM_len h) fun x hx => by rw [h3, compL_mem, sortE_mem] at hx; exact hx
  have h5 : (endsOf m (allF m).1).length ≤ (allF m).1.length := by
    have := endsOf_len m (allF m).1 (allF m).1.length
    rwa [List.take_length] at this
  rcases all_inv m with ⟨l, g1, _, g3⟩ | ⟨g1, _⟩
  · have e : (allF m).1 = l := by rw [g1]
    rw [e] at h5 this; omega
  · have e : (allF m).1 = [] := by rw [g1]
    rw [e] at h5 this; simp only [List.length_nil] at h5; omega
end Go.Proofs.Tryz
set_option autoImplicit false
set_option linter.all false
namespace Go.Proofs.Tryz
open Go Go.VM
section
variable {m : McD} {a : Nat} {l : List MtD}
end
theorem ended_iff {m : McD} {s : StD} : endedF m s = true ↔ movesF m s = [] := decide_eq_true_iff
end Go.Proofs.Tryz
set_option autoImplicit false
set_option linter.all false
namespace Go.Proofs.Tryz
open Go Go.VM
theorem nil_of {α : Type} {l : List α} (h : ∀ x, x ∉ l) : l = [] := List.eq_nil_iff_forall_not_mem.2 h
theorem no_kept {m : McD} {s : StD} (h : movesF m s = []) {k : Nat} (hk : k < s.2.length) : (thAt s k).2.2.1 = [] ∧ canF m s k = false := by
  constructor
  · apply List.eq_nil_of_length_eq_zero
    rcases Nat.eq_zero_or_pos (thAt s k).2.2.1.length with h0 | h0
    · exact h0
    · have : ((k : Int), true) ∈ movesF m s := mem_moves.2 ⟨k, hk, rfl, .inr ⟨rfl, h0⟩⟩
      rw [h] at this; cases this
  · cases hc : canF m s k with
    | false => rfl
    | true =>
      have : ((k : Int), false) ∈ movesF m s := mem_moves.2 ⟨k, hk, rfl, .inl ⟨rfl, hc⟩⟩
      rw [h] at this; cases this
theorem ended_of {m : McD} {s : StD} (h : ∀ k, k < s.2.length → (thAt s k).2.2.1 = [] ∧ canF m s k = false) : movesF m s = [] := nil_of fun v hv => by
  obtain ⟨k, h1, h2, h3⟩ := mem_moves.1 hv
  obtain ⟨g1, g2⟩ := h k h1
  rcases h3 with ⟨_, h4⟩ | ⟨_, h4⟩
  · rw [g2] at h4; cases h4
  · rw [g1] at h4; exact absurd h4 (Nat.lt_irrefl _)
theorem do_false {m : McD} {s : StD} {k : Nat} : doF m s ((k : Int), false) = match stepF m.2 s (thAt s k) (insIn (listAt m k) (thAt s k).1) with
    | some x => (x.1, s.2.set k x.2)
    | none => (s.1, s.2.set k ((thAt s k).1, (thAt s k).2.1, (thAt s k).2.2.1, (thAt s k).2.2.2.1, true)) := by
  unfold doF
  simp only [Int.toNat_natCast, Bool.false_eq_true, if_false]
  rfl
theorem do_true {m : McD} {s : StD} {k : Nat} : doF m s ((k : Int), true) = (s.1.set (kpAt (thAt s k).2.2.1 0).1.toNat (kpAt (thAt s k).2.2.1 0).2, s.2.set k ((thAt s k).1, (thAt s k).2.1, (thAt s k).2.2.1.drop 1, (thAt s k).2.2.2)) := by
  unfold doF
  simp only [Int.toNat_natCast, if_true]
end Go.Proofs.Tryz
set_option autoImplicit false
set_option linter.all false
namespace Go.Proofs.Tryz
open Go Go.VM
theorem th_in {s : StD} {k : Nat} (h : k < s.2.length) : s.2[k]? = some (thAt s k) := by
  unfold thAt; rw [Int.toNat_natCast, List.getElem?_eq_getElem h]; rfl
theorem state_ext {s s' : StD} (h1 : s.1 = s'.1) (h2 : s.2.length = s'.2.length) (h3 : ∀ k : Nat, k < s.2.length → thAt s k = thAt s' k) : s = s' := by
  refine Prod.ext h1 (List.ext_getElem? fun k => ?_)
  rcases Nat.lt_or_ge k s.2.length with h | h
  · rw [th_in h, th_in (by omega), h3 k h]
  · rw [List.getElem?_eq_none h, List.getElem?_eq_none (by omega)]
def rotL {α : Type} (n : Nat) (l : List α) : List α := l.drop n ++ l.take n
def sg (n m k : Nat) : Nat := if k + n < m then k + n else k + n - m
def tu (n m j : Nat) : Nat := if n ≤ j then j - n else j + m - n
theorem rotL_len {α : Type} {n : Nat} {l : List α} : (rotL n l).length = l.length := by
  unfold rotL; rw [List.length_append, List.length_drop, List.length_take]; omega
theorem rotL_at {α : Type} {n : Nat} {l : List α} (hn : n ≤ l.length) {k : Nat} (hk : k < l.length) : (rotL n l)[k]? = l[sg n l.length k]? := by
  unfold rotL sg
  by_cases h : k + n < l.length
  · rw [if_pos h, List.getElem?_append_left (by rw [List.length_drop]; omega), List.getElem?_drop, Nat.add_comm]
  · rw [if_neg h, List.getElem?_append_right (by rw [List.length_drop]; omega), List.length_drop, List.getElem?_take, if_pos (by omega), show k - (l.length - n) = k + n - l.length by omega]
theorem sg_lt {n m k : Nat} (hn : n ≤ m) (hk : k < m) : sg n m k < m := by unfold sg; split <;> omega
theorem tu_lt {n m j : Nat} (hn : n ≤ m) (hj : j < m) : tu n m j < m := by unfold tu; split <;> omega
theorem sg_tu {n m j : Nat} (hn : n ≤ m) (hj : j < m) : sg n m (tu n m j) = j := by unfold sg tu; split <;> split <;> omega
theorem sg_eq {n m j k : Nat} (hn : n ≤ m) (hj : j < m) (hk : k < m) : sg n m k = j ↔ k = tu n m j := by unfold sg tu; split <;> split <;> omega
theorem rot_rot {α : Type} {n : Nat} {l : List α} (hn : n ≤ l.length) : rotL (l.length - n) (rotL n l) = l := by
  unfold rotL
  rw [List.drop_append, List.take_append, List.length_drop, List.drop_drop, Nat.sub_self, List.drop_zero, List.take_zero, List.append_nil, show n + (l.length - n) = l.length by omega, List.drop_length, List.nil_append, List.take_of_length_le (l := l.drop n) (i := l.length - n) (by rw [List.length_drop]; exact Nat.le_refl _), List.take_append_drop]
def rotP (n : Nat) (p : WkD) : WkD := (p.1, rotL n p.2.1, p.2.2)
def rotS (n : Nat) (s : StD) : StD := (s.1, rotL n s.2)
def rotE (n : Nat) (e : EnD) : EnD := (e.1, rotL n e.2.1, rotL n e.2.2)
theorem th_rot {n : Nat} {s : StD} (hn : n ≤ s.2.length) {k : Nat} (hk : k < s.2.length) : thAt (rotS n s) k = thAt s (sg n s.2.length k : Nat) := by
  unfold thAt rotS
  rw [Int.toNat_natCast, Int.toNat_natCast, rotL_at hn hk]
theorem list_rot {n : Nat} {p : WkD} {b : Bool} (hn : n ≤ p.2.1.length) {k : Nat} (hk : k < p.2.1.length) : listAt (rotP n p, b) k = listAt (p, b) (sg n p.2.1.length k : Nat) := by
  unfold listAt rotP
  rw [Int.toNat_natCast, Int.toNat_natCast, rotL_at hn hk]
theorem can_rot {n : Nat} {p : WkD} {b : Bool} {s : StD} (hl : s.2.length = p.2.1.length) (hn : n ≤ p.2.1.length) {k : Nat} (hk : k < s.2.length) : canF (rotP n p, b) (rotS n s) k = canF (p, b) s (sg n s.2.length k : Nat) := by
  unfold canF
  rw [th_rot (by omega) hk, list_rot hn (by omega), ← hl]; rfl
theorem set_rot {n j : Nat} {w : List Int} {ts : List ThD} (hn : n ≤ ts.length) (hj : j < ts.length) (t : ThD) : (w, (rotL n ts).set (tu n ts.length j) t) = rotS n (w, ts.set j t) := by
  refine state_ext rfl (by show ((rotL n ts).set _ _).length = (rotL n _).length; rw [List.length_set, rotL_len, rotL_len, List.length_set]) fun k hk => ?_
  have hk' : k < ts.length := by
    have : k < ((rotL n ts).set (tu n ts.length j) t).length := hk
    rwa [List.length_set, rotL_len] at this
  have h1 := thAt_set (ws := w) (ts := rotL n ts) (t := t) (k := tu n ts.length j) (j := k) (by rw [rotL_len]; exact tu_lt hn hj)
  rw [h1, th_rot (s := (w, ts.set j t)) (by rw [List.length_set]; exact hn) (by rw [List.length_set]; exact hk')]
  have e : (w, ts.set j t).2.length = ts.length := List.length_set ..
  rw [e, thAt_set hj]
  have hiff := sg_eq (k := k) hn hj hk'
  by_cases h : sg n ts.length k = j
  · rw [if_pos (by rw [hiff.1 h]), if_pos (by rw [h])]
  · rw [if_neg (fun h' => h (hiff.2 (by omega))), if_neg (by omega)]
    exact th_rot (s := (w, ts)) hn hk'
theorem move_rot {n : Nat} {p : WkD} {b : Bool} {s : StD} (hl : s.2.length = p.2.1.length) (hn : n ≤ p.2.1.length) {v : MvD} (hv : v ∈ movesF (p, b) s) :
    ∃ v', v' ∈ movesF (rotP n p, b) (rotS n s) ∧ doF (rotP n p, b) (rotS n s) v' = rotS n (doF (p, b) s v) := by
  obtain ⟨j, hj, h1, h2⟩ := mem_moves.1 hv
  obtain ⟨v1, v2⟩ := v
  have h1 : v1 = (j : Int) := h1
  subst h1
  have hn' : n ≤ s.2.length := by omega
  have ht := tu_lt hn' hj
  have hst := sg_tu hn' hj
  have eth : thAt (rotS n s) (tu n s.2.length j : Nat) = thAt s j := by rw [th_rot hn' ht, hst]
  have els : listAt (rotP n p, b) (tu n s.2.length j : Nat) = listAt (p, b) j := by rw [list_rot hn (by omega), ← hl, hst]
  refine ⟨((tu n s.2.length j : Nat), v2), mem_moves.2 ⟨_, by show _ < (rotL n s.2).length; rw [rotL_len]; exact ht, rfl, ?_⟩, ?_⟩
  · rcases h2 with ⟨g1, g2⟩ | ⟨g1, g2⟩
    · exact .inl ⟨g1, by rw [can_rot hl hn ht, hst]; exact g2⟩
    · exact .inr ⟨g1, by rw [eth]; exact g2⟩
  · cases v2 with
    | true => rw [do_true, do_true, eth]; exact set_rot hn' hj _
    | false =>
      rw [do_false, do_false, eth, els]
      show (match stepF b (rotS n s) (thAt s j) (insIn (listAt (p, b) j) (thAt s j).1) with | some x => _ | none => _) = rotS n (match stepF b s (thAt s j) (insIn (listAt (p, b) j) (thAt s j).1) with | some x => _ | none => _)
      rw [show stepF b (rotS n s) (thAt s j) (insIn (listAt (p, b) j) (thAt s j).1) = stepF b s (thAt s j) (insIn (listAt (p, b) j) (thAt s j).1) from rfl]
      cases stepF b s (thAt s j) (insIn (listAt (p, b) j) (thAt s j).1) with
      | some x => exact set_rot hn' hj _
      | none => exact set_rot hn' hj _
theorem first_rot {n : Nat} {p : WkD} (hn : n ≤ p.2.1.length) : firstF (rotP n p) = rotS n (firstF p) := by
  unfold firstF rotP rotS
  rw [rotL_len]
  refine Prod.ext rfl ?_
  show List.replicate _ _ = rotL n (List.replicate _ _)
  unfold rotL
  rw [List.drop_replicate, List.take_replicate, List.replicate_append_replicate]
  congr 1; omega
theorem reach_rot {n : Nat} {p : WkD} {b : Bool} (hp : OkP p) (hn : n ≤ p.2.1.length) {d : Nat} {s : StD} (h : Reach (p, b) d s) : Reach (rotP n p, b) d (rotS n s) := by
  induction h with
  | zero =>
    show Reach (rotP n p, b) 0 (rotS n (firstF p))
    rw [← first_rot hn]; exact .zero
  | @step d s v h hv ih =>
    obtain ⟨v', h1, h2⟩ := move_rot (ok_reach hp h).tl hn hv
    rw [← h2]; exact .step ih h1
theorem endsR {n : Nat} {s : StD} {α : Type} (hn : n ≤ s.2.length) (f g : Nat → α) (h : ∀ k, k < s.2.length → g k = f (sg n s.2.length k)) : (List.range (rotL n s.2).length).map g = rotL n ((List.range s.2.length).map f) := by
  refine List.ext_getElem? fun k => ?_
  rcases Nat.lt_or_ge k s.2.length with hk | hk
  · rw [rotL_at (by simpa using hn) (by simpa using hk), List.length_map, List.length_range, List.getElem?_map, List.getElem?_map, List.getElem?_range (by rw [rotL_len]; exact hk), List.getElem?_range (sg_lt hn hk)]
    simp only [Option.map_some]
    rw [h k hk]
  · rw [List.getElem?_eq_none (by rw [List.length_map, List.length_range, rotL_len]; exact hk), List.getElem?_eq_none (by rw [rotL_len, List.length_map, List.length_range]; exact hk)]
theorem end_rot {n : Nat} {p : WkD} {b : Bool} {s : StD} (hl : s.2.length = p.2.1.length) (hn : n ≤ p.2.1.length) : endOfF (rotP n p, b) (rotS n s) = rotE n (endOfF (p, b) s) := by
  have hn' : n ≤ s.2.length := by omega
  unfold endOfF endThs rotE
  refine Prod.ext rfl (Prod.ext ?_ ?_)
  · exact endsR hn' _ _ fun k hk => by rw [th_rot hn' hk]
  · exact endsR hn' _ _ fun k hk => by rw [th_rot hn' hk, list_rot hn (by omega), ← hl]
theorem ends_rot {n : Nat} {p : WkD} {b : Bool} (hp : OkP p) (hn : n ≤ p.2.1.length) {e : EnD} (h : EndsAt (p, b) e) : EndsAt (rotP n p, b) (rotE n e) := by
  obtain ⟨d, s, h1, h2, rfl⟩ := h
  have hl := (ok_reach hp h1).tl
  refine ⟨d, rotS n s, reach_rot hp hn h1, ended_iff.2 (ended_of fun k hk => ?_), end_rot hl hn⟩
  have hk' : k < s.2.length := by
    have : k < (rotL n s.2).length := hk
    rwa [rotL_len] at this
  obtain ⟨g1, g2⟩ := no_kept (ended_iff.1 h2) (sg_lt (show n ≤ s.2.length by omega) hk')
  exact ⟨by rw [th_rot (by omega) hk']; exact g1, by rw [can_rot hl hn hk']; exact g2⟩
theorem rotL_inj {α : Type} {n : Nat} {l l' : List α} (hn : n ≤ l.length) (hl : l.length = l'.length) (h : rotL n l = rotL n l') : l = l' := by
  rw [← rot_rot hn, h, hl, rot_rot (by omega)]
theorem okP_rot {n : Nat} {p : WkD} (hp : OkP p) (hn : n ≤ p.2.1.length) : OkP (rotP n p) where
  w64 := hp.w64
  t4 := by show (rotL n p.2.1).length ≤ 4; rw [rotL_len]; exact hp.t4
  w0 := hp.w0
  t0 := by show 0 < (rotL n p.2.1).length; rw [rotL_len]; exact hp.t0
  room := hp.room
  nums := hp.nums
  list := fun l hl => by
    have hl : l ∈ p.2.1.drop n ++ p.2.1.take n := hl
    rcases List.mem_append.1 hl with h | h
    · exact hp.list l (List.mem_of_mem_drop h)
    · exact hp.list l (List.mem_of_mem_take h)
theorem few_rot {n : Nat} {p : WkD} {b : Bool} (hp : OkP p) (hn : n ≤ p.2.1.length) (h : (allF (rotP n p, b)).2 = 0) : (allF (p, b)).2 = 0 :=
  few_of (rotS n) (fun s d hr => ⟨d, reach_rot hp hn hr⟩) (fun s s' d d' h1 h2 e => by
    have l1 := (ok_reach hp h1).tl
    have l2 := (ok_reach hp h2).tl
    unfold rotS at e
    injection e with e1 e2
    exact Prod.ext e1 (rotL_inj (by omega) (by omega) e2)) h
theorem rotP_back {n : Nat} {p : WkD} (hn : n ≤ p.2.1.length) : rotP (p.2.1.length - n) (rotP n p) = p := by
  unfold rotP; simp only [rot_rot hn]
theorem few_rot_iff {n : Nat} {p : WkD} {b : Bool} (hp : OkP p) (hn : n ≤ p.2.1.length) : (allF (rotP n p, b)).2 = 0 ↔ (allF (p, b)).2 = 0 := by
  constructor
  · exact few_rot hp hn
  · intro h
    refine few_rot (n := p.2.1.length - n) (okP_rot hp hn) (by show _ ≤ (rotL n p.2.1).length; rw [rotL_len]; omega) ?_
    rw [rotP_back hn]; exact h
theorem end_len {p : WkD} {b : Bool} (hp : OkP p) {e : EnD} (h : EndsAt (p, b) e) : e.2.1.length = p.2.1.length ∧ e.2.2.length = p.2.1.length := by
  obtain ⟨d, s, h1, _, rfl⟩ := h
  have hl := (ok_reach hp h1).tl
  constructor
  · show ((List.range s.2.length).map _).length = _; rw [List.length_map, List.length_range, hl]
  · show ((List.range s.2.length).map _).length = _; rw [List.length_map, List.length_range, hl]
theorem rotE_inj {n : Nat} {e e' : EnD} (h1 : n ≤ e.2.1.length) (h2 : n ≤ e.2.2.length) (h3 : e.2.1.length = e'.2.1.length) (h4 : e.2.2.length = e'.2.2.length) (h : rotE n e = rotE n e') : e = e' := by
  unfold rotE at h
  injection h with a1 a2
  injection a2 with a2 a3
  exact Prod.ext a1 (Prod.ext (rotL_inj h1 h3 a2) (rotL_inj h2 h4 a3))
theorem len_rot_le {n : Nat} {p : WkD} (hp : OkP p) (hn : n ≤ p.2.1.length) (h : (endsM (p, false)).2.2 = 0) (h' : (endsM (rotP n p, false)).2.2 = 0) : (endsM (p, false)).1.length ≤ (endsM (rotP n p, false)).1.length := by
  have hnd : ((endsM (p, false)).1.map (rotE n)).Nodup := by
    rw [List.nodup_iff_pairwise_ne, List.pairwise_map]
    refine List.Pairwise.imp_of_mem ?_ (List.nodup_iff_pairwise_ne.1 (endsM_len h))
    intro a c ha hc hac e
    have la := end_len hp ((endsM_mem h a).1 ha)
    have lc := end_len hp ((endsM_mem h c).1 hc)
    exact hac (rotE_inj (by omega) (by omega) (by omega) (by omega) e)
  have := nodup_len _ (endsM (rotP n p, false)).1 hnd fun x hx => by
    obtain ⟨y, hy, rfl⟩ := List.mem_map.1 hx
    exact (endsM_mem h' _).2 (ends_rot hp hn ((endsM_mem h y).1 hy))
  rwa [List.length_map] at this
theorem len_rot {n : Nat} {p : WkD} (hp : OkP p) (hn : n ≤ p.2.1.length) (h : (endsM (p, false)).2.2 = 0) (h' : (endsM (rotP n p, false)).2.2 = 0) : (endsM (p, false)).1.length = (endsM (rotP n p, false)).1.length := by
  refine Nat.le_antisymm (len_rot_le hp hn h h') ?_
  have := len_rot_le (n := p.2.1.length - n) (okP_rot hp hn) (by show _ ≤ (rotL n p.2.1).length; rw [rotL_len]; omega) h' (by rw [rotP_back hn]; exact h)
  rwa [rotP_back hn] at this
theorem endsM_fail {m : McD} (h : (endsM m).2.2 ≠ 0) : (endsM m).1 = [] := by
  unfold endsM endsG at h ⊢
  split
  · rfl
  · split
    · rfl
    · rename_i h1 h2; rw [if_neg h1, if_neg h2] at h; exact absurd rfl h
end Go.Proofs.Tryz
set_option autoImplicit false
set_option linter.all false
namespace Go.Proofs.Tryz
open Go Go.VM
set_option maxRecDepth 100000
def S32 (H : LwF) : VM.Spec := ⟨[Wk], [.bool], fun x => H.pR x.1, fun x => (H.right x.1, ())⟩
def S33 (H : LwF) : VM.Spec := ⟨[Wk], [.sl En, .bool], fun x => H.pL x.1, fun x => ((H.list x.1).1, (H.list x.1).2, ())⟩
noncomputable def oH (G : AwF) (H : LwF) : List (Nat × FT) := [(18, .spec (S18 G)), (32, .spec (S32 H)), (33, .spec (S33 H))]
def LWU : VM.Spec := ⟨[Wk, U8], [.bool], fun x => bwTF x.1 ∧ 0 ≤ x.2.1 ∧ x.2.1 < 256, fun _ => (true, ())⟩
def n32 (L : Lv) (F : BxF) (G : AwF) (H : LwF) (p : WkD)  : VC :=
 let z1 := (Prod.fst p, Prod.fst (Prod.snd p), Prod.snd (Prod.snd p));
 let z2 := (LwF.right H p, ()); VC.obl (BxF.bwT F z1) (VC.br (BxF.thin F z1) (VC.obl (BxF.bw F z1) (VC.br (Lv.cmp L BinOp.eql (BxF.check F z1) 0) (VC.ok ((true, ()) = z2)) (VC.ok
   ((false, ()) = z2)))) (VC.ok ((false, ()) = z2)))
theorem n32_eq (L : Lv) (F : BxF) (G : AwF) (H : LwF) (p : WkD) : vcO L F [] [17, 22] 3 (D32 a0) (S32 H) (p, ()) = n32 L F G H p := by kernel_rfl
theorem n32_go (L : Lv) (F : BxF) (G : AwF) (H : LwF) (p : WkD) (h : VC.holds (n32 L F G H p)) : Holds (vcO L F [] [17, 22] 3 (D32 a0) (S32 H) (p, ())) := Holds.of_eq (n32_eq L F G H p) h
def n33 (L : Lv) (F : BxF) (G : AwF) (H : LwF) (p : WkD)  : VC :=
 let z1 := (Prod.fst p, Prod.fst (Prod.snd p), Prod.snd (Prod.snd p));
 let z2 := BxF.bw F z1;
 let z3 := (BxF.ends F (z1, false));
 let z4 := (Prod.fst (LwF.list H p), Prod.snd (LwF.list H p), ()); VC.obl z2 (VC.obl z2 (VC.br (Lv.cmp L BinOp.eql (Prod.snd (Prod.snd z3)) 0) (VC.ok ((Prod.fst z3, true, ()) = z4))
   (VC.ok ((Prod.fst z3, false, ()) = z4))))
theorem n33_eq (L : Lv) (F : BxF) (G : AwF) (H : LwF) (p : WkD) : vcO L F [] [19, 20] 3 (D33 a0) (S33 H) (p, ()) = n33 L F G H p := by kernel_rfl
theorem n33_go (L : Lv) (F : BxF) (G : AwF) (H : LwF) (p : WkD) (h : VC.holds (n33 L F G H p)) : Holds (vcO L F [] [19, 20] 3 (D33 a0) (S33 H) (p, ())) := Holds.of_eq (n33_eq L F G H p) h
def n9 (L : Lv) (F : BxF) (G : AwF) (H : LwF) (I : Ds [It] → Prop) (mu : Ds [It] → Nat) (p : WkD) (by' : Int)  : VC :=
 let z1 := Prod.snd p;
 let z2 := (Prod.fst p, Prod.fst z1, Prod.snd z1);
 let z3 := Prod.fst z1;
 let z4 := Lv.llen L (Ty.sl In) z3;
 let z5 := Lv.cast L z4;
 let z6 := Lv.dv L BinOp.rem IntKind.i64 (Lv.conv L IntKind.i64 by') z5;
 let z7 := Lv.take L (Ty.sl In) [] 0;
 let z8 := Lv.toN L z6;
 let z9 := Lv.drop L (Ty.sl In) (Lv.take L (Ty.sl In) z3 (Lv.toN L z5)) z8;
 let z10 := Lv.add L (Lv.llen L (Ty.sl In) z7) (Lv.llen L (Ty.sl In) z9);
 let z11 := Lv.cast L 0;
 let z12 := Lv.take L (Ty.sl In) (Lv.app L (Ty.sl In) z7 z9) z10;
 let z13 := Lv.toN L z11;
 let z14 := Lv.drop L (Ty.sl In) (Lv.take L (Ty.sl In) z3 z8) z13;
 let z15 := Lv.add L (Lv.llen L (Ty.sl In) z12) (Lv.llen L (Ty.sl In) z14);
 let z16 := LwF.list H z2;
 let z17 := (Prod.fst p, Lv.take L (Ty.sl In) (Lv.app L (Ty.sl In) z12 z14) z15, Prod.snd z1);
 let z18 := LwF.pL H z17;
 let z19 := LwF.list H z17;
 let z20 := Prod.snd z19;
 let z21 := Prod.fst z16;
 let z22 := Lv.llen L En z21;
 let z23 := Lv.cast L z22;
 let z24 := Prod.fst z19;
 let z25 := Lv.cmp L BinOp.neq z23 (Lv.cast L (Lv.llen L En z24));
 let z26 := Prod.fst p;
 let z27 := Prod.snd z1;
 let z28 := Int × Unit;
 let z29 := Ty.int IntKind.u8;
 let z30 := Lv.take L (Ty.sl It) [] 0;
 let z31 := Lv.llen L (Ty.sl It) z30;
 let z32 := Lv.take L z29 [] 0;
 let z33 := Lv.llen L z29 z32; VC.obl (LwF.pR H z2) (VC.br (LwF.right H z2) (VC.obl (Lv.ne0 L z5) (VC.obl (BxF.bw F z2) (VC.obl (Lv.le3 L z6 z5 z4) (VC.obl (Lv.room L z10 24)
   (VC.obl (Lv.le3 L z11 z6 z4) (VC.obl (Lv.room L z15 24) (VC.obl (LwF.pL H z2) (VC.br (Prod.snd z16) (VC.obl z18 (VC.br z20 (VC.br (Lv.bnot L (Lv.beq L true true)) (VC.ok ((false,
   ()) = (true, ()))) (VC.br z25 (VC.ok ((false, ()) = (true, ()))) (VC.obl (St.mk 110 [(5, V.c (C.int IntKind.i64 z5)), (6, V.c (C.int IntKind.i64 z6)), (8, V.c (C.sl En z21)),
   (10, V.c (C.sl En z24)), (12, V.c (C.int IntKind.i64 0))] [(0, Ob.amb), (1, Ob.box 25 [C.sl It z26, C.sl (Ty.sl In) z3, C.int IntKind.i64 z27]), (2, Ob.box 25 [C.sl It z26, C.own
   5 z15, C.int IntKind.i64 z27])] 6 = St.mk 110 [(5, V.c (C.int IntKind.i64 z5)), (6, V.c (C.int IntKind.i64 z6)), (8, V.c (C.sl En z21)), (10, V.c (C.sl En z24)), (12, V.c (C.int
   IntKind.i64 0))] [(0, Ob.amb), (1, Ob.box 25 [C.sl It z26, C.sl (Ty.sl In) z3, C.int IntKind.i64 z27]), (2, Ob.box 25 [C.sl It z26, C.own 5 z15, C.int IntKind.i64 z27])] 6)
   (VC.obl (I (0, ())) (VC.all z28 fun (v1 : Int × Unit) =>
 let z34 := Prod.fst v1;
 let z35 := Lv.get L En z21 (Lv.toN L z34);
 let z36 := Prod.snd z35;
 let z37 := Prod.fst z36;
 let z38 := Lv.llen L (Ty.sl It) z37;
 let z39 := Lv.cast L z38;
 let z40 := Prod.snd z36;
 let z41 := Lv.llen L z29 z40;
 let z42 := Lv.cast L z41;
 let z43 := Lv.drop L (Ty.sl It) (Lv.take L (Ty.sl It) z37 (Lv.toN L z39)) z8;
 let z44 := Lv.add L z31 (Lv.llen L (Ty.sl It) z43);
 let z45 := Lv.take L (Ty.sl It) (Lv.app L (Ty.sl It) z30 z43) z44;
 let z46 := Lv.drop L (Ty.sl It) (Lv.take L (Ty.sl It) z37 z8) z13;
 let z47 := Lv.add L (Lv.llen L (Ty.sl It) z45) (Lv.llen L (Ty.sl It) z46);
 let z48 := Lv.drop L z29 (Lv.take L z29 z40 (Lv.toN L z42)) z8;
 let z49 := Lv.add L z33 (Lv.llen L z29 z48);
 let z50 := Lv.take L z29 (Lv.app L z29 z32 z48) z49;
 let z51 := Lv.drop L z29 (Lv.take L z29 z40 z8) z13;
 let z52 := Lv.add L (Lv.llen L z29 z50) (Lv.llen L z29 z51);
 let z53 := (Prod.fst z35, Lv.take L (Ty.sl It) (Lv.app L (Ty.sl It) z45 z46) z47, Lv.take L z29 (Lv.app L z29 z50 z51) z52);
 let z54 := Lv.ar L BinOp.add IntKind.i64 z34 1;
 let z55 := (Lv.ar L BinOp.add IntKind.i64 z34 1, ()); VC.imp (I v1) (VC.br (Lv.cmp L BinOp.lss z34 z23) (VC.obl (Lv.inR L z34 z22) (VC.br (Lv.cmp L BinOp.neq z39 z5) (VC.ok
   ((false, ()) = (true, ()))) (VC.br (Lv.cmp L BinOp.neq z42 z5) (VC.ok ((false, ()) = (true, ()))) (VC.obl (Lv.le3 L z6 z39 z38) (VC.obl (Lv.room L z44 24) (VC.obl (Lv.le3 L z11
   z6 z38) (VC.obl (Lv.room L z47 24) (VC.obl (Lv.le3 L z6 z42 z41) (VC.obl (Lv.room L z49 1) (VC.obl (Lv.le3 L z11 z6 z41) (VC.obl (Lv.room L z52 1) (VC.obl (BxF.ble F z24 ∧ BxF.be
   F z53) (VC.br (BxF.isIn F z24 z53) (VC.ok (St.mk 110 [(5, V.c (C.int IntKind.i64 z5)), (6, V.c (C.int IntKind.i64 z6)), (8, V.c (C.sl En z21)), (10, V.c (C.sl En z24)), (12, V.c
   (C.int IntKind.i64 z54))] [(0, Ob.amb), (1, Ob.box 25 [C.sl It z26, C.sl (Ty.sl In) z3, C.int IntKind.i64 z27]), (2, Ob.box 25 [C.sl It z26, C.own 5 z15, C.int IntKind.i64 z27])]
   6 = St.mk 110 [(5, V.c (C.int IntKind.i64 z5)), (6, V.c (C.int IntKind.i64 z6)), (8, V.c (C.sl En z21)), (10, V.c (C.sl En z24)), (12, V.c (C.int IntKind.i64 z54))] [(0, Ob.amb),
   (1, Ob.box 25 [C.sl It z26, C.sl (Ty.sl In) z3, C.int IntKind.i64 z27]), (2, Ob.box 25 [C.sl It z26, C.own 5 z15, C.int IntKind.i64 z27])] 6 ∧ I z55 ∧ mu z55 < mu v1)) (VC.ok
   ((false, ()) = (true, ())))))))))))))))) (VC.obl True (VC.br (AwF.aw G) (VC.ok ((true, ()) = (true, ()))) (VC.ok ((false, ()) = (true, ()))))))))))) (VC.br (Lv.bnot L (Lv.beq L
   true false)) (VC.ok ((false, ()) = (true, ()))) (VC.br z25 (VC.ok ((false, ()) = (true, ()))) (VC.obl (St.mk 110 [(5, V.c (C.int IntKind.i64 z5)), (6, V.c (C.int IntKind.i64
   z6)), (8, V.c (C.sl En z21)), (10, V.c (C.sl En z24)), (12, V.c (C.int IntKind.i64 0))] [(0, Ob.amb), (1, Ob.box 25 [C.sl It z26, C.sl (Ty.sl In) z3, C.int IntKind.i64 z27]), (2,
   Ob.box 25 [C.sl It z26, C.own 5 z15, C.int IntKind.i64 z27])] 6 = St.mk 110 [(5, V.c (C.int IntKind.i64 z5)), (6, V.c (C.int IntKind.i64 z6)), (8, V.c (C.sl En z21)), (10, V.c
   (C.sl En z24)), (12, V.c (C.int IntKind.i64 0))] [(0, Ob.amb), (1, Ob.box 25 [C.sl It z26, C.sl (Ty.sl In) z3, C.int IntKind.i64 z27]), (2, Ob.box 25 [C.sl It z26, C.own 5 z15,
   C.int IntKind.i64 z27])] 6) (VC.obl (I (0, ())) (VC.all z28 fun (v2 : Int × Unit) =>
 let z56 := Prod.fst v2;
 let z57 := Lv.get L En z21 (Lv.toN L z56);
 let z58 := Prod.snd z57;
 let z59 := Prod.fst z58;
 let z60 := Lv.llen L (Ty.sl It) z59;
 let z61 := Lv.cast L z60;
 let z62 := Prod.snd z58;
 let z63 := Lv.llen L z29 z62;
 let z64 := Lv.cast L z63;
 let z65 := Lv.drop L (Ty.sl It) (Lv.take L (Ty.sl It) z59 (Lv.toN L z61)) z8;
 let z66 := Lv.add L z31 (Lv.llen L (Ty.sl It) z65);
 let z67 := Lv.take L (Ty.sl It) (Lv.app L (Ty.sl It) z30 z65) z66;
 let z68 := Lv.drop L (Ty.sl It) (Lv.take L (Ty.sl It) z59 z8) z13;
 let z69 := Lv.add L (Lv.llen L (Ty.sl It) z67) (Lv.llen L (Ty.sl It) z68);
 let z70 := Lv.drop L z29 (Lv.take L z29 z62 (Lv.toN L z64)) z8;
 let z71 := Lv.add L z33 (Lv.llen L z29 z70);
 let z72 := Lv.take L z29 (Lv.app L z29 z32 z70) z71;
 let z73 := Lv.drop L z29 (Lv.take L z29 z62 z8) z13;
 let z74 := Lv.add L (Lv.llen L z29 z72) (Lv.llen L z29 z73);
 let z75 := (Prod.fst z57, Lv.take L (Ty.sl It) (Lv.app L (Ty.sl It) z67 z68) z69, Lv.take L z29 (Lv.app L z29 z72 z73) z74);
 let z76 := Lv.ar L BinOp.add IntKind.i64 z56 1;
 let z77 := (Lv.ar L BinOp.add IntKind.i64 z56 1, ()); VC.imp (I v2) (VC.br (Lv.cmp L BinOp.lss z56 z23) (VC.obl (Lv.inR L z56 z22) (VC.br (Lv.cmp L BinOp.neq z61 z5) (VC.ok
   ((false, ()) = (true, ()))) (VC.br (Lv.cmp L BinOp.neq z64 z5) (VC.ok ((false, ()) = (true, ()))) (VC.obl (Lv.le3 L z6 z61 z60) (VC.obl (Lv.room L z66 24) (VC.obl (Lv.le3 L z11
   z6 z60) (VC.obl (Lv.room L z69 24) (VC.obl (Lv.le3 L z6 z64 z63) (VC.obl (Lv.room L z71 1) (VC.obl (Lv.le3 L z11 z6 z63) (VC.obl (Lv.room L z74 1) (VC.obl (BxF.ble F z24 ∧ BxF.be
   F z75) (VC.br (BxF.isIn F z24 z75) (VC.ok (St.mk 110 [(5, V.c (C.int IntKind.i64 z5)), (6, V.c (C.int IntKind.i64 z6)), (8, V.c (C.sl En z21)), (10, V.c (C.sl En z24)), (12, V.c
   (C.int IntKind.i64 z76))] [(0, Ob.amb), (1, Ob.box 25 [C.sl It z26, C.sl (Ty.sl In) z3, C.int IntKind.i64 z27]), (2, Ob.box 25 [C.sl It z26, C.own 5 z15, C.int IntKind.i64 z27])]
   6 = St.mk 110 [(5, V.c (C.int IntKind.i64 z5)), (6, V.c (C.int IntKind.i64 z6)), (8, V.c (C.sl En z21)), (10, V.c (C.sl En z24)), (12, V.c (C.int IntKind.i64 z76))] [(0, Ob.amb),
   (1, Ob.box 25 [C.sl It z26, C.sl (Ty.sl In) z3, C.int IntKind.i64 z27]), (2, Ob.box 25 [C.sl It z26, C.own 5 z15, C.int IntKind.i64 z27])] 6 ∧ I z77 ∧ mu z77 < mu v2)) (VC.ok
   ((false, ()) = (true, ())))))))))))))))) (VC.obl True (VC.br (AwF.aw G) (VC.ok ((true, ()) = (true, ()))) (VC.ok ((false, ()) = (true, ()))))))))))))) (VC.obl z18 (VC.br z20
   (VC.br (Lv.bnot L (Lv.beq L false true)) (VC.ok ((false, ()) = (true, ()))) (VC.br z25 (VC.ok ((false, ()) = (true, ()))) (VC.obl (St.mk 110 [(5, V.c (C.int IntKind.i64 z5)), (6,
   V.c (C.int IntKind.i64 z6)), (8, V.c (C.sl En z21)), (10, V.c (C.sl En z24)), (12, V.c (C.int IntKind.i64 0))] [(0, Ob.amb), (1, Ob.box 25 [C.sl It z26, C.sl (Ty.sl In) z3, C.int
   IntKind.i64 z27]), (2, Ob.box 25 [C.sl It z26, C.own 5 z15, C.int IntKind.i64 z27])] 6 = St.mk 110 [(5, V.c (C.int IntKind.i64 z5)), (6, V.c (C.int IntKind.i64 z6)), (8, V.c
   (C.sl En z21)), (10, V.c (C.sl En z24)), (12, V.c (C.int IntKind.i64 0))] [(0, Ob.amb), (1, Ob.box 25 [C.sl It z26, C.sl (Ty.sl In) z3, C.int IntKind.i64 z27]), (2, Ob.box 25
   [C.sl It z26, C.own 5 z15, C.int IntKind.i64 z27])] 6) (VC.obl (I (0, ())) (VC.all z28 fun (v3 : Int × Unit) =>
 let z78 := Prod.fst v3;
 let z79 := Lv.get L En z21 (Lv.toN L z78);
 let z80 := Prod.snd z79;
 let z81 := Prod.fst z80;
 let z82 := Lv.llen L (Ty.sl It) z81;
 let z83 := Lv.cast L z82;
 let z84 := Prod.snd z80;
 let z85 := Lv.llen L z29 z84;
 let z86 := Lv.cast L z85;
 let z87 := Lv.drop L (Ty.sl It) (Lv.take L (Ty.sl It) z81 (Lv.toN L z83)) z8;
 let z88 := Lv.add L z31 (Lv.llen L (Ty.sl It) z87);
 let z89 := Lv.take L (Ty.sl It) (Lv.app L (Ty.sl It) z30 z87) z88;
 let z90 := Lv.drop L (Ty.sl It) (Lv.take L (Ty.sl It) z81 z8) z13;
 let z91 := Lv.add L (Lv.llen L (Ty.sl It) z89) (Lv.llen L (Ty.sl It) z90);
 let z92 := Lv.drop L z29 (Lv.take L z29 z84 (Lv.toN L z86)) z8;
 let z93 := Lv.add L z33 (Lv.llen L z29 z92);
 let z94 := Lv.take L z29 (Lv.app L z29 z32 z92) z93;
 let z95 := Lv.drop L z29 (Lv.take L z29 z84 z8) z13;
 let z96 := Lv.add L (Lv.llen L z29 z94) (Lv.llen L z29 z95);
 let z97 := (Prod.fst z79, Lv.take L (Ty.sl It) (Lv.app L (Ty.sl It) z89 z90) z91, Lv.take L z29 (Lv.app L z29 z94 z95) z96);
 let z98 := Lv.ar L BinOp.add IntKind.i64 z78 1;
 let z99 := (Lv.ar L BinOp.add IntKind.i64 z78 1, ()); VC.imp (I v3) (VC.br (Lv.cmp L BinOp.lss z78 z23) (VC.obl (Lv.inR L z78 z22) (VC.br (Lv.cmp L BinOp.neq z83 z5) (VC.ok
   ((false, ()) = (true, ()))) (VC.br (Lv.cmp L BinOp.neq z86 z5) (VC.ok ((false, ()) = (true, ()))) (VC.obl (Lv.le3 L z6 z83 z82) (VC.obl (Lv.room L z88 24) (VC.obl (Lv.le3 L z11
   z6 z82) (VC.obl (Lv.room L z91 24) (VC.obl (Lv.le3 L z6 z86 z85) (VC.obl (Lv.room L z93 1) (VC.obl (Lv.le3 L z11 z6 z85) (VC.obl (Lv.room L z96 1) (VC.obl (BxF.ble F z24 ∧ BxF.be
   F z97) (VC.br (BxF.isIn F z24 z97) (VC.ok (St.mk 110 [(5, V.c (C.int IntKind.i64 z5)), (6, V.c (C.int IntKind.i64 z6)), (8, V.c (C.sl En z21)), (10, V.c (C.sl En z24)), (12, V.c
   (C.int IntKind.i64 z98))] [(0, Ob.amb), (1, Ob.box 25 [C.sl It z26, C.sl (Ty.sl In) z3, C.int IntKind.i64 z27]), (2, Ob.box 25 [C.sl It z26, C.own 5 z15, C.int IntKind.i64 z27])]
   6 = St.mk 110 [(5, V.c (C.int IntKind.i64 z5)), (6, V.c (C.int IntKind.i64 z6)), (8, V.c (C.sl En z21)), (10, V.c (C.sl En z24)), (12, V.c (C.int IntKind.i64 z98))] [(0, Ob.amb),
   (1, Ob.box 25 [C.sl It z26, C.sl (Ty.sl In) z3, C.int IntKind.i64 z27]), (2, Ob.box 25 [C.sl It z26, C.own 5 z15, C.int IntKind.i64 z27])] 6 ∧ I z99 ∧ mu z99 < mu v3)) (VC.ok
   ((false, ()) = (true, ())))))))))))))))) (VC.obl True (VC.br (AwF.aw G) (VC.ok ((true, ()) = (true, ()))) (VC.ok ((false, ()) = (true, ()))))))))))) (VC.br (Lv.bnot L (Lv.beq L
   false false)) (VC.ok ((false, ()) = (true, ()))) (VC.br z25 (VC.ok ((false, ()) = (true, ()))) (VC.obl (St.mk 110 [(5, V.c (C.int IntKind.i64 z5)), (6, V.c (C.int IntKind.i64
   z6)), (8, V.c (C.sl En z21)), (10, V.c (C.sl En z24)), (12, V.c (C.int IntKind.i64 0))] [(0, Ob.amb), (1, Ob.box 25 [C.sl It z26, C.sl (Ty.sl In) z3, C.int IntKind.i64 z27]), (2,
   Ob.box 25 [C.sl It z26, C.own 5 z15, C.int IntKind.i64 z27])] 6 = St.mk 110 [(5, V.c (C.int IntKind.i64 z5)), (6, V.c (C.int IntKind.i64 z6)), (8, V.c (C.sl En z21)), (10, V.c
   (C.sl En z24)), (12, V.c (C.int IntKind.i64 0))] [(0, Ob.amb), (1, Ob.box 25 [C.sl It z26, C.sl (Ty.sl In) z3, C.int IntKind.i64 z27]), (2, Ob.box 25 [C.sl It z26, C.own 5 z15,
   C.int IntKind.i64 z27])] 6) (VC.obl (I (0, ())) (VC.all z28 fun (v4 : Int × Unit) =>
 let z100 := Prod.fst v4;
 let z101 := Lv.get L En z21 (Lv.toN L z100);
 let z102 := Prod.snd z101;
 let z103 := Prod.fst z102;
 let z104 := Lv.llen L (Ty.sl It) z103;
 let z105 := Lv.cast L z104;
 let z106 := Prod.snd z102;
 let z107 := Lv.llen L z29 z106;
 let z108 := Lv.cast L z107;
 let z109 := Lv.drop L (Ty.sl It) (Lv.take L (Ty.sl It) z103 (Lv.toN L z105)) z8;
 let z110 := Lv.add L z31 (Lv.llen L (Ty.sl It) z109);
 let z111 := Lv.take L (Ty.sl It) (Lv.app L (Ty.sl It) z30 z109) z110;
 let z112 := Lv.drop L (Ty.sl It) (Lv.take L (Ty.sl It) z103 z8) z13;
 let z113 := Lv.add L (Lv.llen L (Ty.sl It) z111) (Lv.llen L (Ty.sl It) z112);
 let z114 := Lv.drop L z29 (Lv.take L z29 z106 (Lv.toN L z108)) z8;
 let z115 := Lv.add L z33 (Lv.llen L z29 z114);
 let z116 := Lv.take L z29 (Lv.app L z29 z32 z114) z115;
 let z117 := Lv.drop L z29 (Lv.take L z29 z106 z8) z13;
 let z118 := Lv.add L (Lv.llen L z29 z116) (Lv.llen L z29 z117);
 let z119 := (Prod.fst z101, Lv.take L (Ty.sl It) (Lv.app L (Ty.sl It) z111 z112) z113, Lv.take L z29 (Lv.app L z29 z116 z117) z118);
 let z120 := Lv.ar L BinOp.add IntKind.i64 z100 1;
 let z121 := (Lv.ar L BinOp.add IntKind.i64 z100 1, ()); VC.imp (I v4) (VC.br (Lv.cmp L BinOp.lss z100 z23) (VC.obl (Lv.inR L z100 z22) (VC.br (Lv.cmp L BinOp.neq z105 z5) (VC.ok
   ((false, ()) = (true, ()))) (VC.br (Lv.cmp L BinOp.neq z108 z5) (VC.ok ((false, ()) = (true, ()))) (VC.obl (Lv.le3 L z6 z105 z104) (VC.obl (Lv.room L z110 24) (VC.obl (Lv.le3 L
   z11 z6 z104) (VC.obl (Lv.room L z113 24) (VC.obl (Lv.le3 L z6 z108 z107) (VC.obl (Lv.room L z115 1) (VC.obl (Lv.le3 L z11 z6 z107) (VC.obl (Lv.room L z118 1) (VC.obl (BxF.ble F
   z24 ∧ BxF.be F z119) (VC.br (BxF.isIn F z24 z119) (VC.ok (St.mk 110 [(5, V.c (C.int IntKind.i64 z5)), (6, V.c (C.int IntKind.i64 z6)), (8, V.c (C.sl En z21)), (10, V.c (C.sl En
   z24)), (12, V.c (C.int IntKind.i64 z120))] [(0, Ob.amb), (1, Ob.box 25 [C.sl It z26, C.sl (Ty.sl In) z3, C.int IntKind.i64 z27]), (2, Ob.box 25 [C.sl It z26, C.own 5 z15, C.int
   IntKind.i64 z27])] 6 = St.mk 110 [(5, V.c (C.int IntKind.i64 z5)), (6, V.c (C.int IntKind.i64 z6)), (8, V.c (C.sl En z21)), (10, V.c (C.sl En z24)), (12, V.c (C.int IntKind.i64
   z120))] [(0, Ob.amb), (1, Ob.box 25 [C.sl It z26, C.sl (Ty.sl In) z3, C.int IntKind.i64 z27]), (2, Ob.box 25 [C.sl It z26, C.own 5 z15, C.int IntKind.i64 z27])] 6 ∧ I z121 ∧ mu
   z121 < mu v4)) (VC.ok ((false, ()) = (true, ())))))))))))))))) (VC.obl True (VC.br (AwF.aw G) (VC.ok ((true, ()) = (true, ()))) (VC.ok ((false, ()) = (true,
   ()))))))))))))))))))))) (VC.obl True (VC.br (AwF.aw G) (VC.ok ((true, ()) = (true, ()))) (VC.ok ((false, ()) = (true, ()))))))
theorem n9_eq (L : Lv) (F : BxF) (G : AwF) (H : LwF) (I : Ds [It] → Prop) (mu : Ds [It] → Nat) (p : WkD) (by' : Int) : vcO L F (oH G H) [18, 20, 32, 33, 34] 3 (D9 (a9 L I mu)) LWU (p, by', ()) = n9 L F G H I mu p by' := by kernel_rfl
theorem n9_go (L : Lv) (F : BxF) (G : AwF) (H : LwF) (I : Ds [It] → Prop) (mu : Ds [It] → Nat) (p : WkD) (by' : Int) (h : VC.holds (n9 L F G H I mu p by')) : Holds (vcO L F (oH G H) [18, 20, 32, 33, 34] 3 (D9 (a9 L I mu)) LWU (p, by', ())) := Holds.of_eq (n9_eq L F G H I mu p by') h
def rightF (p : WkD) : Bool := thinF p && decide (checkF p = 0)
noncomputable def listF (p : WkD) : List EnD × Bool := ((endsM (p, false)).1, decide ((endsM (p, false)).2.2 = 0))
theorem thin_bW {p : WkD} (h : thinF p = true) : bW p := by
  unfold thinF at h
  simp only [Bool.and_eq_true, Bool.not_eq_true', Bool.or_eq_false_iff, decide_eq_false_iff_not] at h
  obtain ⟨⟨⟨h1, _⟩, h2⟩, h3⟩ := h
  refine ⟨by omega, by omega, fun l hl => ?_⟩
  have := List.all_eq_true.1 h3 l hl
  unfold thinL at this
  simp only [Bool.not_eq_true', Bool.or_eq_false_iff, decide_eq_false_iff_not] at this
  omega
theorem ok32 (F : BxF) (G : AwF) (H : LwF) (h : H.right = rightF) (hp : H.pR = bwTF) (h1 : F.thin = thinF) (h2 : F.check = checkF) (q1 : F.bwT = bwTF) (q2 : F.bw = bW) (k1 : SpecOk prog 17 (S17 F)) (k2 : SpecOk prog 22 (S22 F)) : SpecOk prog 32 (S32 H) := by
  refine contract_by hm hE D32 fnok32 _ fun (z : WkD × Unit) hpre => ?_
  obtain ⟨p, ⟨⟩⟩ := z
  have hpre' : H.pR p := hpre
  rw [hp] at hpre'
  refine pack _ 3 a0 (only_tab (T := tabO [] (cT F)) (l := [17, 22]) (tb_cons (tb_sp k1 (by kernel_rfl)) (tb_cons (tb_sp k2 (by kernel_rfl)) tb_nil))) ?_
  refine n32_go Lv.std F G H p ?_
  simp only [n32, VC.holds, std_cmp, std_scmp, std_ar_add, std_ar_sub, std_ar_mul, std_ar, std_dv, std_shf, std_conv, std_mn, std_mx, std_beq, std_bnot, std_band, std_scat, std_byte, std_ext, std_slen, std_strOf, std_bytes, std_llen, std_get, std_setl, std_app, std_take, std_drop, std_rep, std_mhas, std_mval, std_mput, std_cast, std_toN, std_sub, std_add, std_inR, std_le3, std_leN, std_ltN, std_ne0, std_nonneg, std_catOk, std_room, std_mkOk, std_nth, std_cnt, cmp_lss_t, cmp_lss_f, cmp_leq_t, cmp_leq_f, cmp_gtr_t, cmp_gtr_f, cmp_geq_t, cmp_geq_f, cmp_eql_t, cmp_eql_f, cmp_neq_t, cmp_neq_f, scmp_eql_t, scmp_eql_f, scmp_neq_t, scmp_neq_f, dflt_int, dflt_bool, dflt_str, dflt_sl, dflt_pair, h, h1, h2, q1, q2, pe5, Prod.mk.injEq, and_true, true_and]
  refine ⟨hpre', fun ht => ⟨thin_bW ht, fun c => ?_, fun c => ?_⟩, fun ht => ?_⟩
  · rw [rightF, ht, decide_eq_true c]; rfl
  · rw [rightF, decide_eq_false c, Bool.and_false]
  · rw [rightF, ht]; rfl
theorem ok33 (F : BxF) (G : AwF) (H : LwF) (h : H.list = listF) (hp : H.pL = bW) (h1 : F.ends = endsM) (q2 : F.bw = bW) (k1 : SpecOk prog 19 (S19 F)) (k2 : SpecOk prog 20 (S20 F)) : SpecOk prog 33 (S33 H) := by
  refine contract_by hm hE D33 fnok33 _ fun (z : WkD × Unit) hpre => ?_
  obtain ⟨p, ⟨⟩⟩ := z
  have hpre' : H.pL p := hpre
  rw [hp] at hpre'
  refine pack _ 3 a0 (only_tab (T := tabO [] (cT F)) (l := [19, 20]) (tb_cons (tb_sp k1 (by kernel_rfl)) (tb_cons (tb_sp k2 (by kernel_rfl)) tb_nil))) ?_
  refine n33_go Lv.std F G H p ?_
  simp only [n33, VC.holds, std_cmp, std_scmp, std_ar_add, std_ar_sub, std_ar_mul, std_ar, std_dv, std_shf, std_conv, std_mn, std_mx, std_beq, std_bnot, std_band, std_scat, std_byte, std_ext, std_slen, std_strOf, std_bytes, std_llen, std_get, std_setl, std_app, std_take, std_drop, std_rep, std_mhas, std_mval, std_mput, std_cast, std_toN, std_sub, std_add, std_inR, std_le3, std_leN, std_ltN, std_ne0, std_nonneg, std_catOk, std_room, std_mkOk, std_nth, std_cnt, cmp_lss_t, cmp_lss_f, cmp_leq_t, cmp_leq_f, cmp_gtr_t, cmp_gtr_f, cmp_geq_t, cmp_geq_f, cmp_eql_t, cmp_eql_f, cmp_neq_t, cmp_neq_f, scmp_eql_t, scmp_eql_f, scmp_neq_t, scmp_neq_f, dflt_int, dflt_bool, dflt_str, dflt_sl, dflt_pair, h, h1, q2, pe5, Prod.mk.injEq, and_true, true_and]
  refine ⟨hpre', hpre', fun c => ⟨rfl, (decide_eq_true c).symm⟩, fun c => ⟨rfl, (decide_eq_false c).symm⟩⟩
end Go.Proofs.Tryz
set_option autoImplicit false
set_option linter.all false
namespace Go.Proofs.Tryz
open Go Go.VM
set_option maxRecDepth 100000
theorem tt9 : (True → True) ∧ (true = false → (false, ()) = (true, ())) := ⟨id, fun h => by cases h⟩
theorem right_ok {p : WkD} (h : rightF p = true) : bW p ∧ OkP p := by
  unfold rightF at h
  rw [Bool.and_eq_true, decide_eq_true_eq] at h
  exact ⟨thin_bW h.1, (okP_iff p).1 h.2⟩
theorem list_t {p : WkD} : (listF p).2 = true ↔ (endsM (p, false)).2.2 = 0 := decide_eq_true_iff
theorem list_f {p : WkD} : (listF p).2 = false ↔ (endsM (p, false)).2.2 ≠ 0 := decide_eq_false_iff_not
theorem ends_b {m : McD} (h : (endsM m).2.2 = 0) : (endsM m).1.length ≤ 1000000 := by have := endsM_le h; omega
theorem ends_at {m : McD} {k : Nat} (h : k < (endsM m).1.length) : ((endsM m).1[k]?).getD ([], [], []) = (endsM m).1[k] := by rw [List.getElem?_eq_getElem h]; rfl
theorem tkA {α : Type} (a b : List α) : (a ++ b).take (a.length + b.length) = a ++ b := List.take_of_length_le (by rw [List.length_append]; exact Nat.le_refl _)
theorem tkR {α : Type} (n : Nat) (l : List α) : (rotL n l).take ((l.drop n).length + (l.take n).length) = rotL n l := tkA _ _
theorem rot_eq {α : Type} (n : Nat) (l : List α) : l.drop n ++ l.take n = rotL n l := rfl
theorem rotP_eq (n : Nat) (p : WkD) : (p.1, rotL n p.2.1, p.2.2) = rotP n p := rfl
theorem rotE_eq (n : Nat) (e : EnD) : (e.1, rotL n e.2.1, rotL n e.2.2) = rotE n e := rfl
theorem ok9 (F : BxF) (G : AwF) (H : LwF) (g : G.aw = true) (h : H.right = rightF) (h' : H.list = listF) (hp : H.pR = bwTF) (hp' : H.pL = bW) (h3 : F.isIn = fun l v => decide (v ∈ l)) (q2 : F.bw = bW) (q3 : F.be = sEn) (q4 : F.ble = fun l => l.length ≤ 1000000 ∧ ∀ e ∈ l, sEn e)
    (k1 : SpecOk prog 18 (S18 G)) (k2 : SpecOk prog 20 (S20 F)) (k3 : SpecOk prog 32 (S32 H)) (k4 : SpecOk prog 33 (S33 H)) (k5 : SpecOk prog 34 (S34 F)) : SpecOk prog 9 LWU := by
  refine contract_by hm hE D9 fnok9 _ fun (z : WkD × Int × Unit) hpre => ?_
  obtain ⟨p, wh, ⟨⟩⟩ := z
  have hpre : bwTF p ∧ 0 ≤ wh ∧ wh < 256 := hpre
  obtain ⟨n, hn⟩ : ∃ n : Nat, Lv.std.dv BinOp.rem IntKind.i64 (Lv.std.conv IntKind.i64 wh) (p.2.1.length : Int) = (n : Int) := by
    rw [std_conv, wrap_i64 (by omega) (by omega)]
    exact nat_of (Int.tmod_nonneg _ hpre.2.1)
  let I : Int × Unit → Prop := Iv (endsM (p, false)).1.length fun _ => True
  refine pack _ 3 (a9 Lv.std I (Mu (endsM (p, false)).1.length)) (only_tab (T := tabO (oH G H) (cT F)) (l := [18, 20, 32, 33, 34]) (tb_cons (tb_sp k1 (by kernel_rfl)) (tb_cons (tb_sp k2 (by kernel_rfl)) (tb_cons (tb_sp k3 (by kernel_rfl)) (tb_cons (tb_sp k4 (by kernel_rfl)) (tb_cons (tb_sp k5 (by kernel_rfl)) tb_nil)))))) ?_
  refine n9_go Lv.std F G H I (Mu (endsM (p, false)).1.length) p wh ?_
  have e1 : ∀ (l : List EnD) (k : Int), Lv.std.get En l k.toNat = (l[k.toNat]?).getD ([], [], []) := fun _ _ => rfl
  simp only [n9, VC.holds, std_cmp, std_cast, std_llen, std_toN, std_beq, std_band, std_bnot, e1, std_inR, std_ar_add, cmp_lss_t, cmp_lss_f, cmp_neq_t, cmp_neq_f, cmp_eql_t, cmp_eql_f, cmp_gtr_t, cmp_gtr_f, std_take, std_drop, std_le3, std_ne0, std_app, std_add, std_room, hn, Int.toNat_natCast, List.take_length, List.drop_zero, Int.natCast_zero, Int.toNat_zero, List.take_nil, List.length_nil, Nat.zero_add, List.nil_append, tkA, tkR, rot_eq, rotP_eq, rotE_eq, g, h, h', hp, hp', h3, q2, q3, q4, pe5, and_true, true_and]
  refine ⟨hpre.1, fun hr => ?_, fun _ => tt9⟩
  obtain ⟨hb, op⟩ := right_ok hr
  have h0 := op.t0
  have h4 := op.t4
  have hnl : n < p.2.1.length := by
    rw [std_conv, wrap_i64 (by omega) (by omega)] at hn
    have a2 : wh.tmod (p.2.1.length : Int) < (p.2.1.length : Int) := Int.tmod_lt_of_pos wh (by omega)
    have e : Lv.std.dv BinOp.rem IntKind.i64 wh (p.2.1.length : Int) = wh.tmod (p.2.1.length : Int) := rfl
    rw [e] at hn
    omega
  have oq := okP_rot op (Nat.le_of_lt hnl)
  have bq := ok_bW oq
  have hc := (okP_iff p).2 op
  have hcq := (okP_iff (rotP n p)).2 oq
  have hiff : (listF p).2 = (listF (rotP n p)).2 := by
    rw [Bool.eq_iff_iff, list_t, list_t, endsM_err hc, endsM_err hcq]
    exact (few_rot_iff op (Nat.le_of_lt hnl)).symm
  refine ⟨by omega, hb, ⟨by omega, by omega, Int.le_refl _⟩, ⟨by rw [List.length_drop]; omega, by rw [List.length_drop]; omega⟩, ⟨Int.le_refl _, by omega, by omega⟩, ⟨by rw [List.length_drop, List.length_take]; omega, by rw [List.length_drop, List.length_take]; omega⟩, hb, fun hl => ⟨bq, fun hl2 => ⟨fun h => by simp at h, fun _ => ⟨fun hne => ?_, fun _ => ⟨Iv.zero trivial, fun b hbb => ?_⟩⟩⟩, fun hl2 => ?_⟩, fun hl => ⟨bq, fun hl2 => ?_, fun hl2 => ⟨fun h => by simp at h, fun _ => ⟨fun hne => ?_, fun _ => ⟨Iv.zero trivial, fun b hbb => ?_⟩⟩⟩⟩⟩
  · have := len_rot op (Nat.le_of_lt hnl) (list_t.1 hl) (list_t.1 hl2)
    exact absurd (congrArg Int.ofNat this) hne
  · have hw := list_t.1 hl
    have hw2 := list_t.1 hl2
    obtain ⟨k, rfl, hk, _⟩ := Iv.elim hbb
    simp only [Int.toNat_natCast]
    refine ⟨fun hlt => ?_, fun _ => tt9⟩
    have hk' : k < (endsM (p, false)).1.length := Int.ofNat_lt.1 hlt
    simp only [show ((listF p).1[k]?).getD ([], [], []) = (endsM (p, false)).1[k] from ends_at hk']
    have hm := List.getElem_mem hk'
    have hE := (endsM_mem hw _).1 hm
    have hmem := (endsM_mem hw2 _).2 (ends_rot op (Nat.le_of_lt hnl) hE)
    obtain ⟨l1, l2⟩ := end_len op hE
    generalize (endsM (p, false)).1[k] = e at *
    refine ⟨⟨by omega, hlt⟩, fun h => absurd (congrArg Int.ofNat l1) h, fun _ => ⟨fun h => absurd (congrArg Int.ofNat l2) h, fun _ => ⟨⟨by omega, by omega, Int.le_refl _⟩, ⟨?_, ?_⟩, ⟨Int.le_refl _, by omega, by omega⟩, ⟨?_, ?_⟩, ⟨by omega, by omega, Int.le_refl _⟩, ⟨?_, ?_⟩, ⟨Int.le_refl _, by omega, by omega⟩, ⟨?_, ?_⟩, ⟨⟨ends_b hw2, endsM_sEn hw2⟩, endsM_sEn hw2 _ hmem⟩, fun _ => ?_, fun hne => absurd hmem (of_decide_eq_false hne)⟩⟩⟩
    all_goals first
      | (simp only [List.length_drop, List.length_take]; omega)
      | (rw [wr (n := (endsM (p, false)).1.length) hlt (ends_b hw)]; exact ⟨Iv.mk (by omega) trivial, Mu.lt hk'⟩)
  · rw [hiff, hl2] at hl; cases hl
  · rw [hiff, hl2] at hl; cases hl
  · have a1 : (listF p).1 = [] := endsM_fail (list_f.1 hl)
    have a2 : (listF (rotP n p)).1 = [] := endsM_fail (list_f.1 hl2)
    rw [a1, a2] at hne; exact absurd rfl hne
  · have a1 : (listF p).1 = [] := endsM_fail (list_f.1 hl)
    obtain ⟨k, rfl, hk, _⟩ := Iv.elim hbb
    refine ⟨fun hlt => ?_, fun _ => tt9⟩
    exfalso
    rw [a1] at hlt
    have hlt : (k : Int) < 0 := hlt
    omega
end Go.Proofs.Tryz
set_option autoImplicit false
set_option linter.all false
namespace Go.Proofs.Tryz
open Go Go.VM
set_option maxRecDepth 100000
noncomputable def FF : BxF where
  within := withinF
  isNum := isNumF
  truth := truthF
  has := hasF
  fields := fieldsF
  shape := shapeF
  isIns := insOkF
  worked := workedF
  place := placeF
  value := default
  sees := seesF
  pRegs := fun l i => inReg l i.2.2.1 ∧ inReg l i.2.2.2.1
  pPlace := fun _ t i => inReg t.2.1 i.2.2.1
  pSees := fun s t p => inReg s.1 p ∧ t.2.2.1.length ≤ 1000000
  back := backF
  pBack := fun l => l.length ≤ 1000000
  see := default
  pSee := default
  waits := waitsF
  pW := fun _ s t i => pWF s t i
  can := canF
  pC := pCF
  each := eachF
  pE := pEF
  moves := movesF
  ended := endedF
  endOf := endOfF
  pEnd := fun m s => bS s ∧ s.2.length ≤ m.1.2.1.length
  first := firstF
  pFirst := fun p => p.1.length ≤ 1000000 ∧ p.2.1.length ≤ 1000000
  pHas := fun s => s.size ≤ 1000000
  pLi := fun l => l.length ≤ 1000000
  pLt := fun l => l.length ≤ 1000000
  pLk := fun l => l.length ≤ 1000000
  doo := doF
  pDo := pDoF
  step := default
  bl := bL
  bw := bW
  bs := default
  be := sEn
  ble := fun l => l.length ≤ 1000000 ∧ ∀ e ∈ l, sEn e
  nums := numsF
  check := checkF
  isTh := default
  pTh := default
  isSt := default
  pSt := default
  ckSt := default
  begE := default
  mvE := default
  ok := default
  okD := default
  okT := default
  doE := default
  endE := default
  endR := default
  seesE := default
  runE := default
  runR := default
  pRunR := default
  fenE := fenF
  fenR := default
  okW := default
  sameL := fun a b => decide (a = b)
  sameE := fun a b => decide (a = b)
  sameEs := fun a b => decide (a = b)
  sameS := default
  sameW := default
  sameM := default
  sameK := default
  bm := default
  bk := default
  isMv := default
  isIn := fun l x => decide (x ∈ l)
  cmpL := cmpLF
  cmpLL := cmpLLF
  cmpE := cmpEF
  cmpR := lexR
  cmpRE := cmpREF
  hows := fun e => e.2.2
  thin := thinF
  long := default
  thinS := default
  bwT := bwTF
  pCl := default
  or1 := orF3
  bll := fun l => l.length ≤ 1000000 ∧ ∀ x ∈ l, x.length ≤ 1000000
  put := putF
  pPut := fun b l => b.length ≤ 100000000 ∧ l.length ≤ 1000000
  comp := compL
  sort := fun l => List.mergeSort (α := EnD) l fun x y => !(Go.Proofs.ltOf cmpEF) y x
  rev := List.reverse
  key := keyF
  pKey := fun s => s.1.length ≤ 64 ∧ s.2.length ≤ 4 ∧ ∀ t ∈ s.2, t.2.1.length ≤ 100 ∧ t.2.2.1.length ≤ 100 ∧ t.2.2.2.1.length ≤ 100
  all := allF
  okM := fun m => OkP m.1
  ends := endsM
  bM := fun m => bW m.1
  way := wayG
  pWay := fun p _ => bW p
  over := default
  waR := default
  okW2 := default
  bsT := default
noncomputable def GG : AwF where
  ins := insF
  cr := ([0, 0], [[insF 1 1 [1], insF 9 0 [1], insF 8 1 [2], insF 15 0 [2]], [insF 1 1 [1], insF 9 1 [1], insF 8 0 [2], insF 15 0 [2]]], 1)
  ce := fun a b => ([1, 1], [[a], [b]], [1, 1])
  aw := true
noncomputable def HH : LwF where
  right := rightF
  pR := bwTF
  pL := bW
  list := listF
  picks := default
  pPicks := default
theorem h86 : SpecOk prog 86 (S86 FF) := ok86 FF rfl
theorem h92 : SpecOk prog 92 (S92 FF) := ok92 FF rfl rfl h86
theorem h120 : SpecOk prog 120 (S120 FF) := ok120 FF rfl
theorem h84 : SpecOk prog 84 (S84 FF) := ok84 FF rfl rfl rfl rfl h86 h92 h120
theorem h87 : SpecOk prog 87 (S87 FF) := ok87 FF rfl rfl rfl h92
theorem h38 : SpecOk prog 38 (S22 FF) := ok38 FF rfl rfl rfl rfl rfl rfl h84 h86 h87
theorem h76 : XOk prog 76 (R76 FF).x := ok76 FF rfl
theorem h79 : SpecOk prog 79 (S79 FF) := ok79 FF rfl rfl rfl h76
theorem h146 : ItOk prog 146 (I146 FF) := ok146 FF rfl rfl
theorem h101 : SpecOk prog 101 (S101 FF) := ok101 FF rfl rfl rfl rfl h146
theorem h143 : SpecOk prog 143 (S143 FF) := ok143 FF rfl rfl rfl h86
theorem h157 : SpecOk prog 157 (S157 FF) := ok157 FF rfl rfl rfl rfl rfl rfl h101 h143
theorem h136 : SpecOk prog 136 (S136 FF) := ok136 FF rfl rfl rfl rfl h157
theorem h135 : ItOk prog 135 (I135 FF) := ok135 FF rfl rfl rfl rfl h136
theorem h90 : SpecOk prog 90 (S90 FF) := ok90 FF rfl rfl rfl h135
theorem h134 : SpecOk prog 134 (S134 FF) := ok134 FF rfl
theorem h141 : XOk prog 141 (R141 FF).x := ok141 FF rfl
theorem h142 : XOk prog 142 (R142 FF).x := ok142 FF rfl
theorem h144 : XOk prog 144 (mapcX acT) := ok144 FF
theorem h145 : SpecOk prog 145 (S145 FF) := ok145 FF rfl rfl rfl rfl h92 h134
theorem h99 : SpecOk prog 99 (S99 FF) := ok99 FF rfl rfl rfl rfl rfl rfl rfl rfl rfl rfl rfl rfl rfl rfl h76 h86 h92 h101 h134 h141 h142 h143 h144 h145
theorem h133 : XOk prog 133 (R133 FF).x := ok133 FF rfl rfl
theorem h109 : SpecOk prog 109 (S109 FF) := ok109 FF rfl rfl rfl rfl rfl h133 h134
theorem h66 : SpecOk prog 66 (S66 FF) := ok66 FF rfl rfl rfl rfl rfl rfl rfl rfl rfl rfl h79 h90 h99 h109
theorem h69 : SpecOk prog 69 (S69 FF) := ok69 FF rfl rfl rfl h135
theorem h71 : SpecOk prog 71 (S71 FF) := ok71 FF rfl rfl rfl h76
theorem h111 : SpecOk prog 111 (S111 FF) := ok111 FF rfl rfl
theorem h112 : SpecOk prog 112 (S112 FF) := ok112 FF rfl rfl
theorem h113 : XOk prog 113 (R113 FF).x := ok113 FF rfl rfl rfl rfl h112
theorem h114 : SpecOk prog 114 (S114 FF) := ok114 FF rfl rfl
theorem h70 : SpecOk prog 70 (S70 FF) := ok70 FF rfl rfl rfl rfl rfl rfl rfl h111 h112 h113 h114
theorem h106 : XOk prog 106 (R106 FF).u := ok106 FF rfl rfl rfl rfl h70
theorem h108 : SpecOk prog 108 (S108 FF) := ok108 FF rfl rfl h70
theorem h107 : XOk prog 107 (R107 FF).x := ok107 FF rfl rfl rfl rfl h108
theorem h62 : SpecOk prog 62 (S62 FF) := ok62 FF rfl rfl rfl rfl rfl (fun l => List.mergeSort_perm l _) rfl rfl rfl rfl rfl rfl h38 h66 h69 h71 h106 h107
theorem h19 : SpecOk prog 19 (S19 FF) := ok19 FF rfl rfl h62
theorem h21 : SpecOk prog 21 (S21 FF) := ok21 FF rfl rfl h62
theorem h72 : XOk prog 72 (R72 FF).u := ok72 FF rfl rfl
theorem h24 : SpecOk prog 24 (S24 FF) := ok24 FF rfl rfl rfl rfl rfl rfl rfl rfl rfl rfl rfl rfl rfl rfl h38 h66 h69 h71 h70 h72
theorem h75 : SpecOk prog 75 (S75 FF) := ok75 FF rfl rfl
theorem h27 : SpecOk prog 27 (S27 FF) := ok27 FF rfl rfl h75
theorem h29 : SpecOk prog 29 (S29 FF) := ok29 FF rfl rfl rfl rfl h38 h76
theorem h118 : SpecOk prog 118 (S118 FF) := ok118 FF rfl rfl
theorem h74 : SpecOk prog 74 (S74 FF) := ok74 FF rfl rfl rfl rfl rfl h75 h118
theorem h46 : SpecOk prog 46 (S46 FF) := ok46 FF rfl rfl h74
theorem h35 : SpecOk prog 35 (S35 FF) := ok35 FF rfl rfl rfl rfl h46
theorem h105 : SpecOk prog 105 (S105 GG) := ok105 FF GG rfl
theorem h60 : SpecOk prog 60 (S60 GG) := ok60 FF GG rfl rfl h105
theorem h61 : SpecOk prog 61 (S61 GG) := ok61 FF GG rfl
theorem h18 : SpecOk prog 18 (S18 GG) := ok18 FF GG rfl rfl rfl rfl rfl rfl rfl rfl rfl rfl rfl rfl h19 h21 h24 h27 h29 h35 h60 h61
theorem h20 : SpecOk prog 20 (S20 FF) := ok20 FF rfl
theorem h17 : SpecOk prog 17 (S17 FF) := ok17 FF rfl rfl
theorem h54 : SpecOk prog 54 (S86 FF) := ok54 FF rfl
theorem h63 : SpecOk prog 63 (S92 FF) := ok63 FF rfl rfl h54
theorem h77 : SpecOk prog 77 (S77 FF) := ok77 FF rfl rfl
theorem h78 : SpecOk prog 78 (S78 FF) := ok78 FF rfl
theorem h64 : SpecOk prog 64 (S84 FF) := ok64 FF rfl rfl rfl rfl rfl rfl h54 h63 h77 h78
theorem h22 : SpecOk prog 22 (S22 FF) := ok22 FF rfl rfl rfl rfl rfl h54 h63 h64
theorem h32 : SpecOk prog 32 (S32 HH) := ok32 FF GG HH rfl rfl rfl rfl rfl rfl h17 h22
theorem h33 : SpecOk prog 33 (S33 HH) := ok33 FF GG HH rfl rfl rfl rfl h19 h20
theorem h34 : SpecOk prog 34 (S34 FF) := ok34 FF rfl rfl rfl rfl h46
theorem h9 : SpecOk prog 9 LWU := ok9 FF GG HH rfl rfl rfl rfl rfl rfl rfl rfl rfl h18 h20 h32 h33 h34
end Go.Proofs.Tryz
