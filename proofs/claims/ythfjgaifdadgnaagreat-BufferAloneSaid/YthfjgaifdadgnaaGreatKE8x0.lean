/- What functions of the weak memory compute, proved through the condition generator, and plain facts of it. Conditions: none of ours. -/
import Derived.Calls
import Derived.Orders
import Derived.Below
import Derived.Lib.ItoaNum
import Derived.Laws.Sem
import Derived.Laws.Cells
import Derived.Laws.Entries
import Derived.Laws.StructEq
import Derived.Lib.IfaceEq
import Derived.Lib.IfaceNeq
import Derived.Laws.MakeOwn
import Derived.Laws.AppendOwn
import Derived.Lib.AppendStr
import Derived.Laws.CopyRow
import Derived.Laws.BytesString
import Derived.MapKept
import Derived.OrdersIn
import Derived.RangeFuncCalls
import Derived.RangeFuncLeaves
import Derived.Test.YthfjgaifdadgnaaGreatProg
import Derived.Shelf.SlSortCmp.Insertion
import GoSem.Step
import Derived.Shelf.SlSortCmp.InsertionK
import Derived.Shelf.SlSortCmp.NoneTotal
import Derived.Ground.SlsfProg
import Derived.Sort.LotA
import Derived.Test.YthfjgaifdadgnaaGreatK0
import Derived.Test.YthfjgaifdadgnaaGreatK1
import Derived.Test.YthfjgaifdadgnaaGreatK2
import Derived.Test.YthfjgaifdadgnaaGreatK3
import Derived.Test.YthfjgaifdadgnaaGreatK4
import Derived.Test.YthfjgaifdadgnaaGreatK5
import Derived.Test.YthfjgaifdadgnaaGreatK6
import Derived.Test.YthfjgaifdadgnaaGreatK7
import Derived.Test.YthfjgaifdadgnaaGreatK8
import Derived.Test.YthfjgaifdadgnaaGreatK9
import Derived.Test.YthfjgaifdadgnaaGreatK10
import Derived.Test.YthfjgaifdadgnaaGreatK11
import Derived.Test.YthfjgaifdadgnaaGreatK12
import Derived.Test.YthfjgaifdadgnaaGreatK13
import Derived.Test.YthfjgaifdadgnaaGreatK14
import Derived.Test.YthfjgaifdadgnaaGreatK15
import Derived.Test.YthfjgaifdadgnaaGreatK16
import Derived.Test.YthfjgaifdadgnaaGreatK17
import Derived.Test.YthfjgaifdadgnaaGreatK18
import Derived.Test.YthfjgaifdadgnaaGreatK19
import Derived.Test.YthfjgaifdadgnaaGreatK20
import Derived.Test.YthfjgaifdadgnaaGreatK21
import Derived.Test.YthfjgaifdadgnaaGreatK22
import Derived.Test.YthfjgaifdadgnaaGreatK23
import Derived.Test.YthfjgaifdadgnaaGreatK24
import Derived.Test.YthfjgaifdadgnaaGreatK25
import Derived.Test.YthfjgaifdadgnaaGreatK26
set_option autoImplicit false
set_option linter.all false
namespace Go.Proofs.Tryz
open Go Go.VM
set_option maxRecDepth 100000
theorem at17 : prog.funcs[17]? = some f17 := by kernel_rfl
def pl17 : Nat → Plan
  | _ => []
noncomputable def D17 (ann : Nat → LAnn) : FnD := ⟨f17.body.getD .skip, f17.ntmps, f17.results.toList, pl17, ann⟩
theorem fnok17 (ann : Nat → LAnn) : FnOk prog 17 (D17 ann) := ⟨f17, at17, by kernel_rfl, by kernel_rfl, rfl, rfl, by kernel_rfl⟩
theorem at32 : prog.funcs[32]? = some f32 := by kernel_rfl
def pl32 : Nat → Plan
  | _ => []
noncomputable def D32 (ann : Nat → LAnn) : FnD := ⟨f32.body.getD .skip, f32.ntmps, f32.results.toList, pl32, ann⟩
theorem fnok32 (ann : Nat → LAnn) : FnOk prog 32 (D32 ann) := ⟨f32, at32, by kernel_rfl, by kernel_rfl, rfl, rfl, by kernel_rfl⟩
theorem at33 : prog.funcs[33]? = some f33 := by kernel_rfl
def pl33 : Nat → Plan
  | _ => []
noncomputable def D33 (ann : Nat → LAnn) : FnD := ⟨f33.body.getD .skip, f33.ntmps, f33.results.toList, pl33, ann⟩
theorem fnok33 (ann : Nat → LAnn) : FnOk prog 33 (D33 ann) := ⟨f33, at33, by kernel_rfl, by kernel_rfl, rfl, rfl, by kernel_rfl⟩
end Go.Proofs.Tryz
set_option autoImplicit false
set_option linter.all false
namespace Go.Proofs.Tryz
open Go Go.VM
set_option maxRecDepth 100000
theorem at8 : prog.funcs[8]? = some f8 := by kernel_rfl
def pl8 : Nat → Plan
  | 4 => [(0, []), (1, []), (2, [0, 1]), (3, [0, 1]), (4, [0, 1, 2, 3]), (5, [0, 1, 2, 3]), (6, [0, 1, 2, 3]), (7, [0, 1]), (8, []), (9, []), (10, []), (11, [])]
  | _ => []
noncomputable def D8 (ann : Nat → LAnn) : FnD := ⟨f8.body.getD .skip, f8.ntmps, f8.results.toList, pl8, ann⟩
theorem fnok8 (ann : Nat → LAnn) : FnOk prog 8 (D8 ann) := ⟨f8, at8, by kernel_rfl, by kernel_rfl, rfl, rfl, by kernel_rfl⟩
end Go.Proofs.Tryz
set_option autoImplicit false
set_option linter.all false
namespace Go.Proofs.Tryz
open Go Go.VM
theorem ok_bW {p : WkD} (hp : OkP p) : bW p := ⟨by have := hp.w64; omega, by have := hp.t4; omega, fun l hl => by have := (hp.list l hl).1; omega⟩
end Go.Proofs.Tryz
set_option autoImplicit false
set_option linter.all false
namespace Go.Proofs.Tryz
open Go Go.VM
set_option maxRecDepth 100000
def n17 (L : Lv) (F : BxF) (I : Ds [It] → Prop) (mu : Ds [It] → Nat) (p : WkD)  : VC :=
 let z1 := Prod.fst p;
 let z2 := Lv.cast L (Lv.llen L It z1);
 let z3 := (BxF.thin F p, ());
 let z4 := Prod.fst (Prod.snd p);
 let z5 := Lv.llen L (Ty.sl In) z4;
 let z6 := Lv.cast L z5;
 let z7 := Lv.cmp L BinOp.gtr z6 6;
 let z8 := Prod.snd (Prod.snd p);
 let z9 := Lv.cmp L BinOp.gtr z6 3; VC.br (Lv.cmp L BinOp.gtr z2 70) (VC.ok ((false, ()) = z3)) (VC.br (Lv.cmp L BinOp.gtr z2 8) (VC.br (Lv.cmp L BinOp.leq z2 64) (VC.ok ((false,
   ()) = z3)) (VC.br z7 (VC.ok ((false, ()) = z3)) (VC.obl (St.mk 60 [(1, V.c (C.ptr 1 0)), (3, V.c (C.int IntKind.i64 0))] [(0, Ob.amb), (1, Ob.box 25 [C.sl It z1, C.sl (Ty.sl In)
   z4, C.int IntKind.i64 z8])] 2 = St.mk 60 [(1, V.c (C.ptr 1 0)), (3, V.c (C.int IntKind.i64 0))] [(0, Ob.amb), (1, Ob.box 25 [C.sl It z1, C.sl (Ty.sl In) z4, C.int IntKind.i64
   z8])] 2) (VC.obl (I (0, ())) (VC.all (Int × Unit) fun (v1 : Int × Unit) =>
 let z10 := Prod.fst v1;
 let z11 := Lv.cast L (Lv.llen L In (Lv.get L (Ty.sl In) z4 (Lv.toN L z10)));
 let z12 := Lv.cmp L BinOp.gtr z11 2;
 let z13 := Lv.ar L BinOp.add IntKind.i64 z10 1;
 let z14 := (Lv.ar L BinOp.add IntKind.i64 z10 1, ()); VC.imp (I v1) (VC.br (Lv.cmp L BinOp.lss z10 z6) (VC.obl (Lv.inR L z10 z5) (VC.br (Lv.cmp L BinOp.gtr z11 205) (VC.ok ((false,
   ()) = z3)) (VC.br (Lv.cmp L BinOp.gtr z11 12) (VC.br (Lv.cmp L BinOp.leq z11 200) (VC.ok ((false, ()) = z3)) (VC.br z9 (VC.br z12 (VC.ok ((false, ()) = z3)) (VC.ok (St.mk 60 [(1,
   V.c (C.ptr 1 0)), (3, V.c (C.int IntKind.i64 z13))] [(0, Ob.amb), (1, Ob.box 25 [C.sl It z1, C.sl (Ty.sl In) z4, C.int IntKind.i64 z8])] 2 = St.mk 60 [(1, V.c (C.ptr 1 0)), (3,
   V.c (C.int IntKind.i64 z13))] [(0, Ob.amb), (1, Ob.box 25 [C.sl It z1, C.sl (Ty.sl In) z4, C.int IntKind.i64 z8])] 2 ∧ I z14 ∧ mu z14 < mu v1))) (VC.ok (St.mk 60 [(1, V.c (C.ptr
   1 0)), (3, V.c (C.int IntKind.i64 z13))] [(0, Ob.amb), (1, Ob.box 25 [C.sl It z1, C.sl (Ty.sl In) z4, C.int IntKind.i64 z8])] 2 = St.mk 60 [(1, V.c (C.ptr 1 0)), (3, V.c (C.int
   IntKind.i64 z13))] [(0, Ob.amb), (1, Ob.box 25 [C.sl It z1, C.sl (Ty.sl In) z4, C.int IntKind.i64 z8])] 2 ∧ I z14 ∧ mu z14 < mu v1)))) (VC.br z9 (VC.br z12 (VC.ok ((false, ()) =
   z3)) (VC.ok (St.mk 60 [(1, V.c (C.ptr 1 0)), (3, V.c (C.int IntKind.i64 z13))] [(0, Ob.amb), (1, Ob.box 25 [C.sl It z1, C.sl (Ty.sl In) z4, C.int IntKind.i64 z8])] 2 = St.mk 60
   [(1, V.c (C.ptr 1 0)), (3, V.c (C.int IntKind.i64 z13))] [(0, Ob.amb), (1, Ob.box 25 [C.sl It z1, C.sl (Ty.sl In) z4, C.int IntKind.i64 z8])] 2 ∧ I z14 ∧ mu z14 < mu v1))) (VC.ok
   (St.mk 60 [(1, V.c (C.ptr 1 0)), (3, V.c (C.int IntKind.i64 z13))] [(0, Ob.amb), (1, Ob.box 25 [C.sl It z1, C.sl (Ty.sl In) z4, C.int IntKind.i64 z8])] 2 = St.mk 60 [(1, V.c
   (C.ptr 1 0)), (3, V.c (C.int IntKind.i64 z13))] [(0, Ob.amb), (1, Ob.box 25 [C.sl It z1, C.sl (Ty.sl In) z4, C.int IntKind.i64 z8])] 2 ∧ I z14 ∧ mu z14 < mu v1)))))) (VC.ok
   ((true, ()) = z3)))))))) (VC.br z7 (VC.ok ((false, ()) = z3)) (VC.obl (St.mk 60 [(1, V.c (C.ptr 1 0)), (3, V.c (C.int IntKind.i64 0))] [(0, Ob.amb), (1, Ob.box 25 [C.sl It z1,
   C.sl (Ty.sl In) z4, C.int IntKind.i64 z8])] 2 = St.mk 60 [(1, V.c (C.ptr 1 0)), (3, V.c (C.int IntKind.i64 0))] [(0, Ob.amb), (1, Ob.box 25 [C.sl It z1, C.sl (Ty.sl In) z4, C.int
   IntKind.i64 z8])] 2) (VC.obl (I (0, ())) (VC.all (Int × Unit) fun (v2 : Int × Unit) =>
 let z15 := Prod.fst v2;
 let z16 := Lv.cast L (Lv.llen L In (Lv.get L (Ty.sl In) z4 (Lv.toN L z15)));
 let z17 := Lv.cmp L BinOp.gtr z16 2;
 let z18 := Lv.ar L BinOp.add IntKind.i64 z15 1;
 let z19 := (Lv.ar L BinOp.add IntKind.i64 z15 1, ()); VC.imp (I v2) (VC.br (Lv.cmp L BinOp.lss z15 z6) (VC.obl (Lv.inR L z15 z5) (VC.br (Lv.cmp L BinOp.gtr z16 205) (VC.ok ((false,
   ()) = z3)) (VC.br (Lv.cmp L BinOp.gtr z16 12) (VC.br (Lv.cmp L BinOp.leq z16 200) (VC.ok ((false, ()) = z3)) (VC.br z9 (VC.br z17 (VC.ok ((false, ()) = z3)) (VC.ok (St.mk 60 [(1,
   V.c (C.ptr 1 0)), (3, V.c (C.int IntKind.i64 z18))] [(0, Ob.amb), (1, Ob.box 25 [C.sl It z1, C.sl (Ty.sl In) z4, C.int IntKind.i64 z8])] 2 = St.mk 60 [(1, V.c (C.ptr 1 0)), (3,
   V.c (C.int IntKind.i64 z18))] [(0, Ob.amb), (1, Ob.box 25 [C.sl It z1, C.sl (Ty.sl In) z4, C.int IntKind.i64 z8])] 2 ∧ I z19 ∧ mu z19 < mu v2))) (VC.ok (St.mk 60 [(1, V.c (C.ptr
   1 0)), (3, V.c (C.int IntKind.i64 z18))] [(0, Ob.amb), (1, Ob.box 25 [C.sl It z1, C.sl (Ty.sl In) z4, C.int IntKind.i64 z8])] 2 = St.mk 60 [(1, V.c (C.ptr 1 0)), (3, V.c (C.int
   IntKind.i64 z18))] [(0, Ob.amb), (1, Ob.box 25 [C.sl It z1, C.sl (Ty.sl In) z4, C.int IntKind.i64 z8])] 2 ∧ I z19 ∧ mu z19 < mu v2)))) (VC.br z9 (VC.br z17 (VC.ok ((false, ()) =
   z3)) (VC.ok (St.mk 60 [(1, V.c (C.ptr 1 0)), (3, V.c (C.int IntKind.i64 z18))] [(0, Ob.amb), (1, Ob.box 25 [C.sl It z1, C.sl (Ty.sl In) z4, C.int IntKind.i64 z8])] 2 = St.mk 60
   [(1, V.c (C.ptr 1 0)), (3, V.c (C.int IntKind.i64 z18))] [(0, Ob.amb), (1, Ob.box 25 [C.sl It z1, C.sl (Ty.sl In) z4, C.int IntKind.i64 z8])] 2 ∧ I z19 ∧ mu z19 < mu v2))) (VC.ok
   (St.mk 60 [(1, V.c (C.ptr 1 0)), (3, V.c (C.int IntKind.i64 z18))] [(0, Ob.amb), (1, Ob.box 25 [C.sl It z1, C.sl (Ty.sl In) z4, C.int IntKind.i64 z8])] 2 = St.mk 60 [(1, V.c
   (C.ptr 1 0)), (3, V.c (C.int IntKind.i64 z18))] [(0, Ob.amb), (1, Ob.box 25 [C.sl It z1, C.sl (Ty.sl In) z4, C.int IntKind.i64 z8])] 2 ∧ I z19 ∧ mu z19 < mu v2)))))) (VC.ok
   ((true, ()) = z3))))))))
theorem n17_eq (L : Lv) (F : BxF) (I : Ds [It] → Prop) (mu : Ds [It] → Nat) (p : WkD) : vcC L F [] (D17 (aT3 L I mu)) (S17 F) (p, ()) = n17 L F I mu p := by kernel_rfl
theorem n17_go (L : Lv) (F : BxF) (I : Ds [It] → Prop) (mu : Ds [It] → Nat) (p : WkD) (h : VC.holds (n17 L F I mu p)) : Holds (vcC L F [] (D17 (aT3 L I mu)) (S17 F) (p, ())) := Holds.of_eq (n17_eq L F I mu p) h
def thinL (n : Nat) (l : List InD) : Bool := !(decide (205 < (l.length : Int)) || (decide (12 < (l.length : Int)) && decide ((l.length : Int) ≤ 200)) || (decide (3 < (n : Int)) && decide (2 < (l.length : Int))))
def thinF (p : WkD) : Bool := !(decide (70 < (p.1.length : Int)) || (decide (8 < (p.1.length : Int)) && decide ((p.1.length : Int) ≤ 64)) || decide (6 < (p.2.1.length : Int))) && p.2.1.all (thinL p.2.1.length)
theorem ok17 (F : BxF) (h : F.thin = thinF) (hp : F.bwT = bwTF) : SpecOk prog 17 (S17 F) := by
  refine contract_by hm hE D17 fnok17 _ fun (z : WkD × Unit) hpre => ?_
  obtain ⟨p, ⟨⟩⟩ := z
  have hpre' : F.bwT p := hpre
  rw [hp] at hpre'
  obtain ⟨g1, g2, g3⟩ := hpre'
  let I : Int × Unit → Prop := Iv p.2.1.length fun k => (p.2.1.drop k).all (thinL p.2.1.length) = p.2.1.all (thinL p.2.1.length)
  refine pack _ 3 (aT3 Lv.std I (Mu p.2.1.length)) (only_tab (T := cT F) (l := []) tb_nil) ?_
  refine n17_go Lv.std F I (Mu p.2.1.length) p ?_
  have e2 : ∀ (l : List (List InD)) (k : Int), Lv.std.get (.sl In) l k.toNat = (l[k.toNat]?).getD [] := fun _ _ => rfl
  simp only [n17, VC.holds, std_cmp, std_cast, std_llen, std_toN, e2, std_inR, std_ar_add, cmp_lss_t, cmp_lss_f, cmp_gtr_t, cmp_gtr_f, cmp_leq_t, cmp_leq_f, h, and_true, true_and]
  have et : ∀ l, thinL p.2.1.length l = true ↔ ¬ (205 < (l.length : Int) ∨ (12 < (l.length : Int) ∧ (l.length : Int) ≤ 200) ∨ (3 < (p.2.1.length : Int) ∧ 2 < (l.length : Int))) := fun l => by
    unfold thinL; simp only [Bool.not_eq_true', Bool.or_eq_false_iff, Bool.and_eq_false_iff, decide_eq_false_iff_not]; omega
  have ew : thinF p = true ↔ ¬ (70 < (p.1.length : Int) ∨ (8 < (p.1.length : Int) ∧ (p.1.length : Int) ≤ 64) ∨ 6 < (p.2.1.length : Int)) ∧ p.2.1.all (thinL p.2.1.length) = true := by
    unfold thinF; simp only [Bool.and_eq_true, Bool.not_eq_true', Bool.or_eq_false_iff, Bool.and_eq_false_iff, decide_eq_false_iff_not]
    constructor
    · rintro ⟨h1, h2⟩; exact ⟨by omega, h2⟩
    · rintro ⟨h1, h2⟩; exact ⟨by omega, h2⟩
  have fls : ¬ (thinF p = true) → (false, ()) = (thinF p, ()) := fun h => by rw [Bool.not_eq_true] at h; rw [h]
  have fw : (70 < (p.1.length : Int) ∨ (8 < (p.1.length : Int) ∧ (p.1.length : Int) ≤ 64) ∨ 6 < (p.2.1.length : Int)) → (false, ()) = (thinF p, ()) := fun h => fls fun e => (ew.1 e).1 h
  have fail : ∀ k : Nat, k < p.2.1.length → (p.2.1.drop k).all (thinL p.2.1.length) = p.2.1.all (thinL p.2.1.length) → (205 < (((p.2.1[k]?).getD []).length : Int) ∨ (12 < (((p.2.1[k]?).getD []).length : Int) ∧ (((p.2.1[k]?).getD []).length : Int) ≤ 200) ∨ (3 < (p.2.1.length : Int) ∧ 2 < (((p.2.1[k]?).getD []).length : Int))) → (false, ()) = (thinF p, ()) := fun k hk i3 h => fls fun e => by
    rw [(ew.1 e).2, all_drop _ _ k [] hk, Bool.and_eq_true] at i3
    exact (et _).1 i3.1 h
  have passI : ∀ k : Nat, k < p.2.1.length → (p.2.1.drop k).all (thinL p.2.1.length) = p.2.1.all (thinL p.2.1.length) → ¬ (205 < (((p.2.1[k]?).getD []).length : Int) ∨ (12 < (((p.2.1[k]?).getD []).length : Int) ∧ (((p.2.1[k]?).getD []).length : Int) ≤ 200) ∨ (3 < (p.2.1.length : Int) ∧ 2 < (((p.2.1[k]?).getD []).length : Int))) → I (IntKind.i64.wrap ((k : Int) + 1), ()) := fun k hk i3 h => by
    rw [all_drop _ _ k [] hk, (et _).2 h, Bool.true_and] at i3
    rw [wrB (by omega) g2]
    exact Iv.mk (by omega) i3
  have passM : ∀ k : Nat, k < p.2.1.length → Mu p.2.1.length (IntKind.i64.wrap ((k : Int) + 1), ()) < Mu p.2.1.length ((k : Int), ()) := fun k hk => by rw [wrB (by omega) g2]; exact Mu.lt hk
  refine ⟨fun a => fw (by omega), fun a => ⟨fun b => ⟨fun c => fw (by omega), fun c => ⟨fun d => fw (by omega), fun d => ?_⟩⟩, fun b => ⟨fun d => fw (by omega), fun d => ?_⟩⟩⟩
  all_goals
    refine ⟨Iv.zero rfl, fun x hx => ?_⟩
    obtain ⟨k, rfl, hk, i3⟩ := Iv.elim hx
    simp only [Int.toNat_natCast]
    refine ⟨fun hlt => ⟨⟨by omega, hlt⟩, ?_⟩, fun hge => ?_⟩
    · have fail' := fail k (by omega) i3
      have passI' := passI k (by omega) i3
      have passM' := passM k (by omega)
      clear_value I
      repeat' (first | refine And.intro ?_ ?_ | intro _)
      all_goals first | exact passM' | exact fail' (by omega) | exact passI' (by omega)
    · rw [show k = p.2.1.length by omega, List.drop_length] at i3
      have i3 : true = p.2.1.all (thinL p.2.1.length) := i3
      rw [ew.2 ⟨by omega, i3.symm⟩]
end Go.Proofs.Tryz
set_option autoImplicit false
set_option linter.all false
namespace Go.Proofs.Tryz
open Go Go.VM
theorem getq_app {α : Type} {l : List α} {n : Nat} {x : α} (r : List α) (h : l[n]? = some x) : (l ++ r)[n]? = some x := by
  obtain ⟨h1, h2⟩ := List.getElem?_eq_some_iff.1 h
  rw [List.getElem?_append_left h1]; exact h
theorem getq_lt {α : Type} {l : List α} {n : Nat} {x : α} (h : l[n]? = some x) : n < l.length := (List.getElem?_eq_some_iff.1 h).1
theorem met_mem {l : List MtD} {s : StD} : metIn l s = true ↔ s ∈ l.map Prod.fst := by
  rw [met_iff, List.mem_map]
  constructor
  · rintro ⟨n, x, hn, he⟩; exact ⟨x, List.mem_of_getElem? hn, he⟩
  · rintro ⟨x, hx, he⟩
    obtain ⟨n, hn⟩ := List.getElem?_of_mem hx
    exact ⟨n, x, hn, he⟩
theorem AddI.snoc {m : McD} {a : Nat} {s : StD} {j : Nat} {l : List MtD} (h : AddI m a s j l) {v : MvD} (hv : (movesF m s)[j]? = some v) (hn : metIn l (doF m s v) = false) : AddI m a s (j + 1) (l ++ [(doF m s v, (a : Int), (j : Int))]) where
  first := getq_app _ h.first
  nodup := by
    rw [List.map_append, List.nodup_append]
    refine ⟨h.nodup, by simp, fun x hx y hy => ?_⟩
    simp only [List.map_cons, List.map_nil, List.mem_singleton] at hy
    rw [hy]; intro e; rw [← e] at hn; rw [met_mem.2 hx] at hn; cases hn
  par := fun n x hx h0 => by
    rcases Nat.lt_or_ge n l.length with hl | hl
    · rw [List.getElem?_append_left hl] at hx
      obtain ⟨b, i, y, w, h1, h2, h3, h4, h5⟩ := h.par n x hx h0
      exact ⟨b, i, y, w, h1, h2, getq_app _ h3, h4, h5⟩
    · obtain ⟨y, hy, hs⟩ := h.cur
      have := getq_lt hx
      simp only [List.length_append, List.length_cons, List.length_nil] at this
      have e : n = l.length := by omega
      subst e
      rw [List.getElem?_append_right (Nat.le_refl _), Nat.sub_self] at hx
      cases hx
      exact ⟨a, j, y, v, getq_lt hy, by omega, getq_app _ hy, by rw [hs], by rw [hs]; exact hv⟩
  mono := fun n k x y hnk hx hy => by
    rcases Nat.lt_or_ge k l.length with hl | hl
    · rw [List.getElem?_append_left hl] at hy
      rw [List.getElem?_append_left (by omega)] at hx
      exact h.mono n k x y hnk hx hy
    · have := getq_lt hy
      simp only [List.length_append, List.length_cons, List.length_nil] at this
      have e : k = l.length := by omega
      subst e
      rw [List.getElem?_append_right (Nat.le_refl _), Nat.sub_self] at hy
      cases hy
      rcases Nat.lt_or_ge n l.length with hn | hn
      · rw [List.getElem?_append_left hn] at hx
        by_cases h0 : n = 0
        · subst h0; rw [h.first] at hx; cases hx; show (-1 : Int) ≤ (a : Int); omega
        · obtain ⟨b, i, z, w, h1, h2, h3, h4, h5⟩ := h.par n x hx (by omega)
          rw [h4]; show (b : Int) ≤ (a : Int); omega
      · have e : n = l.length := by omega
        subst e
        rw [List.getElem?_append_right (Nat.le_refl _), Nat.sub_self] at hx
        cases hx; exact Int.le_refl _
  closed := fun b y hb hy w hw => by
    obtain ⟨z, hz, _⟩ := h.cur
    have := getq_lt hz
    rw [List.getElem?_append_left (by omega)] at hy
    obtain ⟨n, x, h1, h2, h3⟩ := h.closed b y hb hy w hw
    exact ⟨n, x, getq_app _ h1, h2, h3⟩
  cur := by obtain ⟨y, h1, h2⟩ := h.cur; exact ⟨y, getq_app _ h1, h2⟩
  now := fun i w hi hw => by
    by_cases e : i = j
    · subst e
      rw [hv] at hw; cases hw
      refine ⟨l.length, (doF m s v, (a : Int), (i : Int)), ?_, rfl, Int.le_refl _⟩
      rw [List.getElem?_append_right (Nat.le_refl _), Nat.sub_self]; rfl
    · obtain ⟨n, x, h1, h2, h3⟩ := h.now i w (by omega) hw
      exact ⟨n, x, getq_app _ h1, h2, h3⟩
def Many (m : McD) : Prop := ∃ r : List StD, r.length = 20001 ∧ r.Nodup ∧ ∀ s ∈ r, ∃ d, Reach m d s
theorem addN_inv {m : McD} {a : Nat} {s : StD} : ∀ (mv : List MvD) (j : Nat) (l : List MtD), AddI m a s j l → (movesF m s).drop j = mv → l.length ≤ 20000 →
    (∃ l', addN m s a j mv l = some l' ∧ AddI m a s (movesF m s).length l' ∧ l.length ≤ l'.length ∧ l'.length ≤ 20000) ∨ (addN m s a j mv l = none ∧ Many m)
  | [], j, l, h, hd, hl => by
    left
    refine ⟨l, rfl, ⟨h.first, h.nodup, h.par, h.mono, h.closed, h.cur, fun i v hi hv => h.now i v ?_ hv⟩, Nat.le_refl _, hl⟩
    have := List.drop_eq_nil_iff.1 hd
    omega
  | v :: r, j, l, h, hd, hl => by
    have hj : j < (movesF m s).length := by
      rcases Nat.lt_or_ge j (movesF m s).length with h1 | h1
      · exact h1
      · rw [List.drop_eq_nil_of_le h1] at hd; cases hd
    rw [List.drop_eq_getElem_cons hj] at hd
    injection hd with hd1 hd2
    have hv : (movesF m s)[j]? = some v := by rw [List.getElem?_eq_getElem hj, hd1]
    rw [addN]
    cases hc : metIn l (doF m s v) with
    | true => simp only [if_true]; exact addN_inv r (j + 1) l (h.skip hv hc) hd2 hl
    | false =>
      simp only [Bool.false_eq_true, if_false]
      by_cases e : l.length = 20000
      · rw [if_pos e]
        right
        refine ⟨rfl, l.map Prod.fst ++ [doF m s v], by simp [e], ?_, fun x hx => ?_⟩
        · rw [List.nodup_append]
          refine ⟨h.nodup, by simp, fun x hx y hy => ?_⟩
          rw [List.mem_singleton.1 hy]; intro e; rw [← e, met_mem.2 hx] at hc; cases hc
        · have hr := par_reach h.first h.par
          rcases List.mem_append.1 hx with h1 | h1
          · obtain ⟨y, hy, rfl⟩ := List.mem_map.1 h1
            obtain ⟨n, hn⟩ := List.getElem?_of_mem hy
            exact hr n y hn
          · rw [List.mem_singleton.1 h1]
            obtain ⟨y, hy, rfl⟩ := h.cur
            obtain ⟨d, hd⟩ := hr a y hy
            exact ⟨d + 1, .step hd (List.mem_of_getElem? hv)⟩
      · rw [if_neg e]
        rcases addN_inv r (j + 1) _ (h.snoc hv hc) hd2 (by simp; omega) with ⟨l', h1, h2, h3, h4⟩ | h1
        · left; refine ⟨l', h1, h2, ?_, h4⟩; simp at h3; omega
        · right; exact h1
theorem bfsN_inv {m : McD} : ∀ (f a : Nat) (l : List MtD), BfsI m a l → a ≤ l.length → l.length ≤ 20000 → 20001 ≤ f + a →
    (∃ l', bfsN m f a l = some l' ∧ BfsI m l'.length l' ∧ l'.length ≤ 20000) ∨ (bfsN m f a l = none ∧ Many m)
  | 0, a, l, h, ha, hl, hf => by omega
  | f + 1, a, l, h, ha, hl, hf => by
    rw [bfsN]
    by_cases hlt : a < l.length
    · rw [List.getElem?_eq_getElem hlt]
      simp only
      have hi : AddI m a l[a].1 0 l := ⟨h.first, h.nodup, fun n x hx h0 => by
        obtain ⟨b, j, y, v, h1, h2, h3⟩ := h.par n x hx h0
        exact ⟨b, j, y, v, h1, by omega, h3⟩, h.mono, h.closed, ⟨l[a], List.getElem?_eq_getElem hlt, rfl⟩, fun i v hi _ => by omega⟩
      rcases addN_inv _ 0 l hi rfl hl with ⟨l', h1, h2, h3, h4⟩ | ⟨h1, h2⟩
      · rw [List.drop_zero] at h1
        rw [h1]
        simp only
        refine bfsN_inv f (a + 1) l' ⟨h2.first, h2.nodup, h2.par, h2.mono, fun b y hb hy v hv => ?_⟩ (by omega) h4 (by omega)
        by_cases e : b = a
        · subst e
          obtain ⟨z, hz, hs⟩ := h2.cur
          rw [hy] at hz; cases hz
          obtain ⟨i, hi⟩ := List.getElem?_of_mem hv
          have hi' := getq_lt hi
          rw [hs] at hi hi' ⊢
          exact h2.now i v hi' hi
        · exact h2.closed b y (by omega) hy v hv
      · rw [List.drop_zero] at h1
        rw [h1]; right; exact ⟨rfl, h2⟩
    · rw [List.getElem?_eq_none (by omega)]
      left
      exact ⟨l, rfl, by rw [show l.length = a by omega]; exact h, hl⟩
theorem all_inv (m : McD) : (∃ l, allF m = (l, 0) ∧ BfsI m l.length l ∧ l.length ≤ 20000) ∨ (allF m = ([], 5) ∧ Many m) := by
  have h0 : BfsI m 0 [(firstF m.1, -1, 0)] := ⟨rfl, by simp, fun n x hx h0 => by
    have := getq_lt hx; simp at this; omega, fun n k x y hnk hx hy => by
    have h1 := getq_lt hx; have h2 := getq_lt hy
    simp only [List.length_cons, List.length_nil] at h1 h2
    have e1 : n = 0 := by omega
    have e2 : k = 0 := by omega
    subst e1; subst e2
    cases hx; cases hy; exact Int.le_refl _, fun b y hb => by omega⟩
  rcases bfsN_inv 20001 0 _ h0 (by simp) (by simp) (by omega) with ⟨l, h1, h2, h3⟩ | ⟨h1, h2⟩
  · left; exact ⟨l, by rw [allF, bfs0, h1], h2, h3⟩
  · right; exact ⟨by rw [allF, bfs0, h1], h2⟩
theorem BfsI.met {m : McD} {l : List MtD} (h : BfsI m l.length l) {d : Nat} {s : StD} (hr : Reach m d s) : ∃ (n : Nat) (x : MtD), l[n]? = some x ∧ x.1 = s := by
  induction hr with
  | zero => exact ⟨0, _, h.first, rfl⟩
  | step _ hv ih =>
    obtain ⟨n, x, hx, rfl⟩ := ih
    obtain ⟨k, y, h1, h2, _⟩ := h.closed n x (getq_lt hx) hx _ hv
    exact ⟨k, y, h1, h2⟩
theorem nodup_len {α : Type} [DecidableEq α] : ∀ (r l : List α), r.Nodup → (∀ x ∈ r, x ∈ l) → r.length ≤ l.length
  | [], l, _, _ => Nat.zero_le _
  | x :: r, l, hn, hs => by
    have hx := hs x (by simp)
    have hn' := List.nodup_cons.1 hn
    have := nodup_len r (l.erase x) hn'.2 fun y hy => (List.mem_erase_of_ne (a := y) (b := x) (fun e => hn'.1 (by rw [← e]; exact hy))).2 (hs y (by simp [hy]))
    rw [List.length_erase_of_mem hx] at this
    have := List.length_pos_of_mem hx
    simp only [List.length_cons]; omega
theorem few_of {m m' : McD} (f : StD → StD) (hf : ∀ s d, Reach m d s → ∃ d', Reach m' d' (f s)) (hi : ∀ s s' d d', Reach m d s → Reach m d' s' → f s = f s' → s = s') (h : (allF m').2 = 0) : (allF m).2 = 0 := by
  rcases all_inv m with ⟨l, h1, _⟩ | ⟨_, r, h1, h2, h3⟩
  · rw [h1]
  · exfalso
    rcases all_inv m' with ⟨l, g1, g2, g3⟩ | ⟨g1, _⟩
    · have hn : (r.map f).Nodup := by
        rw [List.nodup_iff_pairwise_ne, List.pairwise_map]
        refine List.Pairwise.imp_of_mem ?_ (List.nodup_iff_pairwise_ne.1 h2)
        intro a b ha hb hab e
        obtain ⟨d, hd⟩ := h3 a ha
        obtain ⟨d', hd'⟩ := h3 b hb
        exact hab (hi a b d d' hd hd' e)
      have := nodup_len (r.map f) (l.map Prod.fst) hn fun y hy => by
        obtain ⟨s, hs, rfl⟩ := List.mem_map.1 hy
        obtain ⟨d, hd⟩ := h3 s hs
        obtain ⟨d', hd'⟩ := hf s d hd
        obtain ⟨n, x, hx, e⟩ := g2.met hd'
        exact List.mem_map.2 ⟨x, List.mem_of_getElem? hx, e⟩
      rw [List.length_map, List.length_map] at this
      omega
    · rw [g1] at h; cases h
def EndsAt (m : McD) (e : EnD) : Prop := ∃ d s, Reach m d s ∧ endedF m s = true ∧ endOfF m s = e
theorem endsOf_mem {m : McD} (h : (allF m).2 = 0) (e : EnD) : e ∈ endsOf m (allF m).1 ↔ EndsAt m e := by
  rcases all_inv m with ⟨l, h1, h2, _⟩ | ⟨h1, _⟩
  · rw [h1]
    unfold endsOf EndsAt
    simp only [List.mem_map, List.mem_filter]
    constructor
    · rintro ⟨x, ⟨hx, he⟩, rfl⟩
      obtain ⟨n, hn⟩ := List.getElem?_of_mem hx
      obtain ⟨d, hd⟩ := h2.reach hn
      exact ⟨d, x.1, hd, he, rfl⟩
    · rintro ⟨d, s, hd, he, rfl⟩
      obtain ⟨n, x, hx, rfl⟩ := h2.met hd
      exact ⟨x, ⟨List.mem_of_getElem? hx, he⟩, rfl⟩
  · rw [h1] at h; cases h
end Go.Proofs.Tryz
set_option autoImplicit false
set_option linter.all false
namespace Go.Proofs.Tryz
open Go Go.VM
def ltE (x y : EnD) : Bool := Go.Proofs.ltOf cmpEF x y
theorem ltE_irr (x : EnD) : ltE x x = false := cmpE_ord.swo.irrefl x
theorem ltE_tr {x y z : EnD} (h1 : ltE x y = true) (h2 : ltE y z = true) : ltE x z = true := cmpE_ord.swo.trans x y z h1 h2
theorem ltE_tot {x y : EnD} (h1 : ltE x y = false) (h2 : ltE y x = false) : x = y := cmpE_ord.tot x y h1 h2
def sortE (l : List EnD) : List EnD := List.mergeSort (α := EnD) l fun x y => !(Go.Proofs.ltOf cmpEF) y x
theorem sortE_mem (l : List EnD) (e : EnD) : e ∈ sortE l ↔ e ∈ l := List.mem_mergeSort
theorem sortE_ord (l : List EnD) : (sortE l).Pairwise fun x y => ltE y x = false := by
  have h := List.pairwise_mergeSort (le := fun x y : EnD => !(Go.Proofs.ltOf cmpEF) y x) (fun a b c h1 h2 => by
    simp only [Bool.not_eq_true'] at h1 h2 ⊢
    exact cmpE_ord.swo.ntrans c b a h2 h1) (fun a b => by
    simp only [Bool.or_eq_true, Bool.not_eq_true']
    cases h : Go.Proofs.ltOf cmpEF b a with
    | false => exact .inl rfl
    | true =>
      right
      cases h' : Go.Proofs.ltOf cmpEF a b with
      | false => rfl
      | true => have := cmpE_ord.swo.trans _ _ _ h h'; rw [cmpE_ord.swo.irrefl] at this; cases this) l
  exact h.imp fun {a b} h => by
    have h' : (!(Go.Proofs.ltOf cmpEF) b a) = true := h
    show Go.Proofs.ltOf cmpEF b a = false
    simpa using h'
theorem snocRec {α : Type} {P : List α → Prop} (h0 : P []) (h1 : ∀ l x, P l → P (l ++ [x])) (l : List α) : P l := by
  have : ∀ n, ∀ l : List α, l.length = n → P l := fun n => by
    induction n with
    | zero => intro l h; rw [List.eq_nil_of_length_eq_zero h]; exact h0
    | succ n ih =>
      intro l h
      rcases List.eq_nil_or_concat l with rfl | ⟨q, x, rfl⟩
      · cases h
      · rw [List.concat_eq_append] at h ⊢
        exact h1 q x (ih q (by simpa using h))
  exact this l.length l rfl
theorem compL_mem (l : List EnD) (e : EnD) : e ∈ compL l ↔ e ∈ l := by
  induction l using snocRec with
  | h0 => exact Iff.rfl
  | h1 l x ih =>
    rw [compL_snoc, pushE]
    split
    · rename_i hx
      rw [ih, List.mem_append, List.mem_singleton]
      constructor
      · exact .inl
      · rintro (h | rfl)
        · exact h
        · exact ih.1 (List.mem_of_getLast? hx)
    · rw [List.mem_append, List.mem_append, ih]
theorem compL_strict (l : List EnD) (h : l.Pairwise fun x y => ltE y x = false) : (compL l).Pairwise fun x y => ltE x y = true := by
  induction l using snocRec with
  | h0 => exact .nil
  | h1 l x ih =>
    rw [List.pairwise_append] at h
    obtain ⟨h1, _, h3⟩ := h
    have ih := ih h1
    rw [compL_snoc, pushE]
    split
    · exact ih
    · rename_i hx
      rw [List.pairwise_append]
      refine ⟨ih, by simp, fun y hy z hz => ?_⟩
      rw [List.mem_singleton.1 hz]
      have a1 : ltE x y = false := h3 y ((compL_mem l y).1 hy) x (by simp)
      cases a2 : ltE y x with
      | true => rfl
      | false =>
        exfalso
        have e := ltE_tot a2 a1
        subst e
        obtain ⟨i, hi, rfl⟩ := List.getElem_of_mem hy
        by_cases hl : i = (compL l).length - 1
        · exact hx (by rw [List.getLast?_eq_getElem?, ← hl, List.getElem?_eq_getElem hi])
        · have a3 := List.pairwise_iff_getElem.1 ih i ((compL l).length - 1) hi (by omega) (by omega)
          have a4 : ltE (compL l)[i] ((compL l)[(compL l).length - 1]'(by omega)) = false := h3 _ ((compL_mem l _).1 (List.getElem_mem (show (compL l).length - 1 < (compL l).length by omega))) _ (List.mem_singleton.2 rfl)
          rw [a4] at a3; cases a3
theorem strict_ext : ∀ a b : List EnD, (a.Pairwise fun x y => ltE x y = true) → (b.Pairwise fun x y => ltE x y = true) → (∀ e, e ∈ a ↔ e ∈ b) → a = b
  | [], [], _, _, _ => rfl
  | [], y :: b, _, _, h => by have := (h y).2 (by simp); cases this
  | x :: a, [], _, _, h => by have := (h x).1 (by simp); cases this
  | x :: a, y :: b, ha, hb, h => by
    rw [List.pairwise_cons] at ha hb
    have e : x = y := by
      rcases List.mem_cons.1 ((h x).1 (by simp)) with e | h1
      · exact e
      · rcases List.mem_cons.1 ((h y).2 (by simp)) with e | h2
        · exact e.symm
        · have := ltE_tr (ha.1 y h2) (hb.1 x h1); rw [ltE_irr] at this; cases this
    subst e
    rw [strict_ext a b ha.2 hb.2 fun e => ?_]
    constructor
    · intro he
      rcases List.mem_cons.1 ((h e).1 (by simp [he])) with h1 | h1
      · have := ha.1 e he; rw [h1, ltE_irr] at this; cases this
      · exact h1
    · intro he
      rcases List.mem_cons.1 ((h e).2 (by simp [he])) with h1 | h1
      · have := hb.1 e he; rw [h1, ltE_irr] at this; cases this
      · exact h1
noncomputable def endsM (m : McD) : List EnD × Int × Int := endsG sortE compL m
theorem endsM_ok {m : McD} (h : (endsM m).2.2 = 0) : checkF m.1 = 0 ∧ (allF m).2 = 0 ∧ (endsM m).1 = compL (sortE (endsOf m (allF m).1)) := by
  unfold endsM endsG at h ⊢
  split at h
  · rename_i h1; exact absurd h h1
  · rename_i h1
    split at h
    · rename_i h2; exact absurd h h2
    · rename_i h2; simp only [ne_eq, Decidable.not_not] at h1 h2; rw [if_neg (by simpa using h1), if_neg (by simpa using h2)]; exact ⟨h1, h2, rfl⟩
theorem endsM_err {m : McD} (h : checkF m.1 = 0) : (endsM m).2.2 = (allF m).2 := by
  unfold endsM endsG
  rw [if_neg (by simpa using h)]
  split
  · rfl
  · rename_i h2; simp only [ne_eq, Decidable.not_not] at h2; exact h2.symm
theorem endsM_mem {m : McD} (h : (endsM m).2.2 = 0) (e : EnD) : e ∈ (endsM m).1 ↔ EndsAt m e := by
  obtain ⟨_, h2, h3⟩ := endsM_ok h
  rw [h3, compL_mem, sortE_mem, endsOf_mem h2]
theorem endsM_strict {m : McD} (h : (endsM m).2.2 = 0) : (endsM m).1.Pairwise fun x y => ltE x y = true := by
  obtain ⟨_, h2, h3⟩ := endsM_ok h
  rw [h3]; exact compL_strict _ (sortE_ord _)
theorem endsM_ext {m m' : McD} (h : (endsM m).2.2 = 0) (h' : (endsM m').2.2 = 0) (he : ∀ e, EndsAt m e ↔ EndsAt m' e) : (endsM m).1 = (endsM m').1 :=
  strict_ext _ _ (endsM_strict h) (endsM_strict h') fun e => by rw [endsM_mem h, endsM_mem h', he e]
theorem endsM_len {m : McD} (h : (endsM m).2.2 = 0) : (endsM m).1.Nodup := by
  rw [List.nodup_iff_pairwise_ne]
  exact (endsM_strict h).imp fun {a b} hab e => by rw [e, ltE_irr] at hab; cases hab
theorem nodup_one {α : Type} {l : List α} (h : l.Nodup) (h1 : ∀ x ∈ l, ∀ y ∈ l, x = y) : l.length ≤ 1 := by
  match l, h, h1 with
  | [], _, _ => simp
  | [_], _, _ => simp
  | x :: y :: r, h, h1 =>
    have := (List.nodup_cons.1 h).1
    exact absurd (h1 y (by simp) x (by simp)) (fun e => this (by rw [← e]; simp))
theorem ok_reach {p : WkD} {b : Bool} (hp : OkP p) {d : Nat} {s : StD} (h : Reach (p, b) d s) : OkS p s := by
  induction h with
  | zero => exact first_ok hp
  | step _ hv ih => exact do_ok hp ih hv
theorem endsAt_sEn {p : WkD} {b : Bool} (hp : OkP p) {e : EnD} (h : EndsAt (p, b) e) : sEn e := by
  obtain ⟨d, s, h1, _, rfl⟩ := h
  exact ok_sEn hp (ok_reach hp h1)
theorem endsM_sEn {p : WkD} {b : Bool} (h : (endsM (p, b)).2.2 = 0) : ∀ e ∈ (endsM (p, b)).1, sEn e := fun e he =>
  endsAt_sEn ((okP_iff p).1 (endsM_ok h).1) ((endsM_mem h e).1 he)
theorem endsM_le {m : McD} (h : (endsM m).2.2 = 0) : (endsM m).1.length ≤ 20000 := by
  obtain ⟨_, h2, h3⟩ := endsM_ok h
  have := nodup_len _ (endsOf m (allF m).1) (endsM_len h) fun x hx => by rw [h3, compL_mem, sortE_mem] at hx; exact hx
  have h5 : (endsOf m (allF m).1).length ≤ (allF m).1.length := by
    have := endsOf_len m (allF m).1 (allF m).1.length
    rwa [List.take_length] at this
  rcases all_inv m with ⟨l, g1, _, g3⟩ | ⟨g1, _⟩
  · have e : (allF m).1 = l := by rw [g1]
    rw [e] at h5 this; omega
  · have e : (allF m).1 = [] := by rw [g1]
    rw [e] at h5 this; simp only [List.length_nil] at h5; omega
end Go.Proofs.Tryz
set_option autoImplicit false
set_option linter.all false
namespace Go.Proofs.Tryz
open Go Go.VM
section
variable {m : McD} {a : Nat} {l : List MtD}
end
theorem ended_iff {m : McD} {s : StD} : endedF m s = true ↔ movesF m s = [] := decide_eq_true_iff
end Go.Proofs.Tryz
set_option autoImplicit false
set_option linter.all false
namespace Go.Proofs.Tryz
open Go Go.VM
theorem nil_of {α : Type} {l : List α} (h : ∀ x, x ∉ l) : l = [] := List.eq_nil_iff_forall_not_mem.2 h
theorem no_kept {m : McD} {s : StD} (h : movesF m s = []) {k : Nat} (hk : k < s.2.length) : (thAt s k).2.2.1 = [] ∧ canF m s k = false := by
  constructor
  · apply List.eq_nil_of_length_eq_zero
    rcases Nat.eq_zero_or_pos (thAt s k).2.2.1.length with h0 | h0
    · exact h0
    · have : ((k : Int), true) ∈ movesF m s := mem_moves.2 ⟨k, hk, rfl, .inr ⟨rfl, h0⟩⟩
      rw [h] at this; cases this
  · cases hc : canF m s k with
    | false => rfl
    | true =>
      have : ((k : Int), false) ∈ movesF m s := mem_moves.2 ⟨k, hk, rfl, .inl ⟨rfl, hc⟩⟩
      rw [h] at this; cases this
theorem ended_of {m : McD} {s : StD} (h : ∀ k, k < s.2.length → (thAt s k).2.2.1 = [] ∧ canF m s k = false) : movesF m s = [] := nil_of fun v hv => by
  obtain ⟨k, h1, h2, h3⟩ := mem_moves.1 hv
  obtain ⟨g1, g2⟩ := h k h1
  rcases h3 with ⟨_, h4⟩ | ⟨_, h4⟩
  · rw [g2] at h4; cases h4
  · rw [g1] at h4; exact absurd h4 (Nat.lt_irrefl _)
theorem step_not9 (s : StD) (t : ThD) (i : InD) (h : i.1 ≠ 9) : stepF true s t i = stepF false s t i := by
  unfold stepF
  simp only [if_neg h]
theorem step_9 (b : Bool) (s : StD) (t : ThD) (i : InD) (h : i.1 = 9) : stepF b s t i = if (placeF s t i).2 = false then none else if b then some (s.1.set (placeF s t i).1.toNat (regF t.2.1 i.2.1), IntKind.i64.wrap (t.1 + 1), t.2) else some (s.1, IntKind.i64.wrap (t.1 + 1), t.2.1, t.2.2.1 ++ [((placeF s t i).1, regF t.2.1 i.2.1)], t.2.2.2) := by
  unfold stepF
  simp only [h, show ¬ ((9 : Int) = 13) by decide, show ¬ ((9 : Int) = 14) by decide, show ¬ ((9 : Int) = 15) by decide, show ¬ ((9 : Int) = 8) by decide, if_false, if_true, or_true, true_or]
theorem step_kept {s : StD} {t : ThD} {i : InD} {b : Bool} (h : b = true ∨ i.1 ≠ 9) {x : List Int × ThD} (hx : stepF b s t i = some x) : x.2.2.2.1 = t.2.2.1 := by
  unfold stepF at hx
  simp only at hx
  repeat' split at hx
  all_goals first
    | (cases hx; done)
    | (injection hx with hx; subst hx; rfl)
    | (injection hx with hx; subst hx; rename_i hs; rcases h with h | h <;> first | contradiction | skip)
theorem can_strong {p : WkD} (hp : OkP p) {s : StD} {k : Nat} (hk : (thAt s k).2.2.1 = []) : canF (p, true) s k = canF (p, false) s k := by
  have hw : ∀ i, waitsF (p, true) s (thAt s k) i = waitsF (p, false) s (thAt s k) i := fun i => by
    unfold waitsF
    by_cases h9 : i.1 = 9
    · rw [if_pos h9, if_pos h9, hk]
      have : ¬ ((([] : List KpD).length : Int) = p.2.2) := by have := hp.room.1; simp only [List.length_nil]; omega
      show (!true && _) = (!false && decide ((([] : List KpD).length : Int) = p.2.2))
      rw [decide_eq_false this]; rfl
    · rw [if_neg h9, if_neg h9]
  unfold canF
  show (_ && (_ && !waitsF (p, true) s (thAt s k) (insIn (listAt (p, false) k) (thAt s k).1))) = _
  rw [hw]; rfl
def NoKept (s : StD) : Prop := ∀ k : Nat, k < s.2.length → (thAt s k).2.2.1 = []
theorem move_plain {m : McD} {s : StD} (hn : NoKept s) {v : MvD} (hv : v ∈ movesF m s) : ∃ k : Nat, k < s.2.length ∧ v = ((k : Int), false) ∧ canF m s k = true := by
  obtain ⟨k, h1, h2, h3⟩ := mem_moves.1 hv
  rcases h3 with ⟨h3, h4⟩ | ⟨_, h4⟩
  · exact ⟨k, h1, Prod.ext h2 h3, h4⟩
  · rw [hn k h1] at h4; exact absurd h4 (Nat.lt_irrefl _)
theorem do_false {m : McD} {s : StD} {k : Nat} : doF m s ((k : Int), false) = match stepF m.2 s (thAt s k) (insIn (listAt m k) (thAt s k).1) with
    | some x => (x.1, s.2.set k x.2)
    | none => (s.1, s.2.set k ((thAt s k).1, (thAt s k).2.1, (thAt s k).2.2.1, (thAt s k).2.2.2.1, true)) := by
  unfold doF
  simp only [Int.toNat_natCast, Bool.false_eq_true, if_false]
  rfl
theorem do_true {m : McD} {s : StD} {k : Nat} : doF m s ((k : Int), true) = (s.1.set (kpAt (thAt s k).2.2.1 0).1.toNat (kpAt (thAt s k).2.2.1 0).2, s.2.set k ((thAt s k).1, (thAt s k).2.1, (thAt s k).2.2.1.drop 1, (thAt s k).2.2.2)) := by
  unfold doF
  simp only [Int.toNat_natCast, if_true]
theorem strong_nokept {p : WkD} {d : Nat} {s : StD} (h : Reach (p, true) d s) : NoKept s := by
  induction h with
  | zero =>
    intro k hk
    show ((((List.replicate p.2.1.length th0)[(k : Int).toNat]?).getD _).2.2.1 : List KpD) = []
    rw [Int.toNat_natCast, List.getElem?_replicate]
    split <;> rfl
  | @step n s v h hv ih =>
    obtain ⟨j, hj, rfl, hc⟩ := move_plain ih hv
    rw [do_false]
    intro k hk
    cases hst : stepF true s (thAt s j) (insIn (listAt (p, true) j) (thAt s j).1) with
    | some x =>
      simp only [hst] at hk ⊢
      rw [List.length_set] at hk
      rw [thAt_set hj]
      split
      · rw [step_kept (.inl rfl) hst]; exact ih j hj
      · exact ih k hk
    | none =>
      simp only [hst] at hk ⊢
      rw [List.length_set] at hk
      rw [thAt_set hj]
      split
      · exact ih j hj
      · exact ih k hk
theorem strong_weak {p : WkD} (hp : OkP p) {d : Nat} {s : StD} (h : Reach (p, true) d s) : ∃ d', Reach (p, false) d' s := by
  induction h with
  | zero => exact ⟨0, .zero⟩
  | @step n s v h hv ih =>
    obtain ⟨d', ih⟩ := ih
    have hn := strong_nokept h
    obtain ⟨j, hj, rfl, hc⟩ := move_plain hn hv
    have hcw : canF (p, false) s j = true := by rw [← can_strong hp (hn j hj)]; exact hc
    have hvw : ((j : Int), false) ∈ movesF (p, false) s := mem_moves.2 ⟨j, hj, rfl, .inl ⟨rfl, hcw⟩⟩
    by_cases h9 : (insIn (listAt (p, true) j) (thAt s j).1).1 = 9
    · by_cases hq : (placeF s (thAt s j) (insIn (listAt (p, true) j) (thAt s j).1)).2 = false
      · refine ⟨d' + 1, ?_⟩
        have : doF (p, true) s ((j : Int), false) = doF (p, false) s ((j : Int), false) := by
          rw [do_false, do_false]
          show (match stepF true s (thAt s j) (insIn (listAt (p, true) j) (thAt s j).1) with | some x => _ | none => _) = (match stepF false s (thAt s j) (insIn (listAt (p, true) j) (thAt s j).1) with | some x => _ | none => _)
          rw [step_9 _ _ _ _ h9, step_9 _ _ _ _ h9, if_pos hq, if_pos hq]
        rw [this]
        exact .step ih hvw
      · refine ⟨d' + 1 + 1, ?_⟩
        have h1 := Reach.step ih hvw
        have e1 : doF (p, false) s ((j : Int), false) = (s.1, s.2.set j (IntKind.i64.wrap ((thAt s j).1 + 1), (thAt s j).2.1, [((placeF s (thAt s j) (insIn (listAt (p, true) j) (thAt s j).1)).1, regF (thAt s j).2.1 (insIn (listAt (p, true) j) (thAt s j).1).2.1)], (thAt s j).2.2.2)) := by
          rw [do_false]
          show (match stepF false s (thAt s j) (insIn (listAt (p, true) j) (thAt s j).1) with | some x => _ | none => _) = _
          rw [step_9 _ _ _ _ h9, if_neg hq]
          simp only [Bool.false_eq_true, if_false]
          rw [hn j hj]; rfl
        rw [e1] at h1
        have hth := thAt_set (ws := s.1) (t := (IntKind.i64.wrap ((thAt s j).1 + 1), (thAt s j).2.1, [((placeF s (thAt s j) (insIn (listAt (p, true) j) (thAt s j).1)).1, regF (thAt s j).2.1 (insIn (listAt (p, true) j) (thAt s j).1).2.1)], (thAt s j).2.2.2)) (j := j) hj
        rw [if_pos rfl] at hth
        have h2 := Reach.step h1 (v := ((j : Int), true)) (mem_moves.2 ⟨j, by rw [List.length_set]; exact hj, rfl, .inr ⟨rfl, by rw [hth]; exact Nat.zero_lt_one⟩⟩)
        rw [do_true, hth] at h2
        have e2 : doF (p, true) s ((j : Int), false) = (s.1.set (placeF s (thAt s j) (insIn (listAt (p, true) j) (thAt s j).1)).1.toNat (regF (thAt s j).2.1 (insIn (listAt (p, true) j) (thAt s j).1).2.1), s.2.set j (IntKind.i64.wrap ((thAt s j).1 + 1), (thAt s j).2)) := by
          rw [do_false]
          show (match stepF true s (thAt s j) (insIn (listAt (p, true) j) (thAt s j).1) with | some x => _ | none => _) = _
          rw [step_9 _ _ _ _ h9, if_neg hq]; rfl
        rw [e2]
        refine cast ?_ h2
        congr 1
        refine Prod.ext rfl ?_
        show (s.2.set j _).set j _ = _
        rw [List.set_set]
        congr 1
        refine Prod.ext rfl (Prod.ext rfl (Prod.ext ?_ rfl))
        rw [hn j hj]; rfl
    · refine ⟨d' + 1, ?_⟩
      have : doF (p, true) s ((j : Int), false) = doF (p, false) s ((j : Int), false) := by
        rw [do_false, do_false]
        show (match stepF true s (thAt s j) (insIn (listAt (p, true) j) (thAt s j).1) with | some x => _ | none => _) = (match stepF false s (thAt s j) (insIn (listAt (p, true) j) (thAt s j).1) with | some x => _ | none => _)
        rw [step_not9 _ _ _ h9]
      rw [this]
      exact .step ih hvw
theorem ended_strong {p : WkD} (hp : OkP p) {s : StD} (hn : NoKept s) : movesF (p, true) s = [] ↔ movesF (p, false) s = [] := by
  constructor
  · intro h
    refine ended_of fun k hk => ⟨hn k hk, ?_⟩
    rw [← can_strong hp (hn k hk)]; exact (no_kept h hk).2
  · intro h
    refine ended_of fun k hk => ⟨hn k hk, ?_⟩
    rw [can_strong hp (hn k hk)]; exact (no_kept h hk).2
theorem strong_ends {p : WkD} (hp : OkP p) {e : EnD} (h : EndsAt (p, true) e) : EndsAt (p, false) e := by
  obtain ⟨d, s, h1, h2, rfl⟩ := h
  obtain ⟨d', h3⟩ := strong_weak hp h1
  exact ⟨d', s, h3, ended_iff.2 ((ended_strong hp (strong_nokept h1)).1 (ended_iff.1 h2)), rfl⟩
end Go.Proofs.Tryz
set_option autoImplicit false
set_option linter.all false
namespace Go.Proofs.Tryz
open Go Go.VM
def flW (w : List Int) (l : List KpD) : List Int := l.foldl (fun w k => w.set k.1.toNat k.2) w
theorem flW_snoc (w : List Int) (l : List KpD) (x : KpD) : flW w (l ++ [x]) = (flW w l).set x.1.toNat x.2 := by unfold flW; rw [List.foldl_append]; rfl
theorem flW_len (w : List Int) (l : List KpD) : (flW w l).length = w.length := by
  induction l using snocRec with
  | h0 => rfl
  | h1 l x ih => rw [flW_snoc, List.length_set, ih]
def strip (t : ThD) : ThD := (t.1, t.2.1, [], t.2.2.2)
theorem lk_app (l : List KpD) (x : KpD) (q : Int) : ∀ n, n ≤ l.length → lkF (l ++ [x]) q n = lkF l q n
  | 0, _ => rfl
  | n + 1, h => by
    have e : kpAt (l ++ [x]) n = kpAt l n := by unfold kpAt; rw [List.getElem?_append_left (by omega)]
    rw [lkF, lkF, e, lk_app l x q n (by omega)]
theorem reg_set {w : List Int} {k q v : Int} (hk : 0 ≤ k) (hq : 0 ≤ q ∧ q < w.length) : regF (w.set k.toNat v) q = if k = q then v else regF w q := by
  unfold regF
  rw [List.getElem?_set]
  by_cases h : k = q
  · subst h; rw [if_pos rfl, if_pos rfl, if_pos (by omega)]; rfl
  · rw [if_neg (by omega), if_neg h]
theorem lk_flush {w : List Int} {q : Int} (hq : 0 ≤ q ∧ q < w.length) (l : List KpD) (hl : ∀ x ∈ l, 0 ≤ x.1) : (match lkF l q l.length with | some v => v | none => regF w q) = regF (flW w l) q := by
  induction l using snocRec with
  | h0 => rfl
  | h1 l x ih =>
    have e : kpAt (l ++ [x]) l.length = x := by unfold kpAt; rw [List.getElem?_append_right (Nat.le_refl _), Nat.sub_self]; rfl
    rw [List.length_append, List.length_cons, List.length_nil, Nat.zero_add, lkF, e, lk_app l x q _ (Nat.le_refl _), flW_snoc, reg_set (hl x (by simp)) (by rw [flW_len]; exact hq), ← ih fun y hy => hl y (by simp [hy])]
    by_cases h : x.1 = q
    · rw [if_pos h, if_pos h]
    · rw [if_neg h, if_neg h]
theorem sees_flush {w : List Int} {ts ts' : List ThD} {t : ThD} {q : Int} (hq : 0 ≤ q ∧ q < w.length) (hl : ∀ x ∈ t.2.2.1, 0 ≤ x.1) : seesF (flW w t.2.2.1, ts') (strip t) q = seesF (w, ts) t q := by
  have h := lk_flush hq t.2.2.1 hl
  unfold seesF
  exact h.symm
theorem place_flush {w : List Int} {ts ts' : List ThD} {t : ThD} {i : InD} : placeF (flW w t.2.2.1, ts') (strip t) i = placeF (w, ts) t i := by
  unfold placeF
  simp only [flW_len, strip]
theorem waits_flush {p : WkD} {w : List Int} {ts ts' : List ThD} {t : ThD} {i : InD} (hw : w.length ≤ 1000000) (hl : ∀ x ∈ t.2.2.1, 0 ≤ x.1) (h : waitsF (p, false) (w, ts) t i = false) : waitsF (p, true) (flW w t.2.2.1, ts') (strip t) i = false := by
  unfold waitsF at h ⊢
  by_cases h9 : i.1 = 9
  · rw [if_pos h9]; rfl
  · rw [if_neg h9] at h ⊢
    by_cases h10 : i.1 = 10 ∨ i.1 = 11
    · rw [if_pos h10]; rfl
    · rw [if_neg h10] at h ⊢
      by_cases h12 : i.1 = 12
      · rw [if_pos h12] at h ⊢
        rw [place_flush (ts := ts)]
        cases hq : (placeF (w, ts) t i).2 with
        | false => rfl
        | true =>
          rw [hq] at h
          rw [sees_flush (ts := ts) (place_in5 _ _ _ hw hq) hl]; exact h
      · rw [if_neg h12]
theorem step_8 (b : Bool) (s : StD) (t : ThD) (i : InD) (h : i.1 = 8) : stepF b s t i = if (placeF s t i).2 = false then none else some (s.1, IntKind.i64.wrap (t.1 + 1), t.2.1.set i.2.1.toNat (seesF s t (placeF s t i).1), t.2.2) := by
  unfold stepF
  simp only [h, show ¬ ((8 : Int) = 13) by decide, show ¬ ((8 : Int) = 14) by decide, show ¬ ((8 : Int) = 15) by decide, if_false, if_true, or_true, true_or]
theorem step_12 (b : Bool) (s : StD) (t : ThD) (i : InD) (h : i.1 = 12) : stepF b s t i = if (placeF s t i).2 = false then none else some (s.1, IntKind.i64.wrap (t.1 + 1), t.2) := by
  unfold stepF
  simp only [h, show ¬ ((12 : Int) = 13) by decide, show ¬ ((12 : Int) = 14) by decide, show ¬ ((12 : Int) = 15) by decide, show ¬ ((12 : Int) = 8) by decide, show ¬ ((12 : Int) = 9) by decide, show ¬ ((12 : Int) = 10) by decide, if_false, if_true, or_true, true_or]
theorem step_own (b : Bool) (s : StD) (t : ThD) (i : InD) (h : ¬ memOp i) : stepF b s t i = (own t i).map fun x => (s.1, x) := by
  unfold memOp at h
  unfold stepF own
  simp only [if_neg h]
  by_cases h13 : i.1 = 13
  · simp only [if_pos h13]; rfl
  · simp only [if_neg h13]
    by_cases h14 : i.1 = 14
    · simp only [if_pos h14]; rfl
    · simp only [if_neg h14]
      by_cases h15 : i.1 = 15
      · simp only [if_pos h15]
        by_cases hl : t.2.2.2.1.length + 1 ≤ 20
        · simp only [if_pos hl]; rfl
        · simp only [if_neg hl]; rfl
      · simp only [if_neg h15]
        by_cases hw : i.1 = 1 ∨ i.1 = 2 ∨ i.1 = 3 ∨ i.1 = 4 ∨ i.1 = 5 ∨ i.1 = 6 ∨ i.1 = 7
        · simp only [if_pos hw]
          by_cases hq : (workedF t.2.1 i).2 = false
          · simp only [if_pos hq]; rfl
          · simp only [if_neg hq]; rfl
        · simp only [if_neg hw]; rfl
theorem own_kept {t : ThD} {i : InD} {x : ThD} (h : own t i = some x) : x.2.2.1 = t.2.2.1 := by
  unfold own at h
  simp only at h
  repeat' split at h
  all_goals first
    | (cases h; done)
    | (injection h with h; subst h; rfl)
theorem own_strip (t : ThD) (i : InD) : own (strip t) i = (own t i).map strip := by
  unfold own strip
  by_cases h13 : i.1 = 13
  · simp only [if_pos h13]; rfl
  · simp only [if_neg h13]
    by_cases h14 : i.1 = 14
    · simp only [if_pos h14]; rfl
    · simp only [if_neg h14]
      by_cases h15 : i.1 = 15
      · simp only [if_pos h15]
        by_cases hl : t.2.2.2.1.length + 1 ≤ 20
        · simp only [if_pos hl]; rfl
        · simp only [if_neg hl]; rfl
      · simp only [if_neg h15]
        by_cases hw : i.1 = 1 ∨ i.1 = 2 ∨ i.1 = 3 ∨ i.1 = 4 ∨ i.1 = 5 ∨ i.1 = 6 ∨ i.1 = 7
        · simp only [if_pos hw]
          by_cases hq : (workedF t.2.1 i).2 = false
          · simp only [if_pos hq]; rfl
          · simp only [if_neg hq]; rfl
        · simp only [if_neg hw]; rfl
theorem step_flush {p : WkD} {w : List Int} {ts ts' : List ThD} {t : ThD} {i : InD} (hw : w.length ≤ 1000000) (hl : ∀ x ∈ t.2.2.1, 0 ≤ x.1) (h : waitsF (p, false) (w, ts) t i = false) : stepF true (flW w t.2.2.1, ts') (strip t) i = (stepF false (w, ts) t i).map fun x => (flW x.1 x.2.2.2.1, strip x.2) := by
  by_cases hm : memOp i
  · rcases hm with h8 | h9 | h10 | h12
    · rw [step_8 _ _ _ _ h8, step_8 _ _ _ _ h8, place_flush (ts := ts)]
      cases hq : (placeF (w, ts) t i).2 with
      | false => rfl
      | true =>
        simp only [Bool.true_eq_false, if_false, Option.map_some]
        rw [sees_flush (ts := ts) (place_in5 _ _ _ hw hq) hl]; rfl
    · rw [step_9 _ _ _ _ h9, step_9 _ _ _ _ h9, place_flush (ts := ts)]
      cases hq : (placeF (w, ts) t i).2 with
      | false => rfl
      | true =>
        simp only [Bool.true_eq_false, Bool.false_eq_true, if_false, if_true, Option.map_some]
        rw [flW_snoc]; rfl
    · have hk : t.2.2.1 = [] := by
        unfold waitsF at h
        rw [if_neg (by rw [h10]; decide), if_pos (.inl h10)] at h
        apply List.eq_nil_of_length_eq_zero
        have := of_decide_eq_false h
        omega
      have hs : strip t = t := by
        unfold strip
        refine Prod.ext rfl (Prod.ext rfl (Prod.ext ?_ rfl))
        exact hk.symm
      rw [hs, hk, show flW w [] = w from rfl]
      have e : stepF true (w, ts') t i = stepF false (w, ts) t i := by
        rw [step_not9 _ _ _ (by rw [h10]; decide)]; rfl
      rw [e]
      cases hst : stepF false (w, ts) t i with
      | none => rfl
      | some x =>
        have hx := step_kept (.inr (by rw [h10]; decide)) hst
        rw [hk] at hx
        show some x = some _
        congr 1
        refine Prod.ext ?_ (Prod.ext rfl (Prod.ext rfl (Prod.ext ?_ rfl)))
        · show x.1 = flW x.1 x.2.2.2.1; rw [hx]; rfl
        · exact hx
    · rw [step_12 _ _ _ _ h12, step_12 _ _ _ _ h12, place_flush (ts := ts)]
      cases hq : (placeF (w, ts) t i).2 <;> rfl
  · rw [step_own _ _ _ _ hm, step_own _ _ _ _ hm, own_strip]
    cases ho : own t i with
    | none => rfl
    | some x => show some _ = some _; rw [← own_kept ho]
def G1 (s : StD) : StD := (flW s.1 (thAt s (0 : Nat)).2.2.1, s.2.map strip)
theorem one_th {s : StD} (h : s.2.length = 1) : ∃ t, s = (s.1, [t]) := by
  obtain ⟨w, ts⟩ := s
  match ts, h with
  | [t], _ => exact ⟨t, rfl⟩
theorem alone_move {p : WkD} (hp : OkP p) (h1 : p.2.1.length = 1) {s : StD} (hs : OkS p s) {v : MvD} (hv : v ∈ movesF (p, false) s) :
    G1 (doF (p, false) s v) = G1 s ∨ ∃ v', v' ∈ movesF (p, true) (G1 s) ∧ doF (p, true) (G1 s) v' = G1 (doF (p, false) s v) := by
  have hl1 : s.2.length = 1 := by rw [hs.tl]; exact h1
  have hb := ok_bS hp hs
  have hT := hs.th 0 (by omega)
  obtain ⟨t, e⟩ := one_th hl1
  obtain ⟨k, hk, hv1, hv2⟩ := mem_moves.1 hv
  have hk0 : k = 0 := by omega
  subst hk0
  generalize hw : s.1 = w at *
  subst e
  have et : thAt (w, [t]) ((0 : Nat) : Int) = t := rfl
  rw [et] at hv2 hT
  have hl : ∀ x ∈ t.2.2.1, 0 ≤ x.1 := fun x hx => (hT.kps x hx).1.1
  rcases hv2 with ⟨hf, hc⟩ | ⟨hf, hc⟩
  · right
    have ev : v = (((0 : Nat) : Int), false) := Prod.ext hv1 hf
    subst ev
    obtain ⟨c1, c2, c3⟩ := can_t.1 hc
    rw [et] at c1 c2 c3
    have eG : thAt (G1 (w, [t])) ((0 : Nat) : Int) = strip t := rfl
    have eG1 : G1 (w, [t]) = (flW w t.2.2.1, [strip t]) := rfl
    refine ⟨(((0 : Nat) : Int), false), mem_moves.2 ⟨0, by rw [eG1]; exact Nat.zero_lt_one, rfl, .inl ⟨rfl, can_t.2 ⟨c1, c2, ?_⟩⟩⟩, ?_⟩
    · rw [eG]; exact waits_flush hb.1 hl c3
    · rw [do_false, do_false, eG, et]
      show (match stepF true (flW w t.2.2.1, [strip t]) (strip t) (insIn (listAt (p, false) (0 : Nat)) t.1) with | some x => _ | none => _) = _
      rw [step_flush (ts := [t]) hb.1 hl c3]
      show _ = G1 (match stepF false (w, [t]) t (insIn (listAt (p, false) (0 : Nat)) t.1) with | some x => _ | none => _)
      cases stepF false (w, [t]) t (insIn (listAt (p, false) (0 : Nat)) t.1) <;> rfl
  · left
    have ev : v = (((0 : Nat) : Int), true) := Prod.ext hv1 hf
    subst ev
    rw [do_true, et]
    obtain ⟨a, r, kp, tl, f⟩ := t
    cases kp with
    | nil => exact absurd hc (Nat.lt_irrefl _)
    | cons x l => rfl
theorem alone_reach {p : WkD} (hp : OkP p) (h1 : p.2.1.length = 1) {d : Nat} {s : StD} (h : Reach (p, false) d s) : ∃ d', Reach (p, true) d' (G1 s) := by
  induction h with
  | zero =>
    refine ⟨0, ?_⟩
    have e : G1 (firstF p) = firstF p := by
      unfold G1 firstF
      rw [h1]; rfl
    show Reach (p, true) 0 (G1 (firstF p))
    rw [e]; exact .zero
  | @step n s v h hv ih =>
    obtain ⟨d', ih⟩ := ih
    rcases alone_move hp h1 (ok_reach hp h) hv with e | ⟨v', g1, g2⟩
    · rw [e]; exact ⟨d', ih⟩
    · rw [← g2]; exact ⟨d' + 1, .step ih g1⟩
theorem alone_ends {p : WkD} (hp : OkP p) (h1 : p.2.1.length = 1) (e : EnD) : EndsAt (p, false) e ↔ EndsAt (p, true) e := by
  constructor
  · rintro ⟨d, s, h2, h3, rfl⟩
    obtain ⟨d', h4⟩ := alone_reach hp h1 h2
    have hs := ok_reach hp h2
    have hl1 : s.2.length = 1 := by rw [hs.tl]; exact h1
    have hk := no_kept (ended_iff.1 h3) (k := 0) (by omega)
    have eG : G1 s = s := by
      obtain ⟨t, e⟩ := one_th hl1
      generalize s.1 = w at e
      subst e
      have : t.2.2.1 = [] := hk.1
      show (flW w t.2.2.1, [strip t]) = (w, [t])
      rw [this]
      refine Prod.ext rfl ?_
      show [strip t] = [t]
      congr 1
      exact Prod.ext rfl (Prod.ext rfl (Prod.ext this.symm rfl))
    rw [eG] at h4
    exact ⟨d', s, h4, ended_iff.2 ((ended_strong hp (strong_nokept h4)).2 (ended_iff.1 h3)), rfl⟩
  · exact strong_ends hp
theorem reach_pre {m : McD} {d : Nat} {s : StD} (h : Reach m d s) : ∀ d1, d1 < d → ∃ s1 v, Reach m d1 s1 ∧ v ∈ movesF m s1 := by
  induction h with
  | zero => intro d1 h; omega
  | @step n s v h hv ih =>
    intro d1 hd
    by_cases e : d1 = n
    · subst e; exact ⟨s, v, h, hv⟩
    · exact ih d1 (by omega)
theorem det_reach {m : McD} (hd : ∀ d s, Reach m d s → ∀ v ∈ movesF m s, ∀ v' ∈ movesF m s, v = v') {d : Nat} {s : StD} (h : Reach m d s) : ∀ s', Reach m d s' → s = s' := by
  induction h with
  | zero => intro s' h'; cases h'; rfl
  | @step n s v h hv ih =>
    intro s' h'
    cases h' with
    | @step _ s2 v2 h2 hv2 =>
      have e := ih s2 h2
      subst e
      rw [hd n s h v hv v2 hv2]
theorem det_ends {m : McD} (hd : ∀ d s, Reach m d s → ∀ v ∈ movesF m s, ∀ v' ∈ movesF m s, v = v') {e e' : EnD} (h : EndsAt m e) (h' : EndsAt m e') : e = e' := by
  obtain ⟨d, s, h1, h2, rfl⟩ := h
  obtain ⟨d', s', h1', h2', rfl⟩ := h'
  rw [ended_iff] at h2 h2'
  have hdd : d = d' := by
    rcases Nat.lt_trichotomy d d' with h | h | h
    · obtain ⟨s1, v, g1, g2⟩ := reach_pre h1' d h
      rw [← det_reach hd h1 s1 g1, h2] at g2; cases g2
    · exact h
    · obtain ⟨s1, v, g1, g2⟩ := reach_pre h1 d' h
      rw [← det_reach hd h1' s1 g1, h2'] at g2; cases g2
  subst hdd
  rw [det_reach hd h1 s' h1']
theorem alone_one {p : WkD} (hp : OkP p) (h1 : p.2.1.length = 1) {e e' : EnD} (h : EndsAt (p, true) e) (h' : EndsAt (p, true) e') : e = e' := by
  refine det_ends (fun d s hr v hv v' hv' => ?_) h h'
  have hl1 : s.2.length = 1 := by rw [(ok_reach hp hr).tl]; exact h1
  obtain ⟨k, k1, rfl, _⟩ := move_plain (strong_nokept hr) hv
  obtain ⟨j, j1, rfl, _⟩ := move_plain (strong_nokept hr) hv'
  rw [show k = j by omega]
theorem strong_few {p : WkD} (hp : OkP p) (h : (allF (p, false)).2 = 0) : (allF (p, true)).2 = 0 :=
  few_of id (fun s d hr => strong_weak hp hr) (fun s s' d d' _ _ e => e) h
end Go.Proofs.Tryz
set_option autoImplicit false
set_option linter.all false
namespace Go.Proofs.Tryz
open Go Go.VM
theorem th_in {s : StD} {k : Nat} (h : k < s.2.length) : s.2[k]? = some (thAt s k) := by
  unfold thAt; rw [Int.toNat_natCast, List.getElem?_eq_getElem h]; rfl
theorem state_ext {s s' : StD} (h1 : s.1 = s'.1) (h2 : s.2.length = s'.2.length) (h3 : ∀ k : Nat, k < s.2.length → thAt s k = thAt s' k) : s = s' := by
  refine Prod.ext h1 (List.ext_getElem? fun k => ?_)
  rcases Nat.lt_or_ge k s.2.length with h | h
  · rw [th_in h, th_in (by omega), h3 k h]
  · rw [List.getElem?_eq_none h, List.getElem?_eq_none (by omega)]
theorem ins_mem {p : WkD} {b : Bool} {k : Nat} {t : ThD} (hk : k < p.2.1.length) (h0 : 0 ≤ t.1) (h : t.1 < (listAt (p, b) k).length) : ∃ l ∈ p.2.1, insIn (listAt (p, b) k) t.1 ∈ l :=
  ⟨_, listAt_mem hk, insIn_mem ⟨h0, h⟩⟩
def NoSt (p : WkD) : Prop := ∀ l ∈ p.2.1, ∀ i ∈ l, i.1 ≠ 9 ∧ i.1 ≠ 10
def go1 (p : WkD) (k : Nat) (t : ThD) : ThD := match stepF false (p.1, []) t (insIn (listAt (p, false) k) t.1) with
  | some x => x.2
  | none => (t.1, t.2.1, t.2.2.1, t.2.2.2.1, true)
def can1 (p : WkD) (k : Nat) (t : ThD) : Bool := !t.2.2.2.2 && (decide (t.1 < (listAt (p, false) k).length) && !waitsF (p, false) (p.1, []) t (insIn (listAt (p, false) k) t.1))
def trail (p : WkD) (k : Nat) : Nat → ThD
  | 0 => th0
  | n + 1 => go1 p k (trail p k n)
theorem step_mem {s : StD} {t : ThD} {i : InD} (h : i.1 ≠ 9 ∧ i.1 ≠ 10) {x : List Int × ThD} (hx : stepF false s t i = some x) : x.1 = s.1 := by
  by_cases hm : memOp i
  · rcases hm with h8 | h9 | h10 | h12
    · rw [step_8 _ _ _ _ h8] at hx
      split at hx
      · cases hx
      · injection hx with hx; rw [← hx]
    · exact absurd h9 h.1
    · exact absurd h10 h.2
    · rw [step_12 _ _ _ _ h12] at hx
      split at hx
      · cases hx
      · injection hx with hx; rw [← hx]
  · rw [step_own _ _ _ _ hm] at hx
    cases ho : own t i with
    | none => rw [ho] at hx; cases hx
    | some y => rw [ho] at hx; injection hx with hx; rw [← hx]
structure QuietS (p : WkD) (s : StD) : Prop where
  w : s.1 = p.1
  len : s.2.length = p.2.1.length
  tr : ∀ k : Nat, k < s.2.length → (thAt s k).2.2.1 = [] ∧ ∃ n, thAt s k = trail p k n ∧ ∀ j, j < n → can1 p k (trail p k j) = true
theorem can_quiet {p : WkD} {s : StD} (h : s.1 = p.1) (k : Nat) : canF (p, false) s k = can1 p k (thAt s k) := by
  obtain ⟨w, ts⟩ := s
  have h : w = p.1 := h
  subst h; rfl
theorem quiet_reach {p : WkD} (hp : OkP p) (hn : NoSt p) {d : Nat} {s : StD} (h : Reach (p, false) d s) : QuietS p s := by
  induction h with
  | zero =>
    refine ⟨rfl, by show (List.replicate _ _).length = _; rw [List.length_replicate], fun k hk => ?_⟩
    have e : thAt (firstF p) k = th0 := by
      have := th_in hk
      have h2 : (firstF p).2[k]? = some th0 := by
        show (List.replicate _ _)[k]? = _
        rw [List.getElem?_replicate, if_pos]
        have hk' : k < (List.replicate p.2.1.length th0).length := hk
        rwa [List.length_replicate] at hk'
      have h3 := th_in hk
      rw [h2] at h3; injection h3 with h3; exact h3.symm
    exact ⟨by rw [show ((p, false) : McD).1 = p from rfl, e]; rfl, 0, e, fun j hj => by omega⟩
  | @step n s v h hv ih =>
    have hs := ok_reach hp h
    obtain ⟨j, hj, rfl, hc⟩ := move_plain (fun k hk => (ih.tr k hk).1) hv
    have hc1 : can1 p j (thAt s j) = true := by rw [← can_quiet ih.w]; exact hc
    obtain ⟨c1, c2, c3⟩ := can_t.1 hc
    have hT := hs.th j hj
    obtain ⟨l, hl, hi⟩ := ins_mem (b := false) (by rw [← hs.tl]; exact hj) hT.at0 c2
    have h910 := hn l hl _ hi
    obtain ⟨g1, m, g2, g3⟩ := ih.tr j hj
    have key : ∃ t', doF (p, false) s ((j : Int), false) = (s.1, s.2.set j t') ∧ t' = go1 p j (thAt s j) ∧ t'.2.2.1 = [] := by
      rw [do_false]
      have est : stepF false s (thAt s j) (insIn (listAt (p, false) j) (thAt s j).1) = stepF false (p.1, []) (thAt s j) (insIn (listAt (p, false) j) (thAt s j).1) := by
        have e : ∀ (w : List Int) (ts : List ThD) (t : ThD) (i : InD), stepF false (w, ts) t i = stepF false (w, []) t i := fun _ _ _ _ => rfl
        rw [← ih.w, ← e s.1 s.2]
      show ∃ t', (match stepF false s (thAt s j) (insIn (listAt (p, false) j) (thAt s j).1) with | some x => (x.1, s.2.set j x.2) | none => (s.1, s.2.set j ((thAt s j).1, (thAt s j).2.1, (thAt s j).2.2.1, (thAt s j).2.2.2.1, true))) = (s.1, s.2.set j t') ∧ t' = go1 p j (thAt s j) ∧ t'.2.2.1 = []
      unfold go1
      cases hst : stepF false s (thAt s j) (insIn (listAt (p, false) j) (thAt s j).1) with
      | some x =>
        rw [est] at hst
        rw [hst]
        rw [← est] at hst
        exact ⟨x.2, by simp only; rw [step_mem h910 hst], rfl, by rw [step_kept (.inr h910.1) hst]; exact g1⟩
      | none =>
        rw [est] at hst
        rw [hst]
        exact ⟨_, rfl, rfl, g1⟩
    obtain ⟨t', e1, e2, e3⟩ := key
    rw [e1]
    refine ⟨ih.w, by rw [List.length_set]; exact ih.len, fun k hk => ?_⟩
    rw [List.length_set] at hk
    rw [thAt_set hj]
    by_cases hkj : (k : Int) = (j : Int)
    · rw [if_pos (by exact_mod_cast hkj)]
      have hkj' : k = j := by omega
      subst hkj'
      refine ⟨e3, m + 1, by rw [e2, g2]; rfl, fun i hi => ?_⟩
      by_cases he : i = m
      · subst he; rw [← g2]; exact hc1
      · exact g3 i (by omega)
    · rw [if_neg (by omega)]
      exact ih.tr k hk
theorem quiet_one {p : WkD} (hp : OkP p) (hn : NoSt p) {e e' : EnD} (h : EndsAt (p, false) e) (h' : EndsAt (p, false) e') : e = e' := by
  obtain ⟨d, s, h1, h2, rfl⟩ := h
  obtain ⟨d', s', h1', h2', rfl⟩ := h'
  have q := quiet_reach hp hn h1
  have q' := quiet_reach hp hn h1'
  congr 1
  refine state_ext (q.w.trans q'.w.symm) (q.len.trans q'.len.symm) fun k hk => ?_
  have hk' : k < s'.2.length := by rw [q'.len, ← q.len]; exact hk
  obtain ⟨_, n, g2, g3⟩ := q.tr k hk
  obtain ⟨_, n', g2', g3'⟩ := q'.tr k hk'
  have c := (no_kept (ended_iff.1 h2) hk).2
  have c' := (no_kept (ended_iff.1 h2') hk').2
  rw [can_quiet q.w, g2] at c
  rw [can_quiet q'.w, g2'] at c'
  have : n = n' := by
    rcases Nat.lt_trichotomy n n' with h | h | h
    · rw [g3' n h] at c; cases c
    · exact h
    · rw [g3 n' h] at c'; cases c'
  rw [g2, g2', this]
end Go.Proofs.Tryz
set_option autoImplicit false
set_option linter.all false
namespace Go.Proofs.Tryz
open Go Go.VM
set_option maxRecDepth 100000
def S32 (H : LwF) : VM.Spec := ⟨[Wk], [.bool], fun x => H.pR x.1, fun x => (H.right x.1, ())⟩
def S33 (H : LwF) : VM.Spec := ⟨[Wk], [.sl En, .bool], fun x => H.pL x.1, fun x => ((H.list x.1).1, (H.list x.1).2, ())⟩
noncomputable def oH (G : AwF) (H : LwF) : List (Nat × FT) := [(18, .spec (S18 G)), (32, .spec (S32 H)), (33, .spec (S33 H))]
def LWU : VM.Spec := ⟨[Wk, U8], [.bool], fun x => bwTF x.1 ∧ 0 ≤ x.2.1 ∧ x.2.1 < 256, fun _ => (true, ())⟩
def n32 (L : Lv) (F : BxF) (G : AwF) (H : LwF) (p : WkD)  : VC :=
 let z1 := (Prod.fst p, Prod.fst (Prod.snd p), Prod.snd (Prod.snd p));
 let z2 := (LwF.right H p, ()); VC.obl (BxF.bwT F z1) (VC.br (BxF.thin F z1) (VC.obl (BxF.bw F z1) (VC.br (Lv.cmp L BinOp.eql (BxF.check F z1) 0) (VC.ok ((true, ()) = z2)) (VC.ok
   ((false, ()) = z2)))) (VC.ok ((false, ()) = z2)))
theorem n32_eq (L : Lv) (F : BxF) (G : AwF) (H : LwF) (p : WkD) : vcO L F [] [17, 22] 3 (D32 a0) (S32 H) (p, ()) = n32 L F G H p := by kernel_rfl
theorem n32_go (L : Lv) (F : BxF) (G : AwF) (H : LwF) (p : WkD) (h : VC.holds (n32 L F G H p)) : Holds (vcO L F [] [17, 22] 3 (D32 a0) (S32 H) (p, ())) := Holds.of_eq (n32_eq L F G H p) h
def n33 (L : Lv) (F : BxF) (G : AwF) (H : LwF) (p : WkD)  : VC :=
 let z1 := (Prod.fst p, Prod.fst (Prod.snd p), Prod.snd (Prod.snd p));
 let z2 := BxF.bw F z1;
 let z3 := (BxF.ends F (z1, false));
 let z4 := (Prod.fst (LwF.list H p), Prod.snd (LwF.list H p), ()); VC.obl z2 (VC.obl z2 (VC.br (Lv.cmp L BinOp.eql (Prod.snd (Prod.snd z3)) 0) (VC.ok ((Prod.fst z3, true, ()) = z4))
   (VC.ok ((Prod.fst z3, false, ()) = z4))))
theorem n33_eq (L : Lv) (F : BxF) (G : AwF) (H : LwF) (p : WkD) : vcO L F [] [19, 20] 3 (D33 a0) (S33 H) (p, ()) = n33 L F G H p := by kernel_rfl
theorem n33_go (L : Lv) (F : BxF) (G : AwF) (H : LwF) (p : WkD) (h : VC.holds (n33 L F G H p)) : Holds (vcO L F [] [19, 20] 3 (D33 a0) (S33 H) (p, ())) := Holds.of_eq (n33_eq L F G H p) h
def n8 (L : Lv) (F : BxF) (G : AwF) (H : LwF) (I : Ds [It] → Prop) (mu : Ds [It] → Nat) (I2 : Int × Unit → Ds [It] → Prop) (m2 : Int × Unit → Ds [It] → Nat) (p : WkD) (wh : Int)  : VC :=
 let z1 := Prod.snd p;
 let z2 := (Prod.fst p, Prod.fst z1, Prod.snd z1);
 let z3 := Prod.fst z1;
 let z4 := Lv.llen L (Ty.sl In) z3;
 let z5 := Lv.cast L z4;
 let z6 := Lv.dv L BinOp.rem IntKind.i64 (Lv.conv L IntKind.i64 wh) z5;
 let z7 := Lv.drop L (Ty.sl In) (Lv.take L (Ty.sl In) z3 (Lv.toN L z5)) (Lv.toN L z6);
 let z8 := Lv.take L (Ty.sl In) z7 (Lv.toN L 1);
 let z9 := Lv.toN L (Lv.cast L 0);
 let z10 := (Prod.fst p, Lv.drop L (Ty.sl In) z8 z9, Prod.snd z1);
 let z11 := LwF.list H z10;
 let z12 := BxF.bw F z10;
 let z13 := (BxF.ends F (z10, true));
 let z14 := Lv.cmp L BinOp.eql (Prod.snd (Prod.snd z13)) 0;
 let z15 := Prod.fst z11;
 let z16 := Lv.cmp L BinOp.gtr (Lv.cast L (Lv.llen L En z15)) 1;
 let z17 := Prod.fst z13;
 let z18 := (BxF.ble F z15 ∧ BxF.ble F z17);
 let z19 := BxF.sameEs F z15 z17;
 let z20 := Prod.fst p;
 let z21 := Prod.snd z1;
 let z22 := Lv.drop L (Ty.sl In) z8 z9;
 let z23 := Int × Unit;
 let z24 := LwF.pL H z2;
 let z25 := LwF.list H z2;
 let z26 := Prod.snd z25;
 let z27 := Lv.cmp L BinOp.leq (Lv.cast L (Lv.llen L En (Prod.fst z25))) 1; VC.obl (LwF.pR H z2) (VC.br (LwF.right H z2) (VC.obl (BxF.bw F z2) (VC.obl (Lv.ne0 L z5) (VC.obl (Lv.le3
   L z6 z5 z4) (VC.obl (Lv.le3 L (Lv.cast L 0) 1 (Lv.llen L (Ty.sl In) z7)) (VC.obl (LwF.pL H z10) (VC.br (Prod.snd z11) (VC.obl z12 (VC.obl z12 (VC.br z14 (VC.br (Lv.bnot L (Lv.beq
   L true true)) (VC.ok ((false, ()) = (true, ()))) (VC.br z16 (VC.ok ((false, ()) = (true, ()))) (VC.obl z18 (VC.br z19 (VC.obl (St.mk 112 [(2, V.c (C.ptr 1 0)), (11, V.c (C.int
   IntKind.i64 0))] [(0, Ob.amb), (1, Ob.box 25 [C.sl It z20, C.sl (Ty.sl In) z3, C.int IntKind.i64 z21]), (2, Ob.box 25 [C.sl It z20, C.sl (Ty.sl In) z22, C.int IntKind.i64 z21])]
   3 = St.mk 112 [(2, V.c (C.ptr 1 0)), (11, V.c (C.int IntKind.i64 0))] [(0, Ob.amb), (1, Ob.box 25 [C.sl It z20, C.sl (Ty.sl In) z3, C.int IntKind.i64 z21]), (2, Ob.box 25 [C.sl
   It z20, C.sl (Ty.sl In) z22, C.int IntKind.i64 z21])] 3) (VC.obl (I (0, ())) (VC.all z23 fun (v1 : Int × Unit) =>
 let z28 := Prod.fst v1;
 let z29 := (Prod.fst v1, ());
 let z30 := Lv.inR L z28 z4;
 let z31 := Lv.get L (Ty.sl In) z3 (Lv.toN L z28);
 let z32 := Lv.llen L In z31;
 let z33 := Lv.ar L BinOp.add IntKind.i64 z28 1;
 let z34 := (Lv.ar L BinOp.add IntKind.i64 z28 1, ()); VC.imp (I v1) (VC.br (Lv.cmp L BinOp.lss z28 z5) (VC.obl (St.mk 112 [(2, V.c (C.ptr 1 0)), (11, V.c (C.int IntKind.i64 z28)),
   (12, V.c (C.int IntKind.i64 0))] [(0, Ob.amb), (1, Ob.box 25 [C.sl It z20, C.sl (Ty.sl In) z3, C.int IntKind.i64 z21]), (2, Ob.box 25 [C.sl It z20, C.sl (Ty.sl In) z22, C.int
   IntKind.i64 z21])] 3 = St.mk 112 [(2, V.c (C.ptr 1 0)), (11, V.c (C.int IntKind.i64 z28)), (12, V.c (C.int IntKind.i64 0))] [(0, Ob.amb), (1, Ob.box 25 [C.sl It z20, C.sl (Ty.sl
   In) z3, C.int IntKind.i64 z21]), (2, Ob.box 25 [C.sl It z20, C.sl (Ty.sl In) z22, C.int IntKind.i64 z21])] 3) (VC.obl (I2 z29 (0, ())) (VC.all z23 fun (v2 : Int × Unit) =>
 let z35 := Prod.fst v2;
 let z36 := Prod.fst (Lv.get L In z31 (Lv.toN L z35));
 let z37 := Lv.ar L BinOp.add IntKind.i64 z35 1;
 let z38 := (Lv.ar L BinOp.add IntKind.i64 z35 1, ()); VC.imp (I2 z29 v2) (VC.obl z30 (VC.br (Lv.cmp L BinOp.lss z35 (Lv.cast L z32)) (VC.obl z30 (VC.obl (Lv.inR L z35 z32) (VC.br
   (Lv.cmp L BinOp.eql z36 9) (VC.obl True (VC.br (AwF.aw G) (VC.ok ((true, ()) = (true, ()))) (VC.ok ((false, ()) = (true, ()))))) (VC.br (Lv.cmp L BinOp.eql z36 10) (VC.obl True
   (VC.br (AwF.aw G) (VC.ok ((true, ()) = (true, ()))) (VC.ok ((false, ()) = (true, ()))))) (VC.ok (St.mk 112 [(2, V.c (C.ptr 1 0)), (11, V.c (C.int IntKind.i64 z28)), (12, V.c
   (C.int IntKind.i64 z37))] [(0, Ob.amb), (1, Ob.box 25 [C.sl It z20, C.sl (Ty.sl In) z3, C.int IntKind.i64 z21]), (2, Ob.box 25 [C.sl It z20, C.sl (Ty.sl In) z22, C.int
   IntKind.i64 z21])] 3 = St.mk 112 [(2, V.c (C.ptr 1 0)), (11, V.c (C.int IntKind.i64 z28)), (12, V.c (C.int IntKind.i64 z37))] [(0, Ob.amb), (1, Ob.box 25 [C.sl It z20, C.sl
   (Ty.sl In) z3, C.int IntKind.i64 z21]), (2, Ob.box 25 [C.sl It z20, C.sl (Ty.sl In) z22, C.int IntKind.i64 z21])] 3 ∧ I2 z29 z38 ∧ m2 z29 z38 < m2 z29 v2)))))) (VC.ok (St.mk 112
   [(2, V.c (C.ptr 1 0)), (11, V.c (C.int IntKind.i64 z33))] [(0, Ob.amb), (1, Ob.box 25 [C.sl It z20, C.sl (Ty.sl In) z3, C.int IntKind.i64 z21]), (2, Ob.box 25 [C.sl It z20, C.sl
   (Ty.sl In) z22, C.int IntKind.i64 z21])] 3 = St.mk 112 [(2, V.c (C.ptr 1 0)), (11, V.c (C.int IntKind.i64 z33))] [(0, Ob.amb), (1, Ob.box 25 [C.sl It z20, C.sl (Ty.sl In) z3,
   C.int IntKind.i64 z21]), (2, Ob.box 25 [C.sl It z20, C.sl (Ty.sl In) z22, C.int IntKind.i64 z21])] 3 ∧ I z34 ∧ mu z34 < mu v1))))))) (VC.obl z24 (VC.br z26 (VC.br z27 (VC.obl
   True (VC.br (AwF.aw G) (VC.ok ((true, ()) = (true, ()))) (VC.ok ((false, ()) = (true, ()))))) (VC.ok ((false, ()) = (true, ())))) (VC.obl True (VC.br (AwF.aw G) (VC.ok ((true,
   ()) = (true, ()))) (VC.ok ((false, ()) = (true, ()))))))))))) (VC.ok ((false, ()) = (true, ()))))))) (VC.br (Lv.bnot L (Lv.beq L true false)) (VC.ok ((false, ()) = (true, ())))
   (VC.br z16 (VC.ok ((false, ()) = (true, ()))) (VC.obl z18 (VC.br z19 (VC.obl (St.mk 112 [(2, V.c (C.ptr 1 0)), (11, V.c (C.int IntKind.i64 0))] [(0, Ob.amb), (1, Ob.box 25 [C.sl
   It z20, C.sl (Ty.sl In) z3, C.int IntKind.i64 z21]), (2, Ob.box 25 [C.sl It z20, C.sl (Ty.sl In) z22, C.int IntKind.i64 z21])] 3 = St.mk 112 [(2, V.c (C.ptr 1 0)), (11, V.c
   (C.int IntKind.i64 0))] [(0, Ob.amb), (1, Ob.box 25 [C.sl It z20, C.sl (Ty.sl In) z3, C.int IntKind.i64 z21]), (2, Ob.box 25 [C.sl It z20, C.sl (Ty.sl In) z22, C.int IntKind.i64
   z21])] 3) (VC.obl (I (0, ())) (VC.all z23 fun (v3 : Int × Unit) =>
 let z39 := Prod.fst v3;
 let z40 := (Prod.fst v3, ());
 let z41 := Lv.inR L z39 z4;
 let z42 := Lv.get L (Ty.sl In) z3 (Lv.toN L z39);
 let z43 := Lv.llen L In z42;
 let z44 := Lv.ar L BinOp.add IntKind.i64 z39 1;
 let z45 := (Lv.ar L BinOp.add IntKind.i64 z39 1, ()); VC.imp (I v3) (VC.br (Lv.cmp L BinOp.lss z39 z5) (VC.obl (St.mk 112 [(2, V.c (C.ptr 1 0)), (11, V.c (C.int IntKind.i64 z39)),
   (12, V.c (C.int IntKind.i64 0))] [(0, Ob.amb), (1, Ob.box 25 [C.sl It z20, C.sl (Ty.sl In) z3, C.int IntKind.i64 z21]), (2, Ob.box 25 [C.sl It z20, C.sl (Ty.sl In) z22, C.int
   IntKind.i64 z21])] 3 = St.mk 112 [(2, V.c (C.ptr 1 0)), (11, V.c (C.int IntKind.i64 z39)), (12, V.c (C.int IntKind.i64 0))] [(0, Ob.amb), (1, Ob.box 25 [C.sl It z20, C.sl (Ty.sl
   In) z3, C.int IntKind.i64 z21]), (2, Ob.box 25 [C.sl It z20, C.sl (Ty.sl In) z22, C.int IntKind.i64 z21])] 3) (VC.obl (I2 z40 (0, ())) (VC.all z23 fun (v4 : Int × Unit) =>
 let z46 := Prod.fst v4;
 let z47 := Prod.fst (Lv.get L In z42 (Lv.toN L z46));
 let z48 := Lv.ar L BinOp.add IntKind.i64 z46 1;
 let z49 := (Lv.ar L BinOp.add IntKind.i64 z46 1, ()); VC.imp (I2 z40 v4) (VC.obl z41 (VC.br (Lv.cmp L BinOp.lss z46 (Lv.cast L z43)) (VC.obl z41 (VC.obl (Lv.inR L z46 z43) (VC.br
   (Lv.cmp L BinOp.eql z47 9) (VC.obl True (VC.br (AwF.aw G) (VC.ok ((true, ()) = (true, ()))) (VC.ok ((false, ()) = (true, ()))))) (VC.br (Lv.cmp L BinOp.eql z47 10) (VC.obl True
   (VC.br (AwF.aw G) (VC.ok ((true, ()) = (true, ()))) (VC.ok ((false, ()) = (true, ()))))) (VC.ok (St.mk 112 [(2, V.c (C.ptr 1 0)), (11, V.c (C.int IntKind.i64 z39)), (12, V.c
   (C.int IntKind.i64 z48))] [(0, Ob.amb), (1, Ob.box 25 [C.sl It z20, C.sl (Ty.sl In) z3, C.int IntKind.i64 z21]), (2, Ob.box 25 [C.sl It z20, C.sl (Ty.sl In) z22, C.int
   IntKind.i64 z21])] 3 = St.mk 112 [(2, V.c (C.ptr 1 0)), (11, V.c (C.int IntKind.i64 z39)), (12, V.c (C.int IntKind.i64 z48))] [(0, Ob.amb), (1, Ob.box 25 [C.sl It z20, C.sl
   (Ty.sl In) z3, C.int IntKind.i64 z21]), (2, Ob.box 25 [C.sl It z20, C.sl (Ty.sl In) z22, C.int IntKind.i64 z21])] 3 ∧ I2 z40 z49 ∧ m2 z40 z49 < m2 z40 v4)))))) (VC.ok (St.mk 112
   [(2, V.c (C.ptr 1 0)), (11, V.c (C.int IntKind.i64 z44))] [(0, Ob.amb), (1, Ob.box 25 [C.sl It z20, C.sl (Ty.sl In) z3, C.int IntKind.i64 z21]), (2, Ob.box 25 [C.sl It z20, C.sl
   (Ty.sl In) z22, C.int IntKind.i64 z21])] 3 = St.mk 112 [(2, V.c (C.ptr 1 0)), (11, V.c (C.int IntKind.i64 z44))] [(0, Ob.amb), (1, Ob.box 25 [C.sl It z20, C.sl (Ty.sl In) z3,
   C.int IntKind.i64 z21]), (2, Ob.box 25 [C.sl It z20, C.sl (Ty.sl In) z22, C.int IntKind.i64 z21])] 3 ∧ I z45 ∧ mu z45 < mu v3))))))) (VC.obl z24 (VC.br z26 (VC.br z27 (VC.obl
   True (VC.br (AwF.aw G) (VC.ok ((true, ()) = (true, ()))) (VC.ok ((false, ()) = (true, ()))))) (VC.ok ((false, ()) = (true, ())))) (VC.obl True (VC.br (AwF.aw G) (VC.ok ((true,
   ()) = (true, ()))) (VC.ok ((false, ()) = (true, ()))))))))))) (VC.ok ((false, ()) = (true, ())))))))))) (VC.obl z12 (VC.obl z12 (VC.br z14 (VC.br (Lv.bnot L (Lv.beq L false
   true)) (VC.obl (St.mk 112 [(2, V.c (C.ptr 1 0)), (11, V.c (C.int IntKind.i64 0))] [(0, Ob.amb), (1, Ob.box 25 [C.sl It z20, C.sl (Ty.sl In) z3, C.int IntKind.i64 z21]), (2,
   Ob.box 25 [C.sl It z20, C.sl (Ty.sl In) z22, C.int IntKind.i64 z21])] 3 = St.mk 112 [(2, V.c (C.ptr 1 0)), (11, V.c (C.int IntKind.i64 0))] [(0, Ob.amb), (1, Ob.box 25 [C.sl It
   z20, C.sl (Ty.sl In) z3, C.int IntKind.i64 z21]), (2, Ob.box 25 [C.sl It z20, C.sl (Ty.sl In) z22, C.int IntKind.i64 z21])] 3) (VC.obl (I (0, ())) (VC.all z23 fun (v5 : Int ×
   Unit) =>
 let z50 := Prod.fst v5;
 let z51 := (Prod.fst v5, ());
 let z52 := Lv.inR L z50 z4;
 let z53 := Lv.get L (Ty.sl In) z3 (Lv.toN L z50);
 let z54 := Lv.llen L In z53;
 let z55 := Lv.ar L BinOp.add IntKind.i64 z50 1;
 let z56 := (Lv.ar L BinOp.add IntKind.i64 z50 1, ()); VC.imp (I v5) (VC.br (Lv.cmp L BinOp.lss z50 z5) (VC.obl (St.mk 112 [(2, V.c (C.ptr 1 0)), (11, V.c (C.int IntKind.i64 z50)),
   (12, V.c (C.int IntKind.i64 0))] [(0, Ob.amb), (1, Ob.box 25 [C.sl It z20, C.sl (Ty.sl In) z3, C.int IntKind.i64 z21]), (2, Ob.box 25 [C.sl It z20, C.sl (Ty.sl In) z22, C.int
   IntKind.i64 z21])] 3 = St.mk 112 [(2, V.c (C.ptr 1 0)), (11, V.c (C.int IntKind.i64 z50)), (12, V.c (C.int IntKind.i64 0))] [(0, Ob.amb), (1, Ob.box 25 [C.sl It z20, C.sl (Ty.sl
   In) z3, C.int IntKind.i64 z21]), (2, Ob.box 25 [C.sl It z20, C.sl (Ty.sl In) z22, C.int IntKind.i64 z21])] 3) (VC.obl (I2 z51 (0, ())) (VC.all z23 fun (v6 : Int × Unit) =>
 let z57 := Prod.fst v6;
 let z58 := Prod.fst (Lv.get L In z53 (Lv.toN L z57));
 let z59 := Lv.ar L BinOp.add IntKind.i64 z57 1;
 let z60 := (Lv.ar L BinOp.add IntKind.i64 z57 1, ()); VC.imp (I2 z51 v6) (VC.obl z52 (VC.br (Lv.cmp L BinOp.lss z57 (Lv.cast L z54)) (VC.obl z52 (VC.obl (Lv.inR L z57 z54) (VC.br
   (Lv.cmp L BinOp.eql z58 9) (VC.obl True (VC.br (AwF.aw G) (VC.ok ((true, ()) = (true, ()))) (VC.ok ((false, ()) = (true, ()))))) (VC.br (Lv.cmp L BinOp.eql z58 10) (VC.obl True
   (VC.br (AwF.aw G) (VC.ok ((true, ()) = (true, ()))) (VC.ok ((false, ()) = (true, ()))))) (VC.ok (St.mk 112 [(2, V.c (C.ptr 1 0)), (11, V.c (C.int IntKind.i64 z50)), (12, V.c
   (C.int IntKind.i64 z59))] [(0, Ob.amb), (1, Ob.box 25 [C.sl It z20, C.sl (Ty.sl In) z3, C.int IntKind.i64 z21]), (2, Ob.box 25 [C.sl It z20, C.sl (Ty.sl In) z22, C.int
   IntKind.i64 z21])] 3 = St.mk 112 [(2, V.c (C.ptr 1 0)), (11, V.c (C.int IntKind.i64 z50)), (12, V.c (C.int IntKind.i64 z59))] [(0, Ob.amb), (1, Ob.box 25 [C.sl It z20, C.sl
   (Ty.sl In) z3, C.int IntKind.i64 z21]), (2, Ob.box 25 [C.sl It z20, C.sl (Ty.sl In) z22, C.int IntKind.i64 z21])] 3 ∧ I2 z51 z60 ∧ m2 z51 z60 < m2 z51 v6)))))) (VC.ok (St.mk 112
   [(2, V.c (C.ptr 1 0)), (11, V.c (C.int IntKind.i64 z55))] [(0, Ob.amb), (1, Ob.box 25 [C.sl It z20, C.sl (Ty.sl In) z3, C.int IntKind.i64 z21]), (2, Ob.box 25 [C.sl It z20, C.sl
   (Ty.sl In) z22, C.int IntKind.i64 z21])] 3 = St.mk 112 [(2, V.c (C.ptr 1 0)), (11, V.c (C.int IntKind.i64 z55))] [(0, Ob.amb), (1, Ob.box 25 [C.sl It z20, C.sl (Ty.sl In) z3,
   C.int IntKind.i64 z21]), (2, Ob.box 25 [C.sl It z20, C.sl (Ty.sl In) z22, C.int IntKind.i64 z21])] 3 ∧ I z56 ∧ mu z56 < mu v5))))))) (VC.obl z24 (VC.br z26 (VC.br z27 (VC.obl
   True (VC.br (AwF.aw G) (VC.ok ((true, ()) = (true, ()))) (VC.ok ((false, ()) = (true, ()))))) (VC.ok ((false, ()) = (true, ())))) (VC.obl True (VC.br (AwF.aw G) (VC.ok ((true,
   ()) = (true, ()))) (VC.ok ((false, ()) = (true, ()))))))))))) (VC.obl (St.mk 112 [(2, V.c (C.ptr 1 0)), (11, V.c (C.int IntKind.i64 0))] [(0, Ob.amb), (1, Ob.box 25 [C.sl It z20,
   C.sl (Ty.sl In) z3, C.int IntKind.i64 z21]), (2, Ob.box 25 [C.sl It z20, C.sl (Ty.sl In) z22, C.int IntKind.i64 z21])] 3 = St.mk 112 [(2, V.c (C.ptr 1 0)), (11, V.c (C.int
   IntKind.i64 0))] [(0, Ob.amb), (1, Ob.box 25 [C.sl It z20, C.sl (Ty.sl In) z3, C.int IntKind.i64 z21]), (2, Ob.box 25 [C.sl It z20, C.sl (Ty.sl In) z22, C.int IntKind.i64 z21])]
   3) (VC.obl (I (0, ())) (VC.all z23 fun (v7 : Int × Unit) =>
 let z61 := Prod.fst v7;
 let z62 := (Prod.fst v7, ());
 let z63 := Lv.inR L z61 z4;
 let z64 := Lv.get L (Ty.sl In) z3 (Lv.toN L z61);
 let z65 := Lv.llen L In z64;
 let z66 := Lv.ar L BinOp.add IntKind.i64 z61 1;
 let z67 := (Lv.ar L BinOp.add IntKind.i64 z61 1, ()); VC.imp (I v7) (VC.br (Lv.cmp L BinOp.lss z61 z5) (VC.obl (St.mk 112 [(2, V.c (C.ptr 1 0)), (11, V.c (C.int IntKind.i64 z61)),
   (12, V.c (C.int IntKind.i64 0))] [(0, Ob.amb), (1, Ob.box 25 [C.sl It z20, C.sl (Ty.sl In) z3, C.int IntKind.i64 z21]), (2, Ob.box 25 [C.sl It z20, C.sl (Ty.sl In) z22, C.int
   IntKind.i64 z21])] 3 = St.mk 112 [(2, V.c (C.ptr 1 0)), (11, V.c (C.int IntKind.i64 z61)), (12, V.c (C.int IntKind.i64 0))] [(0, Ob.amb), (1, Ob.box 25 [C.sl It z20, C.sl (Ty.sl
   In) z3, C.int IntKind.i64 z21]), (2, Ob.box 25 [C.sl It z20, C.sl (Ty.sl In) z22, C.int IntKind.i64 z21])] 3) (VC.obl (I2 z62 (0, ())) (VC.all z23 fun (v8 : Int × Unit) =>
 let z68 := Prod.fst v8;
 let z69 := Prod.fst (Lv.get L In z64 (Lv.toN L z68));
 let z70 := Lv.ar L BinOp.add IntKind.i64 z68 1;
 let z71 := (Lv.ar L BinOp.add IntKind.i64 z68 1, ()); VC.imp (I2 z62 v8) (VC.obl z63 (VC.br (Lv.cmp L BinOp.lss z68 (Lv.cast L z65)) (VC.obl z63 (VC.obl (Lv.inR L z68 z65) (VC.br
   (Lv.cmp L BinOp.eql z69 9) (VC.obl True (VC.br (AwF.aw G) (VC.ok ((true, ()) = (true, ()))) (VC.ok ((false, ()) = (true, ()))))) (VC.br (Lv.cmp L BinOp.eql z69 10) (VC.obl True
   (VC.br (AwF.aw G) (VC.ok ((true, ()) = (true, ()))) (VC.ok ((false, ()) = (true, ()))))) (VC.ok (St.mk 112 [(2, V.c (C.ptr 1 0)), (11, V.c (C.int IntKind.i64 z61)), (12, V.c
   (C.int IntKind.i64 z70))] [(0, Ob.amb), (1, Ob.box 25 [C.sl It z20, C.sl (Ty.sl In) z3, C.int IntKind.i64 z21]), (2, Ob.box 25 [C.sl It z20, C.sl (Ty.sl In) z22, C.int
   IntKind.i64 z21])] 3 = St.mk 112 [(2, V.c (C.ptr 1 0)), (11, V.c (C.int IntKind.i64 z61)), (12, V.c (C.int IntKind.i64 z70))] [(0, Ob.amb), (1, Ob.box 25 [C.sl It z20, C.sl
   (Ty.sl In) z3, C.int IntKind.i64 z21]), (2, Ob.box 25 [C.sl It z20, C.sl (Ty.sl In) z22, C.int IntKind.i64 z21])] 3 ∧ I2 z62 z71 ∧ m2 z62 z71 < m2 z62 v8)))))) (VC.ok (St.mk 112
   [(2, V.c (C.ptr 1 0)), (11, V.c (C.int IntKind.i64 z66))] [(0, Ob.amb), (1, Ob.box 25 [C.sl It z20, C.sl (Ty.sl In) z3, C.int IntKind.i64 z21]), (2, Ob.box 25 [C.sl It z20, C.sl
   (Ty.sl In) z22, C.int IntKind.i64 z21])] 3 = St.mk 112 [(2, V.c (C.ptr 1 0)), (11, V.c (C.int IntKind.i64 z66))] [(0, Ob.amb), (1, Ob.box 25 [C.sl It z20, C.sl (Ty.sl In) z3,
   C.int IntKind.i64 z21]), (2, Ob.box 25 [C.sl It z20, C.sl (Ty.sl In) z22, C.int IntKind.i64 z21])] 3 ∧ I z67 ∧ mu z67 < mu v7))))))) (VC.obl z24 (VC.br z26 (VC.br z27 (VC.obl
   True (VC.br (AwF.aw G) (VC.ok ((true, ()) = (true, ()))) (VC.ok ((false, ()) = (true, ()))))) (VC.ok ((false, ()) = (true, ())))) (VC.obl True (VC.br (AwF.aw G) (VC.ok ((true,
   ()) = (true, ()))) (VC.ok ((false, ()) = (true, ())))))))))))) (VC.br (Lv.bnot L (Lv.beq L false false)) (VC.obl (St.mk 112 [(2, V.c (C.ptr 1 0)), (11, V.c (C.int IntKind.i64
   0))] [(0, Ob.amb), (1, Ob.box 25 [C.sl It z20, C.sl (Ty.sl In) z3, C.int IntKind.i64 z21]), (2, Ob.box 25 [C.sl It z20, C.sl (Ty.sl In) z22, C.int IntKind.i64 z21])] 3 = St.mk
   112 [(2, V.c (C.ptr 1 0)), (11, V.c (C.int IntKind.i64 0))] [(0, Ob.amb), (1, Ob.box 25 [C.sl It z20, C.sl (Ty.sl In) z3, C.int IntKind.i64 z21]), (2, Ob.box 25 [C.sl It z20,
   C.sl (Ty.sl In) z22, C.int IntKind.i64 z21])] 3) (VC.obl (I (0, ())) (VC.all z23 fun (v9 : Int × Unit) =>
 let z72 := Prod.fst v9;
 let z73 := (Prod.fst v9, ());
 let z74 := Lv.inR L z72 z4;
 let z75 := Lv.get L (Ty.sl In) z3 (Lv.toN L z72);
 let z76 := Lv.llen L In z75;
 let z77 := Lv.ar L BinOp.add IntKind.i64 z72 1;
 let z78 := (Lv.ar L BinOp.add IntKind.i64 z72 1, ()); VC.imp (I v9) (VC.br (Lv.cmp L BinOp.lss z72 z5) (VC.obl (St.mk 112 [(2, V.c (C.ptr 1 0)), (11, V.c (C.int IntKind.i64 z72)),
   (12, V.c (C.int IntKind.i64 0))] [(0, Ob.amb), (1, Ob.box 25 [C.sl It z20, C.sl (Ty.sl In) z3, C.int IntKind.i64 z21]), (2, Ob.box 25 [C.sl It z20, C.sl (Ty.sl In) z22, C.int
   IntKind.i64 z21])] 3 = St.mk 112 [(2, V.c (C.ptr 1 0)), (11, V.c (C.int IntKind.i64 z72)), (12, V.c (C.int IntKind.i64 0))] [(0, Ob.amb), (1, Ob.box 25 [C.sl It z20, C.sl (Ty.sl
   In) z3, C.int IntKind.i64 z21]), (2, Ob.box 25 [C.sl It z20, C.sl (Ty.sl In) z22, C.int IntKind.i64 z21])] 3) (VC.obl (I2 z73 (0, ())) (VC.all z23 fun (v10 : Int × Unit) =>
 let z79 := Prod.fst v10;
 let z80 := Prod.fst (Lv.get L In z75 (Lv.toN L z79));
 let z81 := Lv.ar L BinOp.add IntKind.i64 z79 1;
 let z82 := (Lv.ar L BinOp.add IntKind.i64 z79 1, ()); VC.imp (I2 z73 v10) (VC.obl z74 (VC.br (Lv.cmp L BinOp.lss z79 (Lv.cast L z76)) (VC.obl z74 (VC.obl (Lv.inR L z79 z76) (VC.br
   (Lv.cmp L BinOp.eql z80 9) (VC.obl True (VC.br (AwF.aw G) (VC.ok ((true, ()) = (true, ()))) (VC.ok ((false, ()) = (true, ()))))) (VC.br (Lv.cmp L BinOp.eql z80 10) (VC.obl True
   (VC.br (AwF.aw G) (VC.ok ((true, ()) = (true, ()))) (VC.ok ((false, ()) = (true, ()))))) (VC.ok (St.mk 112 [(2, V.c (C.ptr 1 0)), (11, V.c (C.int IntKind.i64 z72)), (12, V.c
   (C.int IntKind.i64 z81))] [(0, Ob.amb), (1, Ob.box 25 [C.sl It z20, C.sl (Ty.sl In) z3, C.int IntKind.i64 z21]), (2, Ob.box 25 [C.sl It z20, C.sl (Ty.sl In) z22, C.int
   IntKind.i64 z21])] 3 = St.mk 112 [(2, V.c (C.ptr 1 0)), (11, V.c (C.int IntKind.i64 z72)), (12, V.c (C.int IntKind.i64 z81))] [(0, Ob.amb), (1, Ob.box 25 [C.sl It z20, C.sl
   (Ty.sl In) z3, C.int IntKind.i64 z21]), (2, Ob.box 25 [C.sl It z20, C.sl (Ty.sl In) z22, C.int IntKind.i64 z21])] 3 ∧ I2 z73 z82 ∧ m2 z73 z82 < m2 z73 v10)))))) (VC.ok (St.mk 112
   [(2, V.c (C.ptr 1 0)), (11, V.c (C.int IntKind.i64 z77))] [(0, Ob.amb), (1, Ob.box 25 [C.sl It z20, C.sl (Ty.sl In) z3, C.int IntKind.i64 z21]), (2, Ob.box 25 [C.sl It z20, C.sl
   (Ty.sl In) z22, C.int IntKind.i64 z21])] 3 = St.mk 112 [(2, V.c (C.ptr 1 0)), (11, V.c (C.int IntKind.i64 z77))] [(0, Ob.amb), (1, Ob.box 25 [C.sl It z20, C.sl (Ty.sl In) z3,
   C.int IntKind.i64 z21]), (2, Ob.box 25 [C.sl It z20, C.sl (Ty.sl In) z22, C.int IntKind.i64 z21])] 3 ∧ I z78 ∧ mu z78 < mu v9))))))) (VC.obl z24 (VC.br z26 (VC.br z27 (VC.obl
   True (VC.br (AwF.aw G) (VC.ok ((true, ()) = (true, ()))) (VC.ok ((false, ()) = (true, ()))))) (VC.ok ((false, ()) = (true, ())))) (VC.obl True (VC.br (AwF.aw G) (VC.ok ((true,
   ()) = (true, ()))) (VC.ok ((false, ()) = (true, ()))))))))))) (VC.obl (St.mk 112 [(2, V.c (C.ptr 1 0)), (11, V.c (C.int IntKind.i64 0))] [(0, Ob.amb), (1, Ob.box 25 [C.sl It z20,
   C.sl (Ty.sl In) z3, C.int IntKind.i64 z21]), (2, Ob.box 25 [C.sl It z20, C.sl (Ty.sl In) z22, C.int IntKind.i64 z21])] 3 = St.mk 112 [(2, V.c (C.ptr 1 0)), (11, V.c (C.int
   IntKind.i64 0))] [(0, Ob.amb), (1, Ob.box 25 [C.sl It z20, C.sl (Ty.sl In) z3, C.int IntKind.i64 z21]), (2, Ob.box 25 [C.sl It z20, C.sl (Ty.sl In) z22, C.int IntKind.i64 z21])]
   3) (VC.obl (I (0, ())) (VC.all z23 fun (v11 : Int × Unit) =>
 let z83 := Prod.fst v11;
 let z84 := (Prod.fst v11, ());
 let z85 := Lv.inR L z83 z4;
 let z86 := Lv.get L (Ty.sl In) z3 (Lv.toN L z83);
 let z87 := Lv.llen L In z86;
 let z88 := Lv.ar L BinOp.add IntKind.i64 z83 1;
 let z89 := (Lv.ar L BinOp.add IntKind.i64 z83 1, ()); VC.imp (I v11) (VC.br (Lv.cmp L BinOp.lss z83 z5) (VC.obl (St.mk 112 [(2, V.c (C.ptr 1 0)), (11, V.c (C.int IntKind.i64 z83)),
   (12, V.c (C.int IntKind.i64 0))] [(0, Ob.amb), (1, Ob.box 25 [C.sl It z20, C.sl (Ty.sl In) z3, C.int IntKind.i64 z21]), (2, Ob.box 25 [C.sl It z20, C.sl (Ty.sl In) z22, C.int
   IntKind.i64 z21])] 3 = St.mk 112 [(2, V.c (C.ptr 1 0)), (11, V.c (C.int IntKind.i64 z83)), (12, V.c (C.int IntKind.i64 0))] [(0, Ob.amb), (1, Ob.box 25 [C.sl It z20, C.sl (Ty.sl
   In) z3, C.int IntKind.i64 z21]), (2, Ob.box 25 [C.sl It z20, C.sl (Ty.sl In) z22, C.int IntKind.i64 z21])] 3) (VC.obl (I2 z84 (0, ())) (VC.all z23 fun (v12 : Int × Unit) =>
 let z90 := Prod.fst v12;
 let z91 := Prod.fst (Lv.get L In z86 (Lv.toN L z90));
 let z92 := Lv.ar L BinOp.add IntKind.i64 z90 1;
 let z93 := (Lv.ar L BinOp.add IntKind.i64 z90 1, ()); VC.imp (I2 z84 v12) (VC.obl z85 (VC.br (Lv.cmp L BinOp.lss z90 (Lv.cast L z87)) (VC.obl z85 (VC.obl (Lv.inR L z90 z87) (VC.br
   (Lv.cmp L BinOp.eql z91 9) (VC.obl True (VC.br (AwF.aw G) (VC.ok ((true, ()) = (true, ()))) (VC.ok ((false, ()) = (true, ()))))) (VC.br (Lv.cmp L BinOp.eql z91 10) (VC.obl True
   (VC.br (AwF.aw G) (VC.ok ((true, ()) = (true, ()))) (VC.ok ((false, ()) = (true, ()))))) (VC.ok (St.mk 112 [(2, V.c (C.ptr 1 0)), (11, V.c (C.int IntKind.i64 z83)), (12, V.c
   (C.int IntKind.i64 z92))] [(0, Ob.amb), (1, Ob.box 25 [C.sl It z20, C.sl (Ty.sl In) z3, C.int IntKind.i64 z21]), (2, Ob.box 25 [C.sl It z20, C.sl (Ty.sl In) z22, C.int
   IntKind.i64 z21])] 3 = St.mk 112 [(2, V.c (C.ptr 1 0)), (11, V.c (C.int IntKind.i64 z83)), (12, V.c (C.int IntKind.i64 z92))] [(0, Ob.amb), (1, Ob.box 25 [C.sl It z20, C.sl
   (Ty.sl In) z3, C.int IntKind.i64 z21]), (2, Ob.box 25 [C.sl It z20, C.sl (Ty.sl In) z22, C.int IntKind.i64 z21])] 3 ∧ I2 z84 z93 ∧ m2 z84 z93 < m2 z84 v12)))))) (VC.ok (St.mk 112
   [(2, V.c (C.ptr 1 0)), (11, V.c (C.int IntKind.i64 z88))] [(0, Ob.amb), (1, Ob.box 25 [C.sl It z20, C.sl (Ty.sl In) z3, C.int IntKind.i64 z21]), (2, Ob.box 25 [C.sl It z20, C.sl
   (Ty.sl In) z22, C.int IntKind.i64 z21])] 3 = St.mk 112 [(2, V.c (C.ptr 1 0)), (11, V.c (C.int IntKind.i64 z88))] [(0, Ob.amb), (1, Ob.box 25 [C.sl It z20, C.sl (Ty.sl In) z3,
   C.int IntKind.i64 z21]), (2, Ob.box 25 [C.sl It z20, C.sl (Ty.sl In) z22, C.int IntKind.i64 z21])] 3 ∧ I z89 ∧ mu z89 < mu v11))))))) (VC.obl z24 (VC.br z26 (VC.br z27 (VC.obl
   True (VC.br (AwF.aw G) (VC.ok ((true, ()) = (true, ()))) (VC.ok ((false, ()) = (true, ()))))) (VC.ok ((false, ()) = (true, ())))) (VC.obl True (VC.br (AwF.aw G) (VC.ok ((true,
   ()) = (true, ()))) (VC.ok ((false, ()) = (true, ()))))))))))))))))))))) (VC.obl True (VC.br (AwF.aw G) (VC.ok ((true, ()) = (true, ()))) (VC.ok ((false, ()) = (true, ()))))))
theorem n8_eq (L : Lv) (F : BxF) (G : AwF) (H : LwF) (I : Ds [It] → Prop) (mu : Ds [It] → Nat) (I2 : Int × Unit → Ds [It] → Prop) (m2 : Int × Unit → Ds [It] → Nat) (p : WkD) (wh : Int) : vcO L F (oH G H) [18, 20, 21, 32, 33, 35] 3 (D8 (a8 L I mu I2 m2)) LWU (p, wh, ()) = n8 L F G H I mu I2 m2 p wh := by kernel_rfl
theorem n8_go (L : Lv) (F : BxF) (G : AwF) (H : LwF) (I : Ds [It] → Prop) (mu : Ds [It] → Nat) (I2 : Int × Unit → Ds [It] → Prop) (m2 : Int × Unit → Ds [It] → Nat) (p : WkD) (wh : Int) (h : VC.holds (n8 L F G H I mu I2 m2 p wh)) : Holds (vcO L F (oH G H) [18, 20, 21, 32, 33, 35] 3 (D8 (a8 L I mu I2 m2)) LWU (p, wh, ())) := Holds.of_eq (n8_eq L F G H I mu I2 m2 p wh) h
def rightF (p : WkD) : Bool := thinF p && decide (checkF p = 0)
noncomputable def listF (p : WkD) : List EnD × Bool := ((endsM (p, false)).1, decide ((endsM (p, false)).2.2 = 0))
theorem thin_bW {p : WkD} (h : thinF p = true) : bW p := by
  unfold thinF at h
  simp only [Bool.and_eq_true, Bool.not_eq_true', Bool.or_eq_false_iff, decide_eq_false_iff_not] at h
  obtain ⟨⟨⟨h1, _⟩, h2⟩, h3⟩ := h
  refine ⟨by omega, by omega, fun l hl => ?_⟩
  have := List.all_eq_true.1 h3 l hl
  unfold thinL at this
  simp only [Bool.not_eq_true', Bool.or_eq_false_iff, decide_eq_false_iff_not] at this
  omega
theorem ok32 (F : BxF) (G : AwF) (H : LwF) (h : H.right = rightF) (hp : H.pR = bwTF) (h1 : F.thin = thinF) (h2 : F.check = checkF) (q1 : F.bwT = bwTF) (q2 : F.bw = bW) (k1 : SpecOk prog 17 (S17 F)) (k2 : SpecOk prog 22 (S22 F)) : SpecOk prog 32 (S32 H) := by
  refine contract_by hm hE D32 fnok32 _ fun (z : WkD × Unit) hpre => ?_
  obtain ⟨p, ⟨⟩⟩ := z
  have hpre' : H.pR p := hpre
  rw [hp] at hpre'
  refine pack _ 3 a0 (only_tab (T := tabO [] (cT F)) (l := [17, 22]) (tb_cons (tb_sp k1 (by kernel_rfl)) (tb_cons (tb_sp k2 (by kernel_rfl)) tb_nil))) ?_
  refine n32_go Lv.std F G H p ?_
  simp only [n32, VC.holds, std_cmp, std_scmp, std_ar_add, std_ar_sub, std_ar_mul, std_ar, std_dv, std_shf, std_conv, std_mn, std_mx, std_beq, std_bnot, std_band, std_scat, std_byte, std_ext, std_slen, std_strOf, std_bytes, std_llen, std_get, std_setl, std_app, std_take, std_drop, std_rep, std_mhas, std_mval, std_mput, std_cast, std_toN, std_sub, std_add, std_inR, std_le3, std_leN, std_ltN, std_ne0, std_nonneg, std_catOk, std_room, std_mkOk, std_nth, std_cnt, cmp_lss_t, cmp_lss_f, cmp_leq_t, cmp_leq_f, cmp_gtr_t, cmp_gtr_f, cmp_geq_t, cmp_geq_f, cmp_eql_t, cmp_eql_f, cmp_neq_t, cmp_neq_f, scmp_eql_t, scmp_eql_f, scmp_neq_t, scmp_neq_f, dflt_int, dflt_bool, dflt_str, dflt_sl, dflt_pair, h, h1, h2, q1, q2, pe5, Prod.mk.injEq, and_true, true_and]
  refine ⟨hpre', fun ht => ⟨thin_bW ht, fun c => ?_, fun c => ?_⟩, fun ht => ?_⟩
  · rw [rightF, ht, decide_eq_true c]; rfl
  · rw [rightF, decide_eq_false c, Bool.and_false]
  · rw [rightF, ht]; rfl
theorem ok33 (F : BxF) (G : AwF) (H : LwF) (h : H.list = listF) (hp : H.pL = bW) (h1 : F.ends = endsM) (q2 : F.bw = bW) (k1 : SpecOk prog 19 (S19 F)) (k2 : SpecOk prog 20 (S20 F)) : SpecOk prog 33 (S33 H) := by
  refine contract_by hm hE D33 fnok33 _ fun (z : WkD × Unit) hpre => ?_
  obtain ⟨p, ⟨⟩⟩ := z
  have hpre' : H.pL p := hpre
  rw [hp] at hpre'
  refine pack _ 3 a0 (only_tab (T := tabO [] (cT F)) (l := [19, 20]) (tb_cons (tb_sp k1 (by kernel_rfl)) (tb_cons (tb_sp k2 (by kernel_rfl)) tb_nil))) ?_
  refine n33_go Lv.std F G H p ?_
  simp only [n33, VC.holds, std_cmp, std_scmp, std_ar_add, std_ar_sub, std_ar_mul, std_ar, std_dv, std_shf, std_conv, std_mn, std_mx, std_beq, std_bnot, std_band, std_scat, std_byte, std_ext, std_slen, std_strOf, std_bytes, std_llen, std_get, std_setl, std_app, std_take, std_drop, std_rep, std_mhas, std_mval, std_mput, std_cast, std_toN, std_sub, std_add, std_inR, std_le3, std_leN, std_ltN, std_ne0, std_nonneg, std_catOk, std_room, std_mkOk, std_nth, std_cnt, cmp_lss_t, cmp_lss_f, cmp_leq_t, cmp_leq_f, cmp_gtr_t, cmp_gtr_f, cmp_geq_t, cmp_geq_f, cmp_eql_t, cmp_eql_f, cmp_neq_t, cmp_neq_f, scmp_eql_t, scmp_eql_f, scmp_neq_t, scmp_neq_f, dflt_int, dflt_bool, dflt_str, dflt_sl, dflt_pair, h, h1, q2, pe5, Prod.mk.injEq, and_true, true_and]
  refine ⟨hpre', hpre', fun c => ⟨rfl, (decide_eq_true c).symm⟩, fun c => ⟨rfl, (decide_eq_false c).symm⟩⟩
end Go.Proofs.Tryz
set_option autoImplicit false
set_option linter.all false
namespace Go.Proofs.Tryz
open Go Go.VM
set_option maxRecDepth 100000
theorem right_ok {p : WkD} (h : rightF p = true) : bW p ∧ OkP p := by
  unfold rightF at h
  rw [Bool.and_eq_true, decide_eq_true_eq] at h
  exact ⟨thin_bW h.1, (okP_iff p).1 h.2⟩
theorem list_t {p : WkD} : (listF p).2 = true ↔ (endsM (p, false)).2.2 = 0 := decide_eq_true_iff
theorem ends_b {m : McD} (h : (endsM m).2.2 = 0) : (endsM m).1.length ≤ 1000000 := by have := endsM_le h; omega
theorem ok8 (F : BxF) (G : AwF) (H : LwF) (g : G.aw = true) (h : H.right = rightF) (h' : H.list = listF) (hp : H.pR = bwTF) (hp' : H.pL = bW) (h1 : F.ends = endsM) (h4 : F.sameEs = fun a b => decide (a = b)) (q2 : F.bw = bW) (q3 : F.be = sEn) (q4 : F.ble = fun l => l.length ≤ 1000000 ∧ ∀ e ∈ l, sEn e)
    (k1 : SpecOk prog 18 (S18 G)) (k2 : SpecOk prog 20 (S20 F)) (k3 : SpecOk prog 21 (S21 F)) (k4 : SpecOk prog 32 (S32 H)) (k5 : SpecOk prog 33 (S33 H)) (k6 : SpecOk prog 35 (S35 F)) : SpecOk prog 8 LWU := by
  refine contract_by hm hE D8 fnok8 _ fun (z : WkD × Int × Unit) hpre => ?_
  obtain ⟨p, wh, ⟨⟩⟩ := z
  have hpre : bwTF p ∧ 0 ≤ wh ∧ wh < 256 := hpre
  obtain ⟨n, hn⟩ : ∃ n : Nat, Lv.std.dv BinOp.rem IntKind.i64 (Lv.std.conv IntKind.i64 wh) (p.2.1.length : Int) = (n : Int) := by
    rw [std_conv, wrap_i64 (by omega) (by omega)]
    exact nat_of (Int.tmod_nonneg _ hpre.2.1)
  let I : Int × Unit → Prop := Iv p.2.1.length fun k => ∀ l ∈ p.2.1.take k, ∀ i ∈ l, i.1 ≠ 9 ∧ i.1 ≠ 10
  let I2 : Int × Unit → Int × Unit → Prop := fun e => Iv (listAt (p, false) e.1).length fun k => ∀ i ∈ (listAt (p, false) e.1).take k, i.1 ≠ 9 ∧ i.1 ≠ 10
  let m2 : Int × Unit → Int × Unit → Nat := fun e => Mu (listAt (p, false) e.1).length
  refine pack _ 3 (a8 Lv.std I (Mu p.2.1.length) I2 m2) (only_tab (T := tabO (oH G H) (cT F)) (l := [18, 20, 21, 32, 33, 35]) (tb_cons (tb_sp k1 (by kernel_rfl)) (tb_cons (tb_sp k2 (by kernel_rfl)) (tb_cons (tb_sp k3 (by kernel_rfl)) (tb_cons (tb_sp k4 (by kernel_rfl)) (tb_cons (tb_sp k5 (by kernel_rfl)) (tb_cons (tb_sp k6 (by kernel_rfl)) tb_nil))))))) ?_
  refine n8_go Lv.std F G H I (Mu p.2.1.length) I2 m2 p wh ?_
  have e1 : ∀ (l : List EnD) (k : Int), Lv.std.get En l k.toNat = (l[k.toNat]?).getD ([], [], []) := fun _ _ => rfl
  have e2 : ∀ k : Int, Lv.std.get (.sl In) p.2.1 k.toNat = listAt (p, false) k := fun _ => rfl
  have e3 : ∀ (l : List InD) (k : Int), Lv.std.get In l k.toNat = insIn l k := fun _ _ => rfl
  simp only [n8, VC.holds, std_cmp, std_cast, std_llen, std_toN, std_beq, std_band, std_bnot, e1, e2, e3, std_inR, std_ar_add, cmp_lss_t, cmp_lss_f, cmp_neq_t, cmp_neq_f, cmp_eql_t, cmp_eql_f, cmp_gtr_t, cmp_gtr_f, cmp_leq_t, cmp_leq_f, std_take, std_drop, std_le3, std_ne0, std_app, std_add, std_room, hn, Int.toNat_natCast, List.take_length, List.drop_zero, Int.natCast_zero, Int.toNat_zero, g, h, h', hp, hp', h1, h4, q2, q3, q4, pe5, Prod.mk.injEq, and_true, true_and]
  refine ⟨hpre.1, fun hr => ?_, fun _ => tt⟩
  obtain ⟨hb, op⟩ := right_ok hr
  have h0 := op.t0
  have hnl : n < p.2.1.length := by
    rw [std_conv, wrap_i64 (by omega) (by omega)] at hn
    have a2 : wh.tmod (p.2.1.length : Int) < (p.2.1.length : Int) := Int.tmod_lt_of_pos wh (by omega)
    have e : Lv.std.dv BinOp.rem IntKind.i64 wh (p.2.1.length : Int) = wh.tmod (p.2.1.length : Int) := rfl
    rw [e] at hn
    omega
  have LOOP : I (0, ()) ∧ ∀ (b : Int × Unit), I b → (b.1 < (p.2.1.length : Int) → I2 (b.1, ()) (0, ()) ∧ ∀ (c : Int × Unit), I2 (b.1, ()) c → (0 ≤ b.1 ∧ b.1 < (p.2.1.length : Int)) ∧ (c.1 < ((listAt (p, false) b.1).length : Int) → (0 ≤ b.1 ∧ b.1 < (p.2.1.length : Int)) ∧ (0 ≤ c.1 ∧ c.1 < ((listAt (p, false) b.1).length : Int)) ∧ ((insIn (listAt (p, false) b.1) c.1).1 = 9 → (True → True) ∧ (true = false → false = true)) ∧ ((insIn (listAt (p, false) b.1) c.1).1 ≠ 9 → ((insIn (listAt (p, false) b.1) c.1).1 = 10 → (True → True) ∧ (true = false → false = true)) ∧ ((insIn (listAt (p, false) b.1) c.1).1 ≠ 10 → I2 (b.1, ()) (IntKind.i64.wrap (c.1 + 1), ()) ∧ m2 (b.1, ()) (IntKind.i64.wrap (c.1 + 1), ()) < m2 (b.1, ()) c))) ∧ (((listAt (p, false) b.1).length : Int) ≤ c.1 → I (IntKind.i64.wrap (b.1 + 1), ()) ∧ Mu p.2.1.length (IntKind.i64.wrap (b.1 + 1), ()) < Mu p.2.1.length b)) ∧ ((p.2.1.length : Int) ≤ b.1 → bW p ∧ ((listF p).2 = true → (((listF p).1.length : Int) ≤ 1 → (True → True) ∧ (true = false → false = true)) ∧ (1 < ((listF p).1.length : Int) → false = true)) ∧ ((listF p).2 = false → (True → True) ∧ (true = false → false = true))) := by
    refine ⟨Iv.zero (by simp), fun b hbb => ?_⟩
    obtain ⟨k, rfl, hk, i3⟩ := Iv.elim hbb
    refine ⟨fun hlt => ⟨Iv.zero (by simp), fun c hcc => ?_⟩, fun hge => ⟨hb, fun hl => ⟨fun _ => tt, fun hbig => ?_⟩, fun _ => tt⟩⟩
    · have hk' : k < p.2.1.length := by omega
      have hl200 : (listAt (p, false) (k : Int)).length ≤ 200 := (op.list _ (listAt_mem hk')).1
      have el : listAt (p, false) (k : Int) = p.2.1[k] := by rw [listAt_nat, List.getElem?_eq_getElem hk']; rfl
      obtain ⟨j, rfl, hj, j3⟩ := Iv.elim hcc
      refine ⟨⟨by omega, hlt⟩, fun hlt2 => ⟨⟨by omega, hlt⟩, ⟨by omega, hlt2⟩, fun _ => tt, fun h9 => ⟨fun _ => tt, fun h10 => ?_⟩⟩, fun hge2 => ?_⟩
      · have hj' : j < (listAt (p, false) (k : Int)).length := Int.ofNat_lt.1 hlt2
        have e := wr (k := j) (n := (listAt (p, false) (k : Int)).length) hlt2 (by omega)
        show I2 ((k : Int), ()) (IntKind.i64.wrap ((j : Int) + 1), ()) ∧ m2 ((k : Int), ()) (IntKind.i64.wrap ((j : Int) + 1), ()) < m2 ((k : Int), ()) ((j : Int), ())
        rw [e]
        refine ⟨Iv.mk (show j + 1 ≤ (listAt (p, false) (k : Int)).length from hj') (fun i hi => ?_), Mu.lt hj'⟩
        rw [List.take_succ, List.getElem?_eq_getElem hj'] at hi
        rcases List.mem_append.1 hi with h | h
        · exact j3 i h
        · have ei : i = (listAt (p, false) (k : Int))[j] := by simpa using h
          have e2 : insIn (listAt (p, false) (k : Int)) (j : Int) = (listAt (p, false) (k : Int))[j] := by
            show ((listAt (p, false) (k : Int))[(j : Int).toNat]?).getD _ = _
            rw [Int.toNat_natCast, List.getElem?_eq_getElem hj']; rfl
          rw [ei, ← e2]; exact ⟨h9, h10⟩
      · have e := wr (k := k) (n := p.2.1.length) hlt (by have := op.t4; omega)
        show I (IntKind.i64.wrap ((k : Int) + 1), ()) ∧ Mu p.2.1.length (IntKind.i64.wrap ((k : Int) + 1), ()) < Mu p.2.1.length ((k : Int), ())
        rw [e]
        refine ⟨Iv.mk (by omega) (fun l hl => ?_), Mu.lt hk'⟩
        rw [List.take_succ, List.getElem?_eq_getElem hk'] at hl
        rcases List.mem_append.1 hl with h | h
        · exact i3 l h
        · have hl' : l = p.2.1[k] := by simpa using h
          have hjj : j = (listAt (p, false) (k : Int)).length := by
            have hge2 : ((listAt (p, false) (k : Int)).length : Int) ≤ (j : Int) := hge2
            have hj : j ≤ (listAt (p, false) (k : Int)).length := hj
            omega
          have j3 : ∀ i ∈ (listAt (p, false) (k : Int)).take j, i.1 ≠ 9 ∧ i.1 ≠ 10 := j3
          rw [hjj, List.take_length, el] at j3
          rw [hl']; exact j3
    · have hge : (p.2.1.length : Int) ≤ (k : Int) := hge
      rw [show k = p.2.1.length by omega, List.take_length] at i3
      have hw := list_t.1 hl
      have := nodup_one (endsM_len hw) fun x hx y hy => quiet_one op i3 ((endsM_mem hw x).1 hx) ((endsM_mem hw y).1 hy)
      have hbig : 1 < ((endsM (p, false)).1.length : Int) := hbig
      omega
  have hq1 : (List.take (Int.toNat 1) (List.drop n p.2.1)).length = 1 := by
    rw [List.length_take, List.length_drop, show Int.toNat 1 = 1 from rfl]; omega
  have hqm : ∀ l ∈ List.take (Int.toNat 1) (List.drop n p.2.1), l ∈ p.2.1 := fun l hl => List.mem_of_mem_drop (List.mem_of_mem_take hl)
  have oq : OkP (p.1, List.take (Int.toNat 1) (List.drop n p.2.1), p.2.2) := ⟨op.w64, by show (List.take (Int.toNat 1) (List.drop n p.2.1)).length ≤ 4; omega, op.w0, by show 0 < (List.take (Int.toNat 1) (List.drop n p.2.1)).length; omega, op.room, op.nums, fun l hl => op.list l (hqm l hl)⟩
  have h01 : (0 : Int) ≤ 0 ∧ (0 : Int) ≤ 1 ∧ (1 : Int) ≤ ((List.drop n p.2.1).length : Int) := ⟨by decide, by decide, by rw [List.length_drop]; omega⟩
  have h1q : (p.1, List.take (Int.toNat 1) (List.drop n p.2.1), p.2.2).2.1.length = 1 := hq1
  generalize (p.1, List.take (Int.toNat 1) (List.drop n p.2.1), p.2.2) = q at *
  have bq := ok_bW oq
  have hcq := (okP_iff q).2 oq
  refine ⟨hb, by omega, ⟨by omega, by omega, Int.le_refl _⟩, h01, bq, fun hl => ⟨bq, bq, fun hs => ⟨fun h => by simp at h, fun _ => ⟨fun hbig => ?_, fun _ => ?_⟩⟩, fun hs => ?_⟩, fun _ => ⟨bq, bq, fun _ => ⟨fun _ => LOOP, fun _ => LOOP⟩, fun _ => ⟨fun _ => LOOP, fun _ => LOOP⟩⟩⟩
  · have hw := list_t.1 hl
    have := nodup_one (endsM_len hw) fun x hx y hy => alone_one oq h1q ((alone_ends oq h1q x).1 ((endsM_mem hw x).1 hx)) ((alone_ends oq h1q y).1 ((endsM_mem hw y).1 hy))
    have hbig : 1 < ((endsM (q, false)).1.length : Int) := hbig
    omega
  · have hw := list_t.1 hl
    exact ⟨⟨⟨ends_b hw, endsM_sEn hw⟩, ends_b hs, endsM_sEn hs⟩, fun _ => LOOP, fun hne => absurd (endsM_ext hw hs (alone_ends oq h1q)) (of_decide_eq_false hne)⟩
  · have hw := list_t.1 hl
    rw [endsM_err hcq] at hs
    rw [endsM_err hcq] at hw
    exact absurd (strong_few oq hw) hs
end Go.Proofs.Tryz
set_option autoImplicit false
set_option linter.all false
namespace Go.Proofs.Tryz
open Go Go.VM
set_option maxRecDepth 100000
noncomputable def FF : BxF where
  within := withinF
  isNum := isNumF
  truth := truthF
  has := hasF
  fields := fieldsF
  shape := shapeF
  isIns := insOkF
  worked := workedF
  place := placeF
  value := default
  sees := seesF
  pRegs := fun l i => inReg l i.2.2.1 ∧ inReg l i.2.2.2.1
  pPlace := fun _ t i => inReg t.2.1 i.2.2.1
  pSees := fun s t p => inReg s.1 p ∧ t.2.2.1.length ≤ 1000000
  back := backF
  pBack := fun l => l.length ≤ 1000000
  see := default
  pSee := default
  waits := waitsF
  pW := fun _ s t i => pWF s t i
  can := canF
  pC := pCF
  each := eachF
  pE := pEF
  moves := movesF
  ended := endedF
  endOf := endOfF
  pEnd := fun m s => bS s ∧ s.2.length ≤ m.1.2.1.length
  first := firstF
  pFirst := fun p => p.1.length ≤ 1000000 ∧ p.2.1.length ≤ 1000000
  pHas := fun s => s.size ≤ 1000000
  pLi := fun l => l.length ≤ 1000000
  pLt := fun l => l.length ≤ 1000000
  pLk := fun l => l.length ≤ 1000000
  doo := doF
  pDo := pDoF
  step := default
  bl := bL
  bw := bW
  bs := default
  be := sEn
  ble := fun l => l.length ≤ 1000000 ∧ ∀ e ∈ l, sEn e
  nums := numsF
  check := checkF
  isTh := default
  pTh := default
  isSt := default
  pSt := default
  ckSt := default
  begE := default
  mvE := default
  ok := default
  okD := default
  okT := default
  doE := default
  endE := default
  endR := default
  seesE := default
  runE := default
  runR := default
  pRunR := default
  fenE := fenF
  fenR := default
  okW := default
  sameL := fun a b => decide (a = b)
  sameE := fun a b => decide (a = b)
  sameEs := fun a b => decide (a = b)
  sameS := default
  sameW := default
  sameM := default
  sameK := default
  bm := default
  bk := default
  isMv := default
  isIn := default
  cmpL := cmpLF
  cmpLL := cmpLLF
  cmpE := cmpEF
  cmpR := lexR
  cmpRE := cmpREF
  hows := fun e => e.2.2
  thin := thinF
  long := default
  thinS := default
  bwT := bwTF
  pCl := default
  or1 := orF3
  bll := fun l => l.length ≤ 1000000 ∧ ∀ x ∈ l, x.length ≤ 1000000
  put := putF
  pPut := fun b l => b.length ≤ 100000000 ∧ l.length ≤ 1000000
  comp := compL
  sort := fun l => List.mergeSort (α := EnD) l fun x y => !(Go.Proofs.ltOf cmpEF) y x
  rev := List.reverse
  key := keyF
  pKey := fun s => s.1.length ≤ 64 ∧ s.2.length ≤ 4 ∧ ∀ t ∈ s.2, t.2.1.length ≤ 100 ∧ t.2.2.1.length ≤ 100 ∧ t.2.2.2.1.length ≤ 100
  all := allF
  okM := fun m => OkP m.1
  ends := endsM
  bM := fun m => bW m.1
  way := wayG
  pWay := fun p _ => bW p
  over := default
  waR := default
  okW2 := default
  bsT := default
noncomputable def GG : AwF where
  ins := insF
  cr := ([0, 0], [[insF 1 1 [1], insF 9 0 [1], insF 8 1 [2], insF 15 0 [2]], [insF 1 1 [1], insF 9 1 [1], insF 8 0 [2], insF 15 0 [2]]], 1)
  ce := fun a b => ([1, 1], [[a], [b]], [1, 1])
  aw := true
noncomputable def HH : LwF where
  right := rightF
  pR := bwTF
  pL := bW
  list := listF
  picks := default
  pPicks := default
theorem h86 : SpecOk prog 86 (S86 FF) := ok86 FF rfl
theorem h92 : SpecOk prog 92 (S92 FF) := ok92 FF rfl rfl h86
theorem h120 : SpecOk prog 120 (S120 FF) := ok120 FF rfl
theorem h84 : SpecOk prog 84 (S84 FF) := ok84 FF rfl rfl rfl rfl h86 h92 h120
theorem h87 : SpecOk prog 87 (S87 FF) := ok87 FF rfl rfl rfl h92
theorem h38 : SpecOk prog 38 (S22 FF) := ok38 FF rfl rfl rfl rfl rfl rfl h84 h86 h87
theorem h76 : XOk prog 76 (R76 FF).x := ok76 FF rfl
theorem h79 : SpecOk prog 79 (S79 FF) := ok79 FF rfl rfl rfl h76
theorem h146 : ItOk prog 146 (I146 FF) := ok146 FF rfl rfl
theorem h101 : SpecOk prog 101 (S101 FF) := ok101 FF rfl rfl rfl rfl h146
theorem h143 : SpecOk prog 143 (S143 FF) := ok143 FF rfl rfl rfl h86
theorem h157 : SpecOk prog 157 (S157 FF) := ok157 FF rfl rfl rfl rfl rfl rfl h101 h143
theorem h136 : SpecOk prog 136 (S136 FF) := ok136 FF rfl rfl rfl rfl h157
theorem h135 : ItOk prog 135 (I135 FF) := ok135 FF rfl rfl rfl rfl h136
theorem h90 : SpecOk prog 90 (S90 FF) := ok90 FF rfl rfl rfl h135
theorem h134 : SpecOk prog 134 (S134 FF) := ok134 FF rfl
theorem h141 : XOk prog 141 (R141 FF).x := ok141 FF rfl
theorem h142 : XOk prog 142 (R142 FF).x := ok142 FF rfl
theorem h144 : XOk prog 144 (mapcX acT) := ok144 FF
theorem h145 : SpecOk prog 145 (S145 FF) := ok145 FF rfl rfl rfl rfl h92 h134
theorem h99 : SpecOk prog 99 (S99 FF) := ok99 FF rfl rfl rfl rfl rfl rfl rfl rfl rfl rfl rfl rfl rfl rfl h76 h86 h92 h101 h134 h141 h142 h143 h144 h145
theorem h133 : XOk prog 133 (R133 FF).x := ok133 FF rfl rfl
theorem h109 : SpecOk prog 109 (S109 FF) := ok109 FF rfl rfl rfl rfl rfl h133 h134
theorem h66 : SpecOk prog 66 (S66 FF) := ok66 FF rfl rfl rfl rfl rfl rfl rfl rfl rfl rfl h79 h90 h99 h109
theorem h69 : SpecOk prog 69 (S69 FF) := ok69 FF rfl rfl rfl h135
theorem h71 : SpecOk prog 71 (S71 FF) := ok71 FF rfl rfl rfl h76
theorem h111 : SpecOk prog 111 (S111 FF) := ok111 FF rfl rfl
theorem h112 : SpecOk prog 112 (S112 FF) := ok112 FF rfl rfl
theorem h113 : XOk prog 113 (R113 FF).x := ok113 FF rfl rfl rfl rfl h112
theorem h114 : SpecOk prog 114 (S114 FF) := ok114 FF rfl rfl
theorem h70 : SpecOk prog 70 (S70 FF) := ok70 FF rfl rfl rfl rfl rfl rfl rfl h111 h112 h113 h114
theorem h106 : XOk prog 106 (R106 FF).u := ok106 FF rfl rfl rfl rfl h70
theorem h108 : SpecOk prog 108 (S108 FF) := ok108 FF rfl rfl h70
theorem h107 : XOk prog 107 (R107 FF).x := ok107 FF rfl rfl rfl rfl h108
theorem h62 : SpecOk prog 62 (S62 FF) := ok62 FF rfl rfl rfl rfl rfl (fun l => List.mergeSort_perm l _) rfl rfl rfl rfl rfl rfl h38 h66 h69 h71 h106 h107
theorem h19 : SpecOk prog 19 (S19 FF) := ok19 FF rfl rfl h62
theorem h21 : SpecOk prog 21 (S21 FF) := ok21 FF rfl rfl h62
theorem h72 : XOk prog 72 (R72 FF).u := ok72 FF rfl rfl
theorem h24 : SpecOk prog 24 (S24 FF) := ok24 FF rfl rfl rfl rfl rfl rfl rfl rfl rfl rfl rfl rfl rfl rfl h38 h66 h69 h71 h70 h72
theorem h75 : SpecOk prog 75 (S75 FF) := ok75 FF rfl rfl
theorem h27 : SpecOk prog 27 (S27 FF) := ok27 FF rfl rfl h75
theorem h29 : SpecOk prog 29 (S29 FF) := ok29 FF rfl rfl rfl rfl h38 h76
theorem h118 : SpecOk prog 118 (S118 FF) := ok118 FF rfl rfl
theorem h74 : SpecOk prog 74 (S74 FF) := ok74 FF rfl rfl rfl rfl rfl h75 h118
theorem h46 : SpecOk prog 46 (S46 FF) := ok46 FF rfl rfl h74
theorem h35 : SpecOk prog 35 (S35 FF) := ok35 FF rfl rfl rfl rfl h46
theorem h105 : SpecOk prog 105 (S105 GG) := ok105 FF GG rfl
theorem h60 : SpecOk prog 60 (S60 GG) := ok60 FF GG rfl rfl h105
theorem h61 : SpecOk prog 61 (S61 GG) := ok61 FF GG rfl
theorem h18 : SpecOk prog 18 (S18 GG) := ok18 FF GG rfl rfl rfl rfl rfl rfl rfl rfl rfl rfl rfl rfl h19 h21 h24 h27 h29 h35 h60 h61
theorem h20 : SpecOk prog 20 (S20 FF) := ok20 FF rfl
theorem h17 : SpecOk prog 17 (S17 FF) := ok17 FF rfl rfl
theorem h54 : SpecOk prog 54 (S86 FF) := ok54 FF rfl
theorem h63 : SpecOk prog 63 (S92 FF) := ok63 FF rfl rfl h54
theorem h77 : SpecOk prog 77 (S77 FF) := ok77 FF rfl rfl
theorem h78 : SpecOk prog 78 (S78 FF) := ok78 FF rfl
theorem h64 : SpecOk prog 64 (S84 FF) := ok64 FF rfl rfl rfl rfl rfl rfl h54 h63 h77 h78
theorem h22 : SpecOk prog 22 (S22 FF) := ok22 FF rfl rfl rfl rfl rfl h54 h63 h64
theorem h32 : SpecOk prog 32 (S32 HH) := ok32 FF GG HH rfl rfl rfl rfl rfl rfl h17 h22
theorem h33 : SpecOk prog 33 (S33 HH) := ok33 FF GG HH rfl rfl rfl rfl h19 h20
theorem h8 : SpecOk prog 8 LWU := ok8 FF GG HH rfl rfl rfl rfl rfl rfl rfl rfl rfl rfl h18 h20 h21 h32 h33 h35
end Go.Proofs.Tryz
