/- What functions of the weak memory compute, proved through the condition generator, and plain facts of it. Conditions: none of ours. -/
import Derived.Test.YthfjgaifdadgnaaGreatK10
set_option autoImplicit false
set_option linter.all false
namespace Go.Proofs.Tryz
open Go Go.VM
set_option maxRecDepth 100000
def a77 (L : Lv) (I : Ds [It] → Prop) (mu : Ds [It] → Nat) : Nat → LAnn
  | 0 => anH L [0, 1, 5] [] [.s 5 It] I mu
  | _ => .no
def n86 (L : Lv) (F : BxF) (a b c : Int)  : VC :=
 VC.br (Lv.cmp L BinOp.geq a b) (VC.br (Lv.cmp L BinOp.leq a c) (VC.ok ((true, ()) = (BxF.within F a b c, ()))) (VC.ok ((false, ()) = (BxF.within F a b c, ()))))
 (VC.ok ((false, ()) = (BxF.within F a b c, ())))
theorem n86_eq (L : Lv) (F : BxF) (a b c : Int) : vcB L F [] (D86 a0) (S86 F) (a, b, c, ()) = n86 L F a b c := by kernel_rfl
theorem n86_go (L : Lv) (F : BxF) (a b c : Int) (h : VC.holds (n86 L F a b c)) : Holds (vcB L F [] (D86 a0) (S86 F) (a, b, c, ())) := Holds.of_eq (n86_eq L F a b c) h
def n54 (L : Lv) (F : BxF) (a b c : Int)  : VC :=
 VC.br (Lv.cmp L BinOp.geq a b) (VC.br (Lv.cmp L BinOp.leq a c) (VC.ok ((true, ()) = (BxF.within F a b c, ()))) (VC.ok ((false, ()) = (BxF.within F a b c, ()))))
 (VC.ok ((false, ()) = (BxF.within F a b c, ())))
theorem n54_eq (L : Lv) (F : BxF) (a b c : Int) : vcB L F [] (D54 a0) (S86 F) (a, b, c, ()) = n54 L F a b c := by kernel_rfl
theorem n54_go (L : Lv) (F : BxF) (a b c : Int) (h : VC.holds (n54 L F a b c)) : Holds (vcB L F [] (D54 a0) (S86 F) (a, b, c, ())) := Holds.of_eq (n54_eq L F a b c) h
def n92 (L : Lv) (F : BxF) (a : Int)  : VC :=
 VC.obl True (VC.br (BxF.within F a (Int.negSucc 999999999) 1000000000) (VC.ok ((true, ()) = (BxF.isNum F a, ()))) (VC.ok ((false, ()) = (BxF.isNum F a, ()))))
theorem n92_eq (L : Lv) (F : BxF) (a : Int) : vcB L F [86] (D92 a0) (S92 F) (a, ()) = n92 L F a := by kernel_rfl
theorem n92_go (L : Lv) (F : BxF) (a : Int) (h : VC.holds (n92 L F a)) : Holds (vcB L F [86] (D92 a0) (S92 F) (a, ())) := Holds.of_eq (n92_eq L F a) h
def n63 (L : Lv) (F : BxF) (a : Int)  : VC :=
 VC.obl True (VC.br (BxF.within F a (Int.negSucc 999999999) 1000000000) (VC.ok ((true, ()) = (BxF.isNum F a, ()))) (VC.ok ((false, ()) = (BxF.isNum F a, ()))))
theorem n63_eq (L : Lv) (F : BxF) (a : Int) : vcB L F [54] (D63 a0) (S92 F) (a, ()) = n63 L F a := by kernel_rfl
theorem n63_go (L : Lv) (F : BxF) (a : Int) (h : VC.holds (n63 L F a)) : Holds (vcB L F [54] (D63 a0) (S92 F) (a, ())) := Holds.of_eq (n63_eq L F a) h
def n134 (L : Lv) (F : BxF) (a : Bool)  : VC :=
 VC.br a (VC.ok ((1, ()) = (BxF.truth F a, ()))) (VC.ok ((0, ()) = (BxF.truth F a, ())))
theorem n134_eq (L : Lv) (F : BxF) (a : Bool) : vcB L F [] (D134 a0) (S134 F) (a, ()) = n134 L F a := by kernel_rfl
theorem n134_go (L : Lv) (F : BxF) (a : Bool) (h : VC.holds (n134 L F a)) : Holds (vcB L F [] (D134 a0) (S134 F) (a, ())) := Holds.of_eq (n134_eq L F a) h
def n143 (L : Lv) (F : BxF) (s : StD) (t : ThD) (i : InD)  : VC :=
 VC.obl (Lv.inR L (Prod.fst (Prod.snd (Prod.snd i))) (Lv.llen L (Ty.int IntKind.i64) (Prod.fst (Prod.snd t))))
 (VC.obl True
 (VC.br
 (BxF.within F
 (Lv.ar L BinOp.add IntKind.i64 (Lv.get L (Ty.int IntKind.i64) (Prod.fst (Prod.snd t)) (Lv.toN L (Prod.fst (Prod.snd (Prod.snd i))))) (Prod.snd (Prod.snd (Prod.snd (Prod.snd (Prod.snd i)))))) 0
 (Lv.ar L BinOp.sub IntKind.i64 (Lv.cast L (Lv.llen L (Ty.int IntKind.i64) (Prod.fst s))) 1))
 (VC.ok
 ((Lv.ar L BinOp.add IntKind.i64 (Lv.get L (Ty.int IntKind.i64) (Prod.fst (Prod.snd t)) (Lv.toN L (Prod.fst (Prod.snd (Prod.snd i))))) (Prod.snd (Prod.snd (Prod.snd (Prod.snd (Prod.snd i))))),
 true, ()) =
 (Prod.fst (BxF.place F s t i), Prod.snd (BxF.place F s t i), ())))
 (VC.ok
 ((Lv.ar L BinOp.add IntKind.i64 (Lv.get L (Ty.int IntKind.i64) (Prod.fst (Prod.snd t)) (Lv.toN L (Prod.fst (Prod.snd (Prod.snd i))))) (Prod.snd (Prod.snd (Prod.snd (Prod.snd (Prod.snd i))))),
 false, ()) =
 (Prod.fst (BxF.place F s t i), Prod.snd (BxF.place F s t i), ())))))
theorem n143_eq (L : Lv) (F : BxF) (s : StD) (t : ThD) (i : InD) : vcB L F [86] (D143 a0) (S143 F) (s, t, i, ()) = n143 L F s t i := by kernel_rfl
theorem n143_go (L : Lv) (F : BxF) (s : StD) (t : ThD) (i : InD) (h : VC.holds (n143 L F s t i)) : Holds (vcB L F [86] (D143 a0) (S143 F) (s, t, i, ())) := Holds.of_eq (n143_eq L F s t i) h
def n145 (L : Lv) (F : BxF) (l : List Int) (i : InD)  : VC :=
 VC.obl (Lv.inR L (Prod.fst (Prod.snd (Prod.snd i))) (Lv.llen L (Ty.int IntKind.i64) l))
 (VC.obl (Lv.inR L (Prod.fst (Prod.snd (Prod.snd (Prod.snd i)))) (Lv.llen L (Ty.int IntKind.i64) l))
 (VC.br (Lv.cmp L BinOp.eql (Prod.fst i) 1)
 (VC.obl True
 (VC.br (BxF.isNum F (Prod.snd (Prod.snd (Prod.snd (Prod.snd (Prod.snd i))))))
 (VC.ok ((Prod.snd (Prod.snd (Prod.snd (Prod.snd (Prod.snd i)))), true, ()) = (Prod.fst (BxF.worked F l i), Prod.snd (BxF.worked F l i), ())))
 (VC.ok ((Prod.snd (Prod.snd (Prod.snd (Prod.snd (Prod.snd i)))), false, ()) = (Prod.fst (BxF.worked F l i), Prod.snd (BxF.worked F l i), ())))))
 (VC.br (Lv.cmp L BinOp.eql (Prod.fst i) 2)
 (VC.obl True
 (VC.br
 (BxF.isNum F
 (Lv.ar L BinOp.add IntKind.i64 (Lv.get L (Ty.int IntKind.i64) l (Lv.toN L (Prod.fst (Prod.snd (Prod.snd i)))))
 (Lv.get L (Ty.int IntKind.i64) l (Lv.toN L (Prod.fst (Prod.snd (Prod.snd (Prod.snd i))))))))
 (VC.ok
 ((Lv.ar L BinOp.add IntKind.i64 (Lv.get L (Ty.int IntKind.i64) l (Lv.toN L (Prod.fst (Prod.snd (Prod.snd i)))))
 (Lv.get L (Ty.int IntKind.i64) l (Lv.toN L (Prod.fst (Prod.snd (Prod.snd (Prod.snd i)))))),
 true, ()) =
 (Prod.fst (BxF.worked F l i), Prod.snd (BxF.worked F l i), ())))
 (VC.ok
 ((Lv.ar L BinOp.add IntKind.i64 (Lv.get L (Ty.int IntKind.i64) l (Lv.toN L (Prod.fst (Prod.snd (Prod.snd i)))))
 (Lv.get L (Ty.int IntKind.i64) l (Lv.toN L (Prod.fst (Prod.snd (Prod.snd (Prod.snd i)))))),
 false, ()) =
 (Prod.fst (BxF.worked F l i), Prod.snd (BxF.worked F l i), ())))))
 (VC.br (Lv.cmp L BinOp.eql (Prod.fst i) 3)
 (VC.obl True
 (VC.br
 (BxF.isNum F
 (Lv.ar L BinOp.sub IntKind.i64 (Lv.get L (Ty.int IntKind.i64) l (Lv.toN L (Prod.fst (Prod.snd (Prod.snd i)))))
 (Lv.get L (Ty.int IntKind.i64) l (Lv.toN L (Prod.fst (Prod.snd (Prod.snd (Prod.snd i))))))))
 (VC.ok
 ((Lv.ar L BinOp.sub IntKind.i64 (Lv.get L (Ty.int IntKind.i64) l (Lv.toN L (Prod.fst (Prod.snd (Prod.snd i)))))
 (Lv.get L (Ty.int IntKind.i64) l (Lv.toN L (Prod.fst (Prod.snd (Prod.snd (Prod.snd i)))))),
 true, ()) =
 (Prod.fst (BxF.worked F l i), Prod.snd (BxF.worked F l i), ())))
 (VC.ok
 ((Lv.ar L BinOp.sub IntKind.i64 (Lv.get L (Ty.int IntKind.i64) l (Lv.toN L (Prod.fst (Prod.snd (Prod.snd i)))))
 (Lv.get L (Ty.int IntKind.i64) l (Lv.toN L (Prod.fst (Prod.snd (Prod.snd (Prod.snd i)))))),
 false, ()) =
 (Prod.fst (BxF.worked F l i), Prod.snd (BxF.worked F l i), ())))))
 (VC.br (Lv.cmp L BinOp.eql (Prod.fst i) 4)
 (VC.br (Lv.cmp L BinOp.lss (Lv.get L (Ty.int IntKind.i64) l (Lv.toN L (Prod.fst (Prod.snd (Prod.snd (Prod.snd i)))))) 1)
 (VC.ok ((0, false, ()) = (Prod.fst (BxF.worked F l i), Prod.snd (BxF.worked F l i), ())))
 (VC.obl (Lv.ne0 L (Lv.get L (Ty.int IntKind.i64) l (Lv.toN L (Prod.fst (Prod.snd (Prod.snd (Prod.snd i)))))))
 (VC.obl (Lv.ne0 L (Lv.get L (Ty.int IntKind.i64) l (Lv.toN L (Prod.fst (Prod.snd (Prod.snd (Prod.snd i)))))))
 (VC.obl True
 (VC.br
 (BxF.isNum F
 (Lv.dv L BinOp.rem IntKind.i64
 (Lv.ar L BinOp.add IntKind.i64
 (Lv.dv L BinOp.rem IntKind.i64 (Lv.get L (Ty.int IntKind.i64) l (Lv.toN L (Prod.fst (Prod.snd (Prod.snd i)))))
 (Lv.get L (Ty.int IntKind.i64) l (Lv.toN L (Prod.fst (Prod.snd (Prod.snd (Prod.snd i)))))))
 (Lv.get L (Ty.int IntKind.i64) l (Lv.toN L (Prod.fst (Prod.snd (Prod.snd (Prod.snd i)))))))
 (Lv.get L (Ty.int IntKind.i64) l (Lv.toN L (Prod.fst (Prod.snd (Prod.snd (Prod.snd i))))))))
 (VC.ok
 ((Lv.dv L BinOp.rem IntKind.i64
 (Lv.ar L BinOp.add IntKind.i64
 (Lv.dv L BinOp.rem IntKind.i64 (Lv.get L (Ty.int IntKind.i64) l (Lv.toN L (Prod.fst (Prod.snd (Prod.snd i)))))
 (Lv.get L (Ty.int IntKind.i64) l (Lv.toN L (Prod.fst (Prod.snd (Prod.snd (Prod.snd i)))))))
 (Lv.get L (Ty.int IntKind.i64) l (Lv.toN L (Prod.fst (Prod.snd (Prod.snd (Prod.snd i)))))))
 (Lv.get L (Ty.int IntKind.i64) l (Lv.toN L (Prod.fst (Prod.snd (Prod.snd (Prod.snd i)))))),
 true, ()) =
 (Prod.fst (BxF.worked F l i), Prod.snd (BxF.worked F l i), ())))
 (VC.ok
 ((Lv.dv L BinOp.rem IntKind.i64
 (Lv.ar L BinOp.add IntKind.i64
 (Lv.dv L BinOp.rem IntKind.i64 (Lv.get L (Ty.int IntKind.i64) l (Lv.toN L (Prod.fst (Prod.snd (Prod.snd i)))))
 (Lv.get L (Ty.int IntKind.i64) l (Lv.toN L (Prod.fst (Prod.snd (Prod.snd (Prod.snd i)))))))
 (Lv.get L (Ty.int IntKind.i64) l (Lv.toN L (Prod.fst (Prod.snd (Prod.snd (Prod.snd i)))))))
 (Lv.get L (Ty.int IntKind.i64) l (Lv.toN L (Prod.fst (Prod.snd (Prod.snd (Prod.snd i)))))),
 false, ()) =
 (Prod.fst (BxF.worked F l i), Prod.snd (BxF.worked F l i), ()))))))))
 (VC.br (Lv.cmp L BinOp.eql (Prod.fst i) 5)
 (VC.br (Lv.cmp L BinOp.lss (Lv.get L (Ty.int IntKind.i64) l (Lv.toN L (Prod.fst (Prod.snd (Prod.snd i))))) 0)
 (VC.ok ((0, false, ()) = (Prod.fst (BxF.worked F l i), Prod.snd (BxF.worked F l i), ())))
 (VC.br (Lv.cmp L BinOp.lss (Lv.get L (Ty.int IntKind.i64) l (Lv.toN L (Prod.fst (Prod.snd (Prod.snd (Prod.snd i)))))) 0)
 (VC.ok ((0, false, ()) = (Prod.fst (BxF.worked F l i), Prod.snd (BxF.worked F l i), ())))
 (VC.obl True
 (VC.br
 (BxF.isNum F
 (Lv.ar L BinOp.or IntKind.i64 (Lv.get L (Ty.int IntKind.i64) l (Lv.toN L (Prod.fst (Prod.snd (Prod.snd i)))))
 (Lv.get L (Ty.int IntKind.i64) l (Lv.toN L (Prod.fst (Prod.snd (Prod.snd (Prod.snd i))))))))
 (VC.ok
 ((Lv.ar L BinOp.or IntKind.i64 (Lv.get L (Ty.int IntKind.i64) l (Lv.toN L (Prod.fst (Prod.snd (Prod.snd i)))))
 (Lv.get L (Ty.int IntKind.i64) l (Lv.toN L (Prod.fst (Prod.snd (Prod.snd (Prod.snd i)))))),
 true, ()) =
 (Prod.fst (BxF.worked F l i), Prod.snd (BxF.worked F l i), ())))
 (VC.ok
 ((Lv.ar L BinOp.or IntKind.i64 (Lv.get L (Ty.int IntKind.i64) l (Lv.toN L (Prod.fst (Prod.snd (Prod.snd i)))))
 (Lv.get L (Ty.int IntKind.i64) l (Lv.toN L (Prod.fst (Prod.snd (Prod.snd (Prod.snd i)))))),
 false, ()) =
 (Prod.fst (BxF.worked F l i), Prod.snd (BxF.worked F l i), ())))))))
 (VC.br (Lv.cmp L BinOp.eql (Prod.fst i) 6)
 (VC.br
 (Lv.cmp L BinOp.gtr (Lv.get L (Ty.int IntKind.i64) l (Lv.toN L (Prod.fst (Prod.snd (Prod.snd i)))))
 (Lv.get L (Ty.int IntKind.i64) l (Lv.toN L (Prod.fst (Prod.snd (Prod.snd (Prod.snd i)))))))
 (VC.obl True
 (VC.obl True
 (VC.br (BxF.isNum F (BxF.truth F true)) (VC.ok ((BxF.truth F true, true, ()) = (Prod.fst (BxF.worked F l i), Prod.snd (BxF.worked F l i), ())))
 (VC.ok ((BxF.truth F true, false, ()) = (Prod.fst (BxF.worked F l i), Prod.snd (BxF.worked F l i), ()))))))
 (VC.obl True
 (VC.obl True
 (VC.br (BxF.isNum F (BxF.truth F false)) (VC.ok ((BxF.truth F false, true, ()) = (Prod.fst (BxF.worked F l i), Prod.snd (BxF.worked F l i), ())))
 (VC.ok ((BxF.truth F false, false, ()) = (Prod.fst (BxF.worked F l i), Prod.snd (BxF.worked F l i), ())))))))
 (VC.br (Lv.cmp L BinOp.eql (Prod.fst i) 7)
 (VC.br
 (Lv.cmp L BinOp.eql (Lv.get L (Ty.int IntKind.i64) l (Lv.toN L (Prod.fst (Prod.snd (Prod.snd i)))))
 (Lv.get L (Ty.int IntKind.i64) l (Lv.toN L (Prod.fst (Prod.snd (Prod.snd (Prod.snd i)))))))
 (VC.obl True
 (VC.obl True
 (VC.br (BxF.isNum F (BxF.truth F true)) (VC.ok ((BxF.truth F true, true, ()) = (Prod.fst (BxF.worked F l i), Prod.snd (BxF.worked F l i), ())))
 (VC.ok ((BxF.truth F true, false, ()) = (Prod.fst (BxF.worked F l i), Prod.snd (BxF.worked F l i), ()))))))
 (VC.obl True
 (VC.obl True
 (VC.br (BxF.isNum F (BxF.truth F false)) (VC.ok ((BxF.truth F false, true, ()) = (Prod.fst (BxF.worked F l i), Prod.snd (BxF.worked F l i), ())))
 (VC.ok ((BxF.truth F false, false, ()) = (Prod.fst (BxF.worked F l i), Prod.snd (BxF.worked F l i), ())))))))
 (VC.obl True
 (VC.br (BxF.isNum F 0) (VC.ok ((0, true, ()) = (Prod.fst (BxF.worked F l i), Prod.snd (BxF.worked F l i), ())))
 (VC.ok ((0, false, ()) = (Prod.fst (BxF.worked F l i), Prod.snd (BxF.worked F l i), ())))))))))))))
theorem n145_eq (L : Lv) (F : BxF) (l : List Int) (i : InD) : vcB L F [92, 134] (D145 a0) (S145 F) (l, i, ()) = n145 L F l i := by kernel_rfl
theorem n145_go (L : Lv) (F : BxF) (l : List Int) (i : InD) (h : VC.holds (n145 L F l i)) : Holds (vcB L F [92, 134] (D145 a0) (S145 F) (l, i, ())) := Holds.of_eq (n145_eq L F l i) h
def n78 (L : Lv) (F : BxF) (b : Int)  : VC :=
 VC.br (Lv.cmp L BinOp.eql b 1) (VC.ok ((ByteArray.mk #[65, 78], ()) = (BxF.fields F b, ())))
 (VC.br (Lv.cmp L BinOp.eql b 2) (VC.ok ((ByteArray.mk #[65, 66, 67], ()) = (BxF.fields F b, ())))
 (VC.br (Lv.cmp L BinOp.eql b 3) (VC.ok ((ByteArray.mk #[65, 66, 67], ()) = (BxF.fields F b, ())))
 (VC.br (Lv.cmp L BinOp.eql b 4) (VC.ok ((ByteArray.mk #[65, 66, 67], ()) = (BxF.fields F b, ())))
 (VC.br (Lv.cmp L BinOp.eql b 5) (VC.ok ((ByteArray.mk #[65, 66, 67], ()) = (BxF.fields F b, ())))
 (VC.br (Lv.cmp L BinOp.eql b 6) (VC.ok ((ByteArray.mk #[65, 66, 67], ()) = (BxF.fields F b, ())))
 (VC.br (Lv.cmp L BinOp.eql b 7) (VC.ok ((ByteArray.mk #[65, 66, 67], ()) = (BxF.fields F b, ())))
 (VC.br (Lv.cmp L BinOp.eql b 8) (VC.ok ((ByteArray.mk #[65, 66, 80], ()) = (BxF.fields F b, ())))
 (VC.br (Lv.cmp L BinOp.eql b 9) (VC.ok ((ByteArray.mk #[65, 66, 80], ()) = (BxF.fields F b, ())))
 (VC.br (Lv.cmp L BinOp.eql b 10) (VC.ok ((ByteArray.mk #[65, 66, 67, 68, 80], ()) = (BxF.fields F b, ())))
 (VC.br (Lv.cmp L BinOp.eql b 11) (VC.ok ((ByteArray.mk #[45], ()) = (BxF.fields F b, ())))
 (VC.br (Lv.cmp L BinOp.eql b 12) (VC.ok ((ByteArray.mk #[66, 80], ()) = (BxF.fields F b, ())))
 (VC.br (Lv.cmp L BinOp.eql b 13) (VC.ok ((ByteArray.mk #[74], ()) = (BxF.fields F b, ())))
 (VC.br (Lv.cmp L BinOp.eql b 14) (VC.ok ((ByteArray.mk #[65, 74], ()) = (BxF.fields F b, ())))
 (VC.br (Lv.cmp L BinOp.eql b 15) (VC.ok ((ByteArray.mk #[65], ()) = (BxF.fields F b, ())))
 (VC.ok ((ByteArray.mk #[], ()) = (BxF.fields F b, ())))))))))))))))))
theorem n78_eq (L : Lv) (F : BxF) (b : Int) : vcB L F [] (D78 a0) (S78 F) (b, ()) = n78 L F b := by kernel_rfl
theorem n78_go (L : Lv) (F : BxF) (b : Int) (h : VC.holds (n78 L F b)) : Holds (vcB L F [] (D78 a0) (S78 F) (b, ())) := Holds.of_eq (n78_eq L F b) h
def n120 (L : Lv) (F : BxF) (b : Int)  : VC :=
 VC.br (Lv.cmp L BinOp.eql b 1) (VC.ok ((17, true, ()) = (Prod.fst (BxF.shape F b), Prod.snd (BxF.shape F b), ())))
 (VC.br (Lv.cmp L BinOp.eql b 2) (VC.ok ((7, true, ()) = (Prod.fst (BxF.shape F b), Prod.snd (BxF.shape F b), ())))
 (VC.br (Lv.cmp L BinOp.eql b 3) (VC.ok ((7, true, ()) = (Prod.fst (BxF.shape F b), Prod.snd (BxF.shape F b), ())))
 (VC.br (Lv.cmp L BinOp.eql b 4) (VC.ok ((7, true, ()) = (Prod.fst (BxF.shape F b), Prod.snd (BxF.shape F b), ())))
 (VC.br (Lv.cmp L BinOp.eql b 5) (VC.ok ((7, true, ()) = (Prod.fst (BxF.shape F b), Prod.snd (BxF.shape F b), ())))
 (VC.br (Lv.cmp L BinOp.eql b 6) (VC.ok ((7, true, ()) = (Prod.fst (BxF.shape F b), Prod.snd (BxF.shape F b), ())))
 (VC.br (Lv.cmp L BinOp.eql b 7) (VC.ok ((7, true, ()) = (Prod.fst (BxF.shape F b), Prod.snd (BxF.shape F b), ())))
 (VC.br (Lv.cmp L BinOp.eql b 8) (VC.ok ((35, true, ()) = (Prod.fst (BxF.shape F b), Prod.snd (BxF.shape F b), ())))
 (VC.br (Lv.cmp L BinOp.eql b 9) (VC.ok ((35, true, ()) = (Prod.fst (BxF.shape F b), Prod.snd (BxF.shape F b), ())))
 (VC.br (Lv.cmp L BinOp.eql b 10) (VC.ok ((47, true, ()) = (Prod.fst (BxF.shape F b), Prod.snd (BxF.shape F b), ())))
 (VC.br (Lv.cmp L BinOp.eql b 11) (VC.ok ((0, true, ()) = (Prod.fst (BxF.shape F b), Prod.snd (BxF.shape F b), ())))
 (VC.br (Lv.cmp L BinOp.eql b 12) (VC.ok ((34, true, ()) = (Prod.fst (BxF.shape F b), Prod.snd (BxF.shape F b), ())))
 (VC.br (Lv.cmp L BinOp.eql b 13) (VC.ok ((64, true, ()) = (Prod.fst (BxF.shape F b), Prod.snd (BxF.shape F b), ())))
 (VC.br (Lv.cmp L BinOp.eql b 14) (VC.ok ((65, true, ()) = (Prod.fst (BxF.shape F b), Prod.snd (BxF.shape F b), ())))
 (VC.br (Lv.cmp L BinOp.eql b 15) (VC.ok ((1, true, ()) = (Prod.fst (BxF.shape F b), Prod.snd (BxF.shape F b), ())))
 (VC.ok ((0, false, ()) = (Prod.fst (BxF.shape F b), Prod.snd (BxF.shape F b), ())))))))))))))))))
theorem n120_eq (L : Lv) (F : BxF) (b : Int) : vcB L F [] (D120 a0) (S120 F) (b, ()) = n120 L F b := by kernel_rfl
theorem n120_go (L : Lv) (F : BxF) (b : Int) (h : VC.holds (n120 L F b)) : Holds (vcB L F [] (D120 a0) (S120 F) (b, ())) := Holds.of_eq (n120_eq L F b) h
def r76 (L : Lv) (F : BxF) (l : List Int)  : VC :=
 VC.br (Lv.cmp L BinOp.eql (Lv.cast L (Lv.llen L (Ty.int IntKind.i64) l)) 0)
 (VC.all Bool fun (x : Bool) =>
 VC.br x (VC.ok (l = []))
 (VC.obl (Lv.room L (Lv.add L (Lv.llen L (Ty.int IntKind.i64) (Lv.take L (Ty.int IntKind.i64) [] 0)) (Lv.llen L (Ty.int IntKind.i64) l)) 8)
 (VC.ok
 (3 = 3 ∧
 Lv.app L (Ty.int IntKind.i64) (Lv.take L (Ty.int IntKind.i64) [] 0) l = l ∧
 Lv.add L (Lv.llen L (Ty.int IntKind.i64) (Lv.take L (Ty.int IntKind.i64) [] 0)) (Lv.llen L (Ty.int IntKind.i64) l) =
 Lv.llen L (Ty.int IntKind.i64) (Lv.app L (Ty.int IntKind.i64) (Lv.take L (Ty.int IntKind.i64) [] 0) l)))))
 (VC.obl (Lv.room L (Lv.add L (Lv.llen L (Ty.int IntKind.i64) (Lv.take L (Ty.int IntKind.i64) [] 0)) (Lv.llen L (Ty.int IntKind.i64) l)) 8)
 (VC.ok
 (3 = 3 ∧
 Lv.app L (Ty.int IntKind.i64) (Lv.take L (Ty.int IntKind.i64) [] 0) l = l ∧
 Lv.add L (Lv.llen L (Ty.int IntKind.i64) (Lv.take L (Ty.int IntKind.i64) [] 0)) (Lv.llen L (Ty.int IntKind.i64) l) =
 Lv.llen L (Ty.int IntKind.i64) (Lv.app L (Ty.int IntKind.i64) (Lv.take L (Ty.int IntKind.i64) [] 0) l))))
theorem r76_eq (L : Lv) (F : BxF) (l : List Int) : vcR L F [] (D76 a0) (R76 F) (l, ()) = r76 L F l := by kernel_rfl
theorem r76_go (L : Lv) (F : BxF) (l : List Int) (h : VC.holds (r76 L F l)) : Holds (vcR L F [] (D76 a0) (R76 F) (l, ())) := Holds.of_eq (r76_eq L F l) h
def r141 (L : Lv) (F : BxF) (l : List ThD)  : VC :=
 VC.br
 (Lv.cmp L BinOp.eql
 (Lv.cast L
 (Lv.llen L
 (Ty.pair (Ty.int IntKind.i64) (Ty.pair (Ty.sl (Ty.int IntKind.i64)) (Ty.pair (Ty.sl (Ty.pair (Ty.int IntKind.i64) (Ty.int IntKind.i64))) (Ty.pair (Ty.sl (Ty.int IntKind.i64)) Ty.bool)))) l))
 0)
 (VC.all Bool fun (x : Bool) =>
 VC.br x (VC.ok (l = []))
 (VC.obl
 (Lv.room L
 (Lv.add L
 (Lv.llen L
 (Ty.pair (Ty.int IntKind.i64) (Ty.pair (Ty.sl (Ty.int IntKind.i64)) (Ty.pair (Ty.sl (Ty.pair (Ty.int IntKind.i64) (Ty.int IntKind.i64))) (Ty.pair (Ty.sl (Ty.int IntKind.i64)) Ty.bool))))
 (Lv.take L
 (Ty.pair (Ty.int IntKind.i64)
 (Ty.pair (Ty.sl (Ty.int IntKind.i64)) (Ty.pair (Ty.sl (Ty.pair (Ty.int IntKind.i64) (Ty.int IntKind.i64))) (Ty.pair (Ty.sl (Ty.int IntKind.i64)) Ty.bool))))
 [] 0))
 (Lv.llen L
 (Ty.pair (Ty.int IntKind.i64) (Ty.pair (Ty.sl (Ty.int IntKind.i64)) (Ty.pair (Ty.sl (Ty.pair (Ty.int IntKind.i64) (Ty.int IntKind.i64))) (Ty.pair (Ty.sl (Ty.int IntKind.i64)) Ty.bool))))
 l))
 88)
 (VC.ok
 (99 = 99 ∧
 Lv.app L
 (Ty.pair (Ty.int IntKind.i64)
 (Ty.pair (Ty.sl (Ty.int IntKind.i64)) (Ty.pair (Ty.sl (Ty.pair (Ty.int IntKind.i64) (Ty.int IntKind.i64))) (Ty.pair (Ty.sl (Ty.int IntKind.i64)) Ty.bool))))
 (Lv.take L
 (Ty.pair (Ty.int IntKind.i64)
 (Ty.pair (Ty.sl (Ty.int IntKind.i64)) (Ty.pair (Ty.sl (Ty.pair (Ty.int IntKind.i64) (Ty.int IntKind.i64))) (Ty.pair (Ty.sl (Ty.int IntKind.i64)) Ty.bool))))
 [] 0)
 l =
 l ∧
 Lv.add L
 (Lv.llen L
 (Ty.pair (Ty.int IntKind.i64)
 (Ty.pair (Ty.sl (Ty.int IntKind.i64)) (Ty.pair (Ty.sl (Ty.pair (Ty.int IntKind.i64) (Ty.int IntKind.i64))) (Ty.pair (Ty.sl (Ty.int IntKind.i64)) Ty.bool))))
 (Lv.take L
 (Ty.pair (Ty.int IntKind.i64)
 (Ty.pair (Ty.sl (Ty.int IntKind.i64)) (Ty.pair (Ty.sl (Ty.pair (Ty.int IntKind.i64) (Ty.int IntKind.i64))) (Ty.pair (Ty.sl (Ty.int IntKind.i64)) Ty.bool))))
 [] 0))
 (Lv.llen L
 (Ty.pair (Ty.int IntKind.i64)
 (Ty.pair (Ty.sl (Ty.int IntKind.i64)) (Ty.pair (Ty.sl (Ty.pair (Ty.int IntKind.i64) (Ty.int IntKind.i64))) (Ty.pair (Ty.sl (Ty.int IntKind.i64)) Ty.bool))))
 l) =
 Lv.llen L
 (Ty.pair (Ty.int IntKind.i64)
 (Ty.pair (Ty.sl (Ty.int IntKind.i64)) (Ty.pair (Ty.sl (Ty.pair (Ty.int IntKind.i64) (Ty.int IntKind.i64))) (Ty.pair (Ty.sl (Ty.int IntKind.i64)) Ty.bool))))
 (Lv.app L
 (Ty.pair (Ty.int IntKind.i64)
 (Ty.pair (Ty.sl (Ty.int IntKind.i64)) (Ty.pair (Ty.sl (Ty.pair (Ty.int IntKind.i64) (Ty.int IntKind.i64))) (Ty.pair (Ty.sl (Ty.int IntKind.i64)) Ty.bool))))
 (Lv.take L
 (Ty.pair (Ty.int IntKind.i64)
 (Ty.pair (Ty.sl (Ty.int IntKind.i64)) (Ty.pair (Ty.sl (Ty.pair (Ty.int IntKind.i64) (Ty.int IntKind.i64))) (Ty.pair (Ty.sl (Ty.int IntKind.i64)) Ty.bool))))
 [] 0)
 l)))))
 (VC.obl
 (Lv.room L
 (Lv.add L
 (Lv.llen L
 (Ty.pair (Ty.int IntKind.i64) (Ty.pair (Ty.sl (Ty.int IntKind.i64)) (Ty.pair (Ty.sl (Ty.pair (Ty.int IntKind.i64) (Ty.int IntKind.i64))) (Ty.pair (Ty.sl (Ty.int IntKind.i64)) Ty.bool))))
 (Lv.take L
 (Ty.pair (Ty.int IntKind.i64) (Ty.pair (Ty.sl (Ty.int IntKind.i64)) (Ty.pair (Ty.sl (Ty.pair (Ty.int IntKind.i64) (Ty.int IntKind.i64))) (Ty.pair (Ty.sl (Ty.int IntKind.i64)) Ty.bool))))
 [] 0))
 (Lv.llen L
 (Ty.pair (Ty.int IntKind.i64) (Ty.pair (Ty.sl (Ty.int IntKind.i64)) (Ty.pair (Ty.sl (Ty.pair (Ty.int IntKind.i64) (Ty.int IntKind.i64))) (Ty.pair (Ty.sl (Ty.int IntKind.i64)) Ty.bool)))) l))
 88)
 (VC.ok
 (99 = 99 ∧
 Lv.app L
 (Ty.pair (Ty.int IntKind.i64) (Ty.pair (Ty.sl (Ty.int IntKind.i64)) (Ty.pair (Ty.sl (Ty.pair (Ty.int IntKind.i64) (Ty.int IntKind.i64))) (Ty.pair (Ty.sl (Ty.int IntKind.i64)) Ty.bool))))
 (Lv.take L
 (Ty.pair (Ty.int IntKind.i64)
 (Ty.pair (Ty.sl (Ty.int IntKind.i64)) (Ty.pair (Ty.sl (Ty.pair (Ty.int IntKind.i64) (Ty.int IntKind.i64))) (Ty.pair (Ty.sl (Ty.int IntKind.i64)) Ty.bool))))
 [] 0)
 l =
 l ∧
 Lv.add L
 (Lv.llen L
 (Ty.pair (Ty.int IntKind.i64)
 (Ty.pair (Ty.sl (Ty.int IntKind.i64)) (Ty.pair (Ty.sl (Ty.pair (Ty.int IntKind.i64) (Ty.int IntKind.i64))) (Ty.pair (Ty.sl (Ty.int IntKind.i64)) Ty.bool))))
 (Lv.take L
 (Ty.pair (Ty.int IntKind.i64)
 (Ty.pair (Ty.sl (Ty.int IntKind.i64)) (Ty.pair (Ty.sl (Ty.pair (Ty.int IntKind.i64) (Ty.int IntKind.i64))) (Ty.pair (Ty.sl (Ty.int IntKind.i64)) Ty.bool))))
 [] 0))
 (Lv.llen L
 (Ty.pair (Ty.int IntKind.i64)
 (Ty.pair (Ty.sl (Ty.int IntKind.i64)) (Ty.pair (Ty.sl (Ty.pair (Ty.int IntKind.i64) (Ty.int IntKind.i64))) (Ty.pair (Ty.sl (Ty.int IntKind.i64)) Ty.bool))))
 l) =
 Lv.llen L
 (Ty.pair (Ty.int IntKind.i64) (Ty.pair (Ty.sl (Ty.int IntKind.i64)) (Ty.pair (Ty.sl (Ty.pair (Ty.int IntKind.i64) (Ty.int IntKind.i64))) (Ty.pair (Ty.sl (Ty.int IntKind.i64)) Ty.bool))))
 (Lv.app L
 (Ty.pair (Ty.int IntKind.i64)
 (Ty.pair (Ty.sl (Ty.int IntKind.i64)) (Ty.pair (Ty.sl (Ty.pair (Ty.int IntKind.i64) (Ty.int IntKind.i64))) (Ty.pair (Ty.sl (Ty.int IntKind.i64)) Ty.bool))))
 (Lv.take L
 (Ty.pair (Ty.int IntKind.i64)
 (Ty.pair (Ty.sl (Ty.int IntKind.i64)) (Ty.pair (Ty.sl (Ty.pair (Ty.int IntKind.i64) (Ty.int IntKind.i64))) (Ty.pair (Ty.sl (Ty.int IntKind.i64)) Ty.bool))))
 [] 0)
 l))))
theorem r141_eq (L : Lv) (F : BxF) (l : List ThD) : vcR L F [] (D141 a0) (R141 F) (l, ()) = r141 L F l := by kernel_rfl
theorem r141_go (L : Lv) (F : BxF) (l : List ThD) (h : VC.holds (r141 L F l)) : Holds (vcR L F [] (D141 a0) (R141 F) (l, ())) := Holds.of_eq (r141_eq L F l) h
def r142 (L : Lv) (F : BxF) (l : List KpD)  : VC :=
 VC.br (Lv.cmp L BinOp.eql (Lv.cast L (Lv.llen L (Ty.pair (Ty.int IntKind.i64) (Ty.int IntKind.i64)) l)) 0)
 (VC.all Bool fun (x : Bool) =>
 VC.br x (VC.ok (l = []))
 (VC.obl
 (Lv.room L
 (Lv.add L (Lv.llen L (Ty.pair (Ty.int IntKind.i64) (Ty.int IntKind.i64)) (Lv.take L (Ty.pair (Ty.int IntKind.i64) (Ty.int IntKind.i64)) [] 0))
 (Lv.llen L (Ty.pair (Ty.int IntKind.i64) (Ty.int IntKind.i64)) l))
 16)
 (VC.ok
 (134 = 134 ∧
 Lv.app L (Ty.pair (Ty.int IntKind.i64) (Ty.int IntKind.i64)) (Lv.take L (Ty.pair (Ty.int IntKind.i64) (Ty.int IntKind.i64)) [] 0) l = l ∧
 Lv.add L (Lv.llen L (Ty.pair (Ty.int IntKind.i64) (Ty.int IntKind.i64)) (Lv.take L (Ty.pair (Ty.int IntKind.i64) (Ty.int IntKind.i64)) [] 0))
 (Lv.llen L (Ty.pair (Ty.int IntKind.i64) (Ty.int IntKind.i64)) l) =
 Lv.llen L (Ty.pair (Ty.int IntKind.i64) (Ty.int IntKind.i64))
 (Lv.app L (Ty.pair (Ty.int IntKind.i64) (Ty.int IntKind.i64)) (Lv.take L (Ty.pair (Ty.int IntKind.i64) (Ty.int IntKind.i64)) [] 0) l)))))
 (VC.obl
 (Lv.room L
 (Lv.add L (Lv.llen L (Ty.pair (Ty.int IntKind.i64) (Ty.int IntKind.i64)) (Lv.take L (Ty.pair (Ty.int IntKind.i64) (Ty.int IntKind.i64)) [] 0))
 (Lv.llen L (Ty.pair (Ty.int IntKind.i64) (Ty.int IntKind.i64)) l))
 16)
 (VC.ok
 (134 = 134 ∧
 Lv.app L (Ty.pair (Ty.int IntKind.i64) (Ty.int IntKind.i64)) (Lv.take L (Ty.pair (Ty.int IntKind.i64) (Ty.int IntKind.i64)) [] 0) l = l ∧
 Lv.add L (Lv.llen L (Ty.pair (Ty.int IntKind.i64) (Ty.int IntKind.i64)) (Lv.take L (Ty.pair (Ty.int IntKind.i64) (Ty.int IntKind.i64)) [] 0))
 (Lv.llen L (Ty.pair (Ty.int IntKind.i64) (Ty.int IntKind.i64)) l) =
 Lv.llen L (Ty.pair (Ty.int IntKind.i64) (Ty.int IntKind.i64))
 (Lv.app L (Ty.pair (Ty.int IntKind.i64) (Ty.int IntKind.i64)) (Lv.take L (Ty.pair (Ty.int IntKind.i64) (Ty.int IntKind.i64)) [] 0) l))))
theorem r142_eq (L : Lv) (F : BxF) (l : List KpD) : vcR L F [] (D142 a0) (R142 F) (l, ()) = r142 L F l := by kernel_rfl
theorem r142_go (L : Lv) (F : BxF) (l : List KpD) (h : VC.holds (r142 L F l)) : Holds (vcR L F [] (D142 a0) (R142 F) (l, ())) := Holds.of_eq (r142_eq L F l) h
def m144 (L : Lv) (F : BxF)  : VC :=
 VC.obl True
 (VC.obl (Lv.cmp L BinOp.eql 9 8 = false ∧ True)
 (VC.obl (Lv.cmp L BinOp.eql 10 8 = false ∧ Lv.cmp L BinOp.eql 10 9 = false ∧ True)
 (VC.obl (Lv.cmp L BinOp.eql 12 8 = false ∧ Lv.cmp L BinOp.eql 12 9 = false ∧ Lv.cmp L BinOp.eql 12 10 = false ∧ True)
 (VC.ok
 ([(C.int IntKind.u8 8, C.fn 160 []), (C.int IntKind.u8 9, C.fn 161 []), (C.int IntKind.u8 10, C.fn 162 []), (C.int IntKind.u8 12, C.fn 163 [])] =
 [(C.int IntKind.u8 8, C.fn 160 []), (C.int IntKind.u8 9, C.fn 161 []), (C.int IntKind.u8 10, C.fn 162 []), (C.int IntKind.u8 12, C.fn 163 [])])))))
theorem m144_eq (L : Lv) (F : BxF) : mapcVC L E01 (callG L E01 (only (bT F) []) 0) (spcOf (only (bT F) [])) (D144 a0) acT = m144 L F := by kernel_rfl
theorem m144_go (L : Lv) (F : BxF) (h : VC.holds (m144 L F)) : Holds (mapcVC L E01 (callG L E01 (only (bT F) []) 0) (spcOf (only (bT F) [])) (D144 a0) acT) := Holds.of_eq (m144_eq L F) h
def withinF (n a b : Int) : Bool := decide (a ≤ n) && decide (n ≤ b)
def isNumF (n : Int) : Bool := withinF n (-1000000000) 1000000000
def truthF (b : Bool) : Int := if b then 1 else 0
def remF (b c : Int) : Int := Lv.std.dv .rem .i64 b c
def orF (b c : Int) : Int := Lv.std.ar .or .i64 b c
def regF (l : List Int) (k : Int) : Int := (l[k.toNat]?).getD 0
def numF (op n b c : Int) : Option Int :=
  if op = 1 then some n else if op = 2 then some (IntKind.i64.wrap (b + c)) else if op = 3 then some (IntKind.i64.wrap (b - c))
  else if op = 4 then (if c < 1 then none else some (remF (IntKind.i64.wrap (remF b c + c)) c))
  else if op = 5 then (if b < 0 ∨ c < 0 then none else some (orF b c))
  else if op = 6 then some (truthF (decide (c < b))) else if op = 7 then some (truthF (decide (b = c))) else some 0
def workedF (l : List Int) (i : InD) : Int × Bool := match numF i.1 i.2.2.2.2.2 (regF l i.2.2.1) (regF l i.2.2.2.1) with
  | some n => (n, isNumF n)
  | none => (0, false)
def placeF (s : StD) (t : ThD) (i : InD) : Int × Bool := let n := IntKind.i64.wrap (regF t.2.1 i.2.2.1 + i.2.2.2.2.2); (n, withinF n 0 (IntKind.i64.wrap ((s.1.length : Int) - 1)))
def inReg (l : List Int) (k : Int) : Prop := 0 ≤ k ∧ k < l.length
theorem ok86 (F : BxF) (h : F.within = withinF) : SpecOk prog 86 (S86 F) := by
  refine contract_by hm hE D86 fnok86 _ fun (z : Int × Int × Int × Unit) _ => ?_
  obtain ⟨a, b, c, ⟨⟩⟩ := z
  refine pack _ 3 a0 (only_tab (T := bT F) (l := []) tb_nil) ?_
  refine n86_go Lv.std F a b c ?_
  simp only [n86, VC.holds, std_cmp, std_scmp, std_ar_add, std_ar_sub, std_ar_mul, std_ar, std_dv, std_shf, std_conv, std_mn, std_mx, std_beq, std_bnot, std_band, std_scat, std_byte, std_ext, std_slen, std_strOf, std_bytes, std_llen, std_get, std_setl, std_app, std_take, std_drop, std_rep, std_mhas, std_mval, std_mput, std_cast, std_toN, std_sub, std_add, std_inR, std_le3, std_leN, std_ltN, std_ne0, std_nonneg, std_catOk, std_room, std_mkOk, std_nth, std_cnt, cmp_lss_t, cmp_lss_f, cmp_leq_t, cmp_leq_f, cmp_gtr_t, cmp_gtr_f, cmp_geq_t, cmp_geq_f, cmp_eql_t, cmp_eql_f, cmp_neq_t, cmp_neq_f, scmp_eql_t, scmp_eql_f, scmp_neq_t, scmp_neq_f, dflt_int, dflt_bool, dflt_str, dflt_sl, dflt_pair, h, withinF, Prod.mk.injEq, and_true]
  refine ⟨fun h1 => ⟨fun h2 => by simp [h1, h2], fun h2 => ?_⟩, fun h1 => ?_⟩
  · rw [decide_eq_false (by omega : ¬ a ≤ c)]; simp
  · rw [decide_eq_false (by omega : ¬ b ≤ a)]; simp
theorem ok54 (F : BxF) (h : F.within = withinF) : SpecOk prog 54 (S86 F) := by
  refine contract_by hm hE D54 fnok54 _ fun (z : Int × Int × Int × Unit) _ => ?_
  obtain ⟨a, b, c, ⟨⟩⟩ := z
  refine pack _ 3 a0 (only_tab (T := bT F) (l := []) tb_nil) ?_
  refine n54_go Lv.std F a b c ?_
  simp only [n54, VC.holds, std_cmp, std_scmp, std_ar_add, std_ar_sub, std_ar_mul, std_ar, std_dv, std_shf, std_conv, std_mn, std_mx, std_beq, std_bnot, std_band, std_scat, std_byte, std_ext, std_slen, std_strOf, std_bytes, std_llen, std_get, std_setl, std_app, std_take, std_drop, std_rep, std_mhas, std_mval, std_mput, std_cast, std_toN, std_sub, std_add, std_inR, std_le3, std_leN, std_ltN, std_ne0, std_nonneg, std_catOk, std_room, std_mkOk, std_nth, std_cnt, cmp_lss_t, cmp_lss_f, cmp_leq_t, cmp_leq_f, cmp_gtr_t, cmp_gtr_f, cmp_geq_t, cmp_geq_f, cmp_eql_t, cmp_eql_f, cmp_neq_t, cmp_neq_f, scmp_eql_t, scmp_eql_f, scmp_neq_t, scmp_neq_f, dflt_int, dflt_bool, dflt_str, dflt_sl, dflt_pair, h, withinF, Prod.mk.injEq, and_true]
  refine ⟨fun h1 => ⟨fun h2 => by simp [h1, h2], fun h2 => ?_⟩, fun h1 => ?_⟩
  · rw [decide_eq_false (by omega : ¬ a ≤ c)]; simp
  · rw [decide_eq_false (by omega : ¬ b ≤ a)]; simp
theorem ok92 (F : BxF) (hw : F.within = withinF) (h : F.isNum = isNumF) (k : SpecOk prog 86 (S86 F)) : SpecOk prog 92 (S92 F) := by
  refine contract_by hm hE D92 fnok92 _ fun (z : Int × Unit) _ => ?_
  obtain ⟨a, ⟨⟩⟩ := z
  refine pack _ 3 a0 (only_tab (T := bT F) (l := [86]) (tb_cons (tb_sp k (by kernel_rfl)) tb_nil)) ?_
  refine n92_go Lv.std F a ?_
  have m1 : (Int.negSucc 999999999 : Int) = -1000000000 := rfl
  simp only [n92, VC.holds, h, hw, m1, isNumF, Prod.mk.injEq, and_true]
  exact ⟨trivial, fun h => h.symm, fun h => h.symm⟩
theorem ok63 (F : BxF) (hw : F.within = withinF) (h : F.isNum = isNumF) (k : SpecOk prog 54 (S86 F)) : SpecOk prog 63 (S92 F) := by
  refine contract_by hm hE D63 fnok63 _ fun (z : Int × Unit) _ => ?_
  obtain ⟨a, ⟨⟩⟩ := z
  refine pack _ 3 a0 (only_tab (T := bT F) (l := [54]) (tb_cons (tb_sp k (by kernel_rfl)) tb_nil)) ?_
  refine n63_go Lv.std F a ?_
  have m1 : (Int.negSucc 999999999 : Int) = -1000000000 := rfl
  simp only [n63, VC.holds, h, hw, m1, isNumF, Prod.mk.injEq, and_true]
  exact ⟨trivial, fun h => h.symm, fun h => h.symm⟩
theorem ok134 (F : BxF) (h : F.truth = truthF) : SpecOk prog 134 (S134 F) := by
  refine contract_by hm hE D134 fnok134 _ fun (z : Bool × Unit) _ => ?_
  obtain ⟨a, ⟨⟩⟩ := z
  refine pack _ 3 a0 (only_tab (T := bT F) (l := []) tb_nil) ?_
  refine n134_go Lv.std F a ?_
  simp only [n134, VC.holds, h, truthF, Prod.mk.injEq, and_true]
  exact ⟨fun h => by rw [h]; rfl, fun h => by rw [h]; rfl⟩
theorem ok143 (F : BxF) (hw : F.within = withinF) (h : F.place = placeF) (hp : F.pPlace = fun _ t i => inReg t.2.1 i.2.2.1) (k : SpecOk prog 86 (S86 F)) : SpecOk prog 143 (S143 F) := by
  refine contract_by hm hE D143 fnok143 _ fun (z : StD × ThD × InD × Unit) hpre => ?_
  obtain ⟨s, t, i, ⟨⟩⟩ := z
  have hpre' : F.pPlace s t i := hpre
  rw [hp] at hpre'
  have hr : 0 ≤ i.2.2.1 ∧ i.2.2.1 < t.2.1.length := hpre'
  refine pack _ 3 a0 (only_tab (T := bT F) (l := [86]) (tb_cons (tb_sp k (by kernel_rfl)) tb_nil)) ?_
  refine n143_go Lv.std F s t i ?_
  simp only [n143, VC.holds, std_cmp, std_scmp, std_ar_add, std_ar_sub, std_ar_mul, std_ar, std_dv, std_shf, std_conv, std_mn, std_mx, std_beq, std_bnot, std_band, std_scat, std_byte, std_ext, std_slen, std_strOf, std_bytes, std_llen, std_get, std_setl, std_app, std_take, std_drop, std_rep, std_mhas, std_mval, std_mput, std_cast, std_toN, std_sub, std_add, std_inR, std_le3, std_leN, std_ltN, std_ne0, std_nonneg, std_catOk, std_room, std_mkOk, std_nth, std_cnt, cmp_lss_t, cmp_lss_f, cmp_leq_t, cmp_leq_f, cmp_gtr_t, cmp_gtr_f, cmp_geq_t, cmp_geq_f, cmp_eql_t, cmp_eql_f, cmp_neq_t, cmp_neq_f, scmp_eql_t, scmp_eql_f, scmp_neq_t, scmp_neq_f, dflt_int, dflt_bool, dflt_str, dflt_sl, dflt_pair, h, hw, placeF, regF, Prod.mk.injEq, and_true, true_and]
  exact ⟨hr, fun h => h.symm, fun h => h.symm⟩
theorem lt1 (x : Int) (h : 1 ≤ x) : (x < 1) = False := by simp; omega
theorem lt0 (x : Int) (h : 0 ≤ x) : (x < 0) = False := by simp; omega
theorem le0 (x : Int) (h : x < 0) : (0 ≤ x) = False := by simp; omega
theorem lt_le (x y : Int) (h : x ≤ y) : (y < x) = False := by simp; omega
theorem ok145 (F : BxF) (h : F.worked = workedF) (hn : F.isNum = isNumF) (ht : F.truth = truthF) (hp : F.pRegs = fun l i => inReg l i.2.2.1 ∧ inReg l i.2.2.2.1) (k1 : SpecOk prog 92 (S92 F)) (k2 : SpecOk prog 134 (S134 F)) : SpecOk prog 145 (S145 F) := by
  refine contract_by hm hE D145 fnok145 _ fun (z : List Int × InD × Unit) hpre => ?_
  obtain ⟨l, i, ⟨⟩⟩ := z
  have hpre' : F.pRegs l i := hpre
  rw [hp] at hpre'
  obtain ⟨hb, hc⟩ := hpre'
  refine pack _ 3 a0 (only_tab (T := bT F) (l := [92, 134]) (tb_cons (tb_sp k1 (by kernel_rfl)) (tb_cons (tb_sp k2 (by kernel_rfl)) tb_nil))) ?_
  refine n145_go Lv.std F l i ?_
  simp only [n145, VC.holds, std_cmp, std_ar_add, std_ar_sub, std_llen, std_get, std_toN, std_inR, std_ne0, cmp_lss_t, cmp_lss_f, cmp_gtr_t, cmp_gtr_f, cmp_eql_t, cmp_eql_f, dflt_int, h, hn, ht, workedF, numF, remF, orF, regF, Prod.mk.injEq, and_true, true_and]
  refine ⟨hb, hc, ?_⟩
  have tt : truthF true = 1 := rfl
  have tf : truthF false = 0 := rfl
  have n0 : isNumF 0 = true := by decide
  have n1 : isNumF 1 = true := by decide
  repeat' (first | apply And.intro | intro _)
  all_goals (first | trivial | omega | simp_all [truthF, lt1, lt0, le0, lt_le] | skip)
  all_goals (first | (rw [if_neg (by omega)]; simp_all; done) | (rw [if_pos (by omega)]; done) | (rw [if_pos (by omega)]; simp_all; done) | skip)
  all_goals trace_state
theorem ok76 (F : BxF) (hp : F.pLi = fun l => l.length ≤ 1000000) : XOk prog 76 (R76 F).x := by
  refine rowX_ok hm hE 1 (fns := only (bT F) []) (only_tab tb_nil) (fnok76 a0) (R76 F) fun (z : List Int × Unit) hpre => ?_
  obtain ⟨l, ⟨⟩⟩ := z
  have hl : l.length ≤ 1000000 := by have := hpre; simp only [R76, hp] at this; exact this
  refine r76_go Lv.std F l ?_
  simp only [r76, VC.holds, std_cmp, std_scmp, std_ar_add, std_ar_sub, std_ar_mul, std_ar, std_dv, std_shf, std_conv, std_mn, std_mx, std_beq, std_bnot, std_band, std_scat, std_byte, std_ext, std_slen, std_strOf, std_bytes, std_llen, std_get, std_setl, std_app, std_take, std_drop, std_rep, std_mhas, std_mval, std_mput, std_cast, std_toN, std_sub, std_add, std_inR, std_le3, std_leN, std_ltN, std_ne0, std_nonneg, std_catOk, std_room, std_mkOk, std_nth, std_cnt, cmp_lss_t, cmp_lss_f, cmp_leq_t, cmp_leq_f, cmp_gtr_t, cmp_gtr_f, cmp_geq_t, cmp_geq_f, cmp_eql_t, cmp_eql_f, cmp_neq_t, cmp_neq_f, scmp_eql_t, scmp_eql_f, scmp_neq_t, scmp_neq_f, dflt_int, dflt_bool, dflt_str, dflt_sl, dflt_pair, List.take_nil, List.length_nil, Nat.zero_add, List.nil_append, Prod.mk.injEq, and_true, true_and]
  exact ⟨fun h b => ⟨fun _ => List.eq_nil_of_length_eq_zero (by omega), fun _ => ⟨by omega, by omega⟩⟩, fun _ => ⟨by omega, by omega⟩⟩
theorem ok141 (F : BxF) (hp : F.pLt = fun l => l.length ≤ 1000000) : XOk prog 141 (R141 F).x := by
  refine rowX_ok hm hE 1 (fns := only (bT F) []) (only_tab tb_nil) (fnok141 a0) (R141 F) fun (z : List ThD × Unit) hpre => ?_
  obtain ⟨l, ⟨⟩⟩ := z
  have hl : l.length ≤ 1000000 := by have := hpre; simp only [R141, hp] at this; exact this
  refine r141_go Lv.std F l ?_
  simp only [r141, VC.holds, std_cmp, std_scmp, std_ar_add, std_ar_sub, std_ar_mul, std_ar, std_dv, std_shf, std_conv, std_mn, std_mx, std_beq, std_bnot, std_band, std_scat, std_byte, std_ext, std_slen, std_strOf, std_bytes, std_llen, std_get, std_setl, std_app, std_take, std_drop, std_rep, std_mhas, std_mval, std_mput, std_cast, std_toN, std_sub, std_add, std_inR, std_le3, std_leN, std_ltN, std_ne0, std_nonneg, std_catOk, std_room, std_mkOk, std_nth, std_cnt, cmp_lss_t, cmp_lss_f, cmp_leq_t, cmp_leq_f, cmp_gtr_t, cmp_gtr_f, cmp_geq_t, cmp_geq_f, cmp_eql_t, cmp_eql_f, cmp_neq_t, cmp_neq_f, scmp_eql_t, scmp_eql_f, scmp_neq_t, scmp_neq_f, dflt_int, dflt_bool, dflt_str, dflt_sl, dflt_pair, List.take_nil, List.length_nil, Nat.zero_add, List.nil_append, Prod.mk.injEq, and_true, true_and]
  exact ⟨fun h b => ⟨fun _ => List.eq_nil_of_length_eq_zero (by omega), fun _ => ⟨by omega, by omega⟩⟩, fun _ => ⟨by omega, by omega⟩⟩
theorem ok142 (F : BxF) (hp : F.pLk = fun l => l.length ≤ 1000000) : XOk prog 142 (R142 F).x := by
  refine rowX_ok hm hE 1 (fns := only (bT F) []) (only_tab tb_nil) (fnok142 a0) (R142 F) fun (z : List KpD × Unit) hpre => ?_
  obtain ⟨l, ⟨⟩⟩ := z
  have hl : l.length ≤ 1000000 := by have := hpre; simp only [R142, hp] at this; exact this
  refine r142_go Lv.std F l ?_
  simp only [r142, VC.holds, std_cmp, std_scmp, std_ar_add, std_ar_sub, std_ar_mul, std_ar, std_dv, std_shf, std_conv, std_mn, std_mx, std_beq, std_bnot, std_band, std_scat, std_byte, std_ext, std_slen, std_strOf, std_bytes, std_llen, std_get, std_setl, std_app, std_take, std_drop, std_rep, std_mhas, std_mval, std_mput, std_cast, std_toN, std_sub, std_add, std_inR, std_le3, std_leN, std_ltN, std_ne0, std_nonneg, std_catOk, std_room, std_mkOk, std_nth, std_cnt, cmp_lss_t, cmp_lss_f, cmp_leq_t, cmp_leq_f, cmp_gtr_t, cmp_gtr_f, cmp_geq_t, cmp_geq_f, cmp_eql_t, cmp_eql_f, cmp_neq_t, cmp_neq_f, scmp_eql_t, scmp_eql_f, scmp_neq_t, scmp_neq_f, dflt_int, dflt_bool, dflt_str, dflt_sl, dflt_pair, List.take_nil, List.length_nil, Nat.zero_add, List.nil_append, Prod.mk.injEq, and_true, true_and]
  exact ⟨fun h b => ⟨fun _ => List.eq_nil_of_length_eq_zero (by omega), fun _ => ⟨by omega, by omega⟩⟩, fun _ => ⟨by omega, by omega⟩⟩
theorem ok144 (F : BxF) : XOk prog 144 (mapcX acT) := by
  refine mapcX_ok hm hE 0 (fns := only (bT F) []) (only_tab tb_nil) (fnok144 a0) acT rfl ?_
  refine m144_go Lv.std F ?_
  simp only [m144, VC.holds, std_cmp, std_scmp, std_ar_add, std_ar_sub, std_ar_mul, std_ar, std_dv, std_shf, std_conv, std_mn, std_mx, std_beq, std_bnot, std_band, std_scat, std_byte, std_ext, std_slen, std_strOf, std_bytes, std_llen, std_get, std_setl, std_app, std_take, std_drop, std_rep, std_mhas, std_mval, std_mput, std_cast, std_toN, std_sub, std_add, std_inR, std_le3, std_leN, std_ltN, std_ne0, std_nonneg, std_catOk, std_room, std_mkOk, std_nth, std_cnt, cmp_lss_t, cmp_lss_f, cmp_leq_t, cmp_leq_f, cmp_gtr_t, cmp_gtr_f, cmp_geq_t, cmp_geq_f, cmp_eql_t, cmp_eql_f, cmp_neq_t, cmp_neq_f, scmp_eql_t, scmp_eql_f, scmp_neq_t, scmp_neq_f, dflt_int, dflt_bool, dflt_str, dflt_sl, dflt_pair]
  decide
end Go.Proofs.Tryz
