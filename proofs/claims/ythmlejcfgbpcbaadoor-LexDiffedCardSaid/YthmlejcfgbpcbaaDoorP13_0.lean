/- What some functions of the lexer compute, proved through the condition generator. No condition of ours. -/
import Derived.Test.YthmlejcfgbpcbaaDoorL2
set_option autoImplicit false
set_option linter.all false
namespace Go.Proofs.Tryd
open Go Go.VM
set_option maxRecDepth 100000
def law2e : VM.Spec := ⟨[.str, Et, Et], [.bool], fun _ => True, fun _ => (true, ())⟩
def lawEp (F : LexF) : VM.Spec := ⟨[.str, Et], [.bool], fun x => F.pB x.2.1.2.2, fun _ => (true, ())⟩
def law2ep (F : LexF) : VM.Spec := ⟨[.str, Et, Et], [.bool], fun x => F.pB x.2.1.2.2 ∧ F.pB x.2.2.1.2.2, fun _ => (true, ())⟩
def n76 (L : Lv) (F : LexF) (d : Dd)  : VC :=
 VC.ok ((Lv.ar L BinOp.add IntKind.i64 (Prod.fst (Prod.fst d)) (Lv.cast L (Lv.slen L (Prod.snd (Prod.snd (Prod.fst d))))), ()) = (LexF.dEnd F d, ()))
theorem n76_eq (L : Lv) (F : LexF) (d : Dd) : vcO L F [] (D76 a0) (S76 F) (d, ()) = n76 L F d := by kernel_rfl
theorem n76_go (L : Lv) (F : LexF) (d : Dd) (h : VC.holds (n76 L F d)) : Holds (vcO L F [] (D76 a0) (S76 F) (d, ())) := Holds.of_eq (n76_eq L F d) h
def n77 (L : Lv) (F : LexF) (d : Dd)  : VC :=
 VC.ok ((Lv.ar L BinOp.sub IntKind.i64 (Lv.cast L (Lv.slen L (Prod.snd (Prod.snd d)))) (Lv.cast L (Lv.slen L (Prod.fst (Prod.snd d)))), ()) = (LexF.dMore F d, ()))
theorem n77_eq (L : Lv) (F : LexF) (d : Dd) : vcO L F [] (D77 a0) (S77 F) (d, ()) = n77 L F d := by kernel_rfl
theorem n77_go (L : Lv) (F : LexF) (d : Dd) (h : VC.holds (n77 L F d)) : Holds (vcO L F [] (D77 a0) (S77 F) (d, ())) := Holds.of_eq (n77_eq L F d) h
def n72 (L : Lv) (F : LexF) (s : ByteArray) (x : Ed)  : VC :=
 VC.obl True
 (VC.br (Lv.cmp L BinOp.neq (Prod.snd (LexF.chk F s)) 0)
 (VC.ok ((((0, 0, ByteArray.empty), ByteArray.empty, ByteArray.empty), Prod.snd (LexF.chk F s), ()) = (Prod.fst (LexF.edit F s x), Prod.snd (LexF.edit F s x), ())))
 (VC.br (Lv.cmp L BinOp.lss (Prod.fst x) 0)
 (VC.ok ((((0, 0, ByteArray.empty), ByteArray.empty, ByteArray.empty), 3, ()) = (Prod.fst (LexF.edit F s x), Prod.snd (LexF.edit F s x), ())))
 (VC.br (Lv.cmp L BinOp.gtr (Prod.fst x) (Prod.fst (Prod.snd x)))
 (VC.ok ((((0, 0, ByteArray.empty), ByteArray.empty, ByteArray.empty), 3, ()) = (Prod.fst (LexF.edit F s x), Prod.snd (LexF.edit F s x), ())))
 (VC.br (Lv.cmp L BinOp.gtr (Prod.fst (Prod.snd x)) (Lv.cast L (Lv.slen L s)))
 (VC.ok ((((0, 0, ByteArray.empty), ByteArray.empty, ByteArray.empty), 3, ()) = (Prod.fst (LexF.edit F s x), Prod.snd (LexF.edit F s x), ())))
 (VC.obl (Lv.le3 L (Lv.cast L 0) (Prod.fst x) (Lv.slen L s))
 (VC.obl (Lv.catOk L (Lv.ext L s (Lv.toN L (Lv.cast L 0)) (Lv.toN L (Prod.fst x))) (Prod.snd (Prod.snd x)))
 (VC.obl (Lv.le3 L (Prod.fst (Prod.snd x)) (Lv.cast L (Lv.slen L s)) (Lv.slen L s))
 (VC.obl
 (Lv.catOk L (Lv.scat L (Lv.ext L s (Lv.toN L (Lv.cast L 0)) (Lv.toN L (Prod.fst x))) (Prod.snd (Prod.snd x)))
 (Lv.ext L s (Lv.toN L (Prod.fst (Prod.snd x))) (Lv.toN L (Lv.cast L (Lv.slen L s)))))
 (VC.obl True
 (VC.br
 (Lv.cmp L BinOp.neq
 (Prod.snd
 (LexF.chk F
 (Lv.scat L (Lv.scat L (Lv.ext L s (Lv.toN L (Lv.cast L 0)) (Lv.toN L (Prod.fst x))) (Prod.snd (Prod.snd x)))
 (Lv.ext L s (Lv.toN L (Prod.fst (Prod.snd x))) (Lv.toN L (Lv.cast L (Lv.slen L s)))))))
 0)
 (VC.ok
 ((((0, 0, ByteArray.empty), ByteArray.empty, ByteArray.empty),
 Prod.snd
 (LexF.chk F
 (Lv.scat L (Lv.scat L (Lv.ext L s (Lv.toN L (Lv.cast L 0)) (Lv.toN L (Prod.fst x))) (Prod.snd (Prod.snd x)))
 (Lv.ext L s (Lv.toN L (Prod.fst (Prod.snd x))) (Lv.toN L (Lv.cast L (Lv.slen L s)))))),
 ()) =
 (Prod.fst (LexF.edit F s x), Prod.snd (LexF.edit F s x), ())))
 (VC.ok
 ((((Prod.fst x, Prod.fst (Prod.snd x), Prod.snd (Prod.snd x)), s,
 Lv.scat L (Lv.scat L (Lv.ext L s (Lv.toN L (Lv.cast L 0)) (Lv.toN L (Prod.fst x))) (Prod.snd (Prod.snd x)))
 (Lv.ext L s (Lv.toN L (Prod.fst (Prod.snd x))) (Lv.toN L (Lv.cast L (Lv.slen L s))))),
 0, ()) =
 (Prod.fst (LexF.edit F s x), Prod.snd (LexF.edit F s x), ())))))))))))))
theorem n72_eq (L : Lv) (F : LexF) (s : ByteArray) (x : Ed) : vcO L F [56] (D72 a0) (S72 F) (s, x, ()) = n72 L F s x := by kernel_rfl
theorem n72_go (L : Lv) (F : LexF) (s : ByteArray) (x : Ed) (h : VC.holds (n72 L F s x)) : Holds (vcO L F [56] (D72 a0) (S72 F) (s, x, ())) := Holds.of_eq (n72_eq L F s x) h
def n39 (L : Lv) (F : LexF) (s : ByteArray) (x : Ed)  : VC :=
 VC.obl (LexF.pB F (Prod.snd (Prod.snd x)))
 (VC.ok
 ((Prod.snd (Prod.snd (Prod.fst (LexF.edit F s (Prod.fst x, Prod.fst (Prod.snd x), Prod.snd (Prod.snd x))))), Prod.snd (LexF.edit F s (Prod.fst x, Prod.fst (Prod.snd x), Prod.snd (Prod.snd x))),
 ()) =
 (Prod.fst (LexF.apply F s x), Prod.snd (LexF.apply F s x), ())))
theorem n39_eq (L : Lv) (F : LexF) (s : ByteArray) (x : Ed) : vcO L F [72] (D39 a0) (S39 F) (s, x, ()) = n39 L F s x := by kernel_rfl
theorem n39_go (L : Lv) (F : LexF) (s : ByteArray) (x : Ed) (h : VC.holds (n39 L F s x)) : Holds (vcO L F [72] (D39 a0) (S39 F) (s, x, ())) := Holds.of_eq (n39_eq L F s x) h
def n42 (L : Lv) (F : LexF) (s : ByteArray) (x : Ed)  : VC :=
 VC.obl (LexF.pB F (Prod.snd (Prod.snd x)))
 (VC.br (Lv.cmp L BinOp.neq (Prod.snd (LexF.edit F s (Prod.fst x, Prod.fst (Prod.snd x), Prod.snd (Prod.snd x)))) 0)
 (VC.ok
 (((0, 0, ByteArray.empty), Prod.snd (LexF.edit F s (Prod.fst x, Prod.fst (Prod.snd x), Prod.snd (Prod.snd x))), ()) =
 (Prod.fst (LexF.undo F s x), Prod.snd (LexF.undo F s x), ())))
 (VC.obl True
 (VC.obl
 (Lv.le3 L (Prod.fst (Prod.fst (Prod.fst (LexF.edit F s (Prod.fst x, Prod.fst (Prod.snd x), Prod.snd (Prod.snd x))))))
 (Prod.fst (Prod.snd (Prod.fst (Prod.fst (LexF.edit F s (Prod.fst x, Prod.fst (Prod.snd x), Prod.snd (Prod.snd x))))))) (Lv.slen L s))
 (VC.ok
 (((Prod.fst (Prod.fst (Prod.fst (LexF.edit F s (Prod.fst x, Prod.fst (Prod.snd x), Prod.snd (Prod.snd x))))),
 LexF.dEnd F
 ((Prod.fst (Prod.fst (Prod.fst (LexF.edit F s (Prod.fst x, Prod.fst (Prod.snd x), Prod.snd (Prod.snd x))))),
 Prod.fst (Prod.snd (Prod.fst (Prod.fst (LexF.edit F s (Prod.fst x, Prod.fst (Prod.snd x), Prod.snd (Prod.snd x)))))),
 Prod.snd (Prod.snd (Prod.fst (Prod.fst (LexF.edit F s (Prod.fst x, Prod.fst (Prod.snd x), Prod.snd (Prod.snd x))))))),
 Prod.fst (Prod.snd (Prod.fst (LexF.edit F s (Prod.fst x, Prod.fst (Prod.snd x), Prod.snd (Prod.snd x))))),
 Prod.snd (Prod.snd (Prod.fst (LexF.edit F s (Prod.fst x, Prod.fst (Prod.snd x), Prod.snd (Prod.snd x)))))),
 Lv.ext L s (Lv.toN L (Prod.fst (Prod.fst (Prod.fst (LexF.edit F s (Prod.fst x, Prod.fst (Prod.snd x), Prod.snd (Prod.snd x)))))))
 (Lv.toN L (Prod.fst (Prod.snd (Prod.fst (Prod.fst (LexF.edit F s (Prod.fst x, Prod.fst (Prod.snd x), Prod.snd (Prod.snd x))))))))),
 0, ()) =
 (Prod.fst (LexF.undo F s x), Prod.snd (LexF.undo F s x), ()))))))
theorem n42_eq (L : Lv) (F : LexF) (s : ByteArray) (x : Ed) : vcO L F [72, 76] (D42 a0) (S42 F) (s, x, ()) = n42 L F s x := by kernel_rfl
theorem n42_go (L : Lv) (F : LexF) (s : ByteArray) (x : Ed) (h : VC.holds (n42 L F s x)) : Holds (vcO L F [72, 76] (D42 a0) (S42 F) (s, x, ())) := Holds.of_eq (n42_eq L F s x) h
def n43 (L : Lv) (F : LexF) (s : ByteArray) (x : Ed)  : VC :=
 VC.obl True
 (VC.br (Lv.cmp L BinOp.neq (Prod.snd (LexF.chk F s)) 0) (VC.ok ((ByteArray.mk #[], Prod.snd (LexF.chk F s), ()) = (Prod.fst (LexF.rApply F s x), Prod.snd (LexF.rApply F s x), ())))
 (VC.obl True
 (VC.br (LexF.rIsEdit F s (Prod.fst x, Prod.fst (Prod.snd x), Prod.snd (Prod.snd x)))
 (VC.obl (Lv.le3 L (Lv.cast L 0) (Prod.fst x) (Lv.slen L s))
 (VC.obl (Lv.catOk L (Lv.ext L s (Lv.toN L (Lv.cast L 0)) (Lv.toN L (Prod.fst x))) (Prod.snd (Prod.snd x)))
 (VC.obl (Lv.le3 L (Prod.fst (Prod.snd x)) (Lv.cast L (Lv.slen L s)) (Lv.slen L s))
 (VC.obl
 (Lv.catOk L (Lv.scat L (Lv.ext L s (Lv.toN L (Lv.cast L 0)) (Lv.toN L (Prod.fst x))) (Prod.snd (Prod.snd x)))
 (Lv.ext L s (Lv.toN L (Prod.fst (Prod.snd x))) (Lv.toN L (Lv.cast L (Lv.slen L s)))))
 (VC.obl True
 (VC.br
 (Lv.cmp L BinOp.neq
 (Prod.snd
 (LexF.chk F
 (Lv.scat L (Lv.scat L (Lv.ext L s (Lv.toN L (Lv.cast L 0)) (Lv.toN L (Prod.fst x))) (Prod.snd (Prod.snd x)))
 (Lv.ext L s (Lv.toN L (Prod.fst (Prod.snd x))) (Lv.toN L (Lv.cast L (Lv.slen L s)))))))
 0)
 (VC.ok
 ((ByteArray.mk #[],
 Prod.snd
 (LexF.chk F
 (Lv.scat L (Lv.scat L (Lv.ext L s (Lv.toN L (Lv.cast L 0)) (Lv.toN L (Prod.fst x))) (Prod.snd (Prod.snd x)))
 (Lv.ext L s (Lv.toN L (Prod.fst (Prod.snd x))) (Lv.toN L (Lv.cast L (Lv.slen L s)))))),
 ()) =
 (Prod.fst (LexF.rApply F s x), Prod.snd (LexF.rApply F s x), ())))
 (VC.ok
 ((Lv.scat L (Lv.scat L (Lv.ext L s (Lv.toN L (Lv.cast L 0)) (Lv.toN L (Prod.fst x))) (Prod.snd (Prod.snd x)))
 (Lv.ext L s (Lv.toN L (Prod.fst (Prod.snd x))) (Lv.toN L (Lv.cast L (Lv.slen L s)))),
 0, ()) =
 (Prod.fst (LexF.rApply F s x), Prod.snd (LexF.rApply F s x), ())))))))))
 (VC.ok ((ByteArray.mk #[], 3, ()) = (Prod.fst (LexF.rApply F s x), Prod.snd (LexF.rApply F s x), ()))))))
theorem n43_eq (L : Lv) (F : LexF) (s : ByteArray) (x : Ed) : vcO L F [59, 71] (D43 a0) (S43 F) (s, x, ()) = n43 L F s x := by kernel_rfl
theorem n43_go (L : Lv) (F : LexF) (s : ByteArray) (x : Ed) (h : VC.holds (n43 L F s x)) : Holds (vcO L F [59, 71] (D43 a0) (S43 F) (s, x, ())) := Holds.of_eq (n43_eq L F s x) h
def n44 (L : Lv) (F : LexF) (s : ByteArray) (x : Ed)  : VC :=
 VC.obl (LexF.pB F (Prod.snd (Prod.snd x)))
 (VC.br (Lv.cmp L BinOp.neq (Prod.snd (LexF.rApply F s (Prod.fst x, Prod.fst (Prod.snd x), Prod.snd (Prod.snd x)))) 0)
 (VC.ok
 (((0, 0, ByteArray.empty), Prod.snd (LexF.rApply F s (Prod.fst x, Prod.fst (Prod.snd x), Prod.snd (Prod.snd x))), ()) =
 (Prod.fst (LexF.rUndo F s x), Prod.snd (LexF.rUndo F s x), ())))
 (VC.obl (Lv.le3 L (Prod.fst x) (Prod.fst (Prod.snd x)) (Lv.slen L s))
 (VC.ok
 (((Prod.fst x, Lv.ar L BinOp.add IntKind.i64 (Prod.fst x) (Lv.cast L (Lv.slen L (Prod.snd (Prod.snd x)))), Lv.ext L s (Lv.toN L (Prod.fst x)) (Lv.toN L (Prod.fst (Prod.snd x)))), 0,
 ()) =
 (Prod.fst (LexF.rUndo F s x), Prod.snd (LexF.rUndo F s x), ())))))
theorem n44_eq (L : Lv) (F : LexF) (s : ByteArray) (x : Ed) : vcO L F [43] (D44 a0) (S44 F) (s, x, ()) = n44 L F s x := by kernel_rfl
theorem n44_go (L : Lv) (F : LexF) (s : ByteArray) (x : Ed) (h : VC.holds (n44 L F s x)) : Holds (vcO L F [43] (D44 a0) (S44 F) (s, x, ())) := Holds.of_eq (n44_eq L F s x) h
def n45 (L : Lv) (F : LexF) (s : ByteArray) (x y : Ed)  : VC :=
 VC.obl (LexF.pB F (Prod.snd (Prod.snd x)))
 (VC.br (Lv.cmp L BinOp.neq (Prod.snd (LexF.edit F s (Prod.fst x, Prod.fst (Prod.snd x), Prod.snd (Prod.snd x)))) 0)
 (VC.ok
 (((0, 0, ByteArray.empty), Prod.snd (LexF.edit F s (Prod.fst x, Prod.fst (Prod.snd x), Prod.snd (Prod.snd x))), ()) =
 (Prod.fst (LexF.both F s x y), Prod.snd (LexF.both F s x y), ())))
 (VC.obl (LexF.pB F (Prod.snd (Prod.snd y)))
 (VC.br
 (Lv.cmp L BinOp.neq
 (Prod.snd
 (LexF.edit F (Prod.snd (Prod.snd (Prod.fst (LexF.edit F s (Prod.fst x, Prod.fst (Prod.snd x), Prod.snd (Prod.snd x)))))) (Prod.fst y, Prod.fst (Prod.snd y), Prod.snd (Prod.snd y))))
 0)
 (VC.ok
 (((0, 0, ByteArray.empty),
 Prod.snd
 (LexF.edit F (Prod.snd (Prod.snd (Prod.fst (LexF.edit F s (Prod.fst x, Prod.fst (Prod.snd x), Prod.snd (Prod.snd x)))))) (Prod.fst y, Prod.fst (Prod.snd y), Prod.snd (Prod.snd y))),
 ()) =
 (Prod.fst (LexF.both F s x y), Prod.snd (LexF.both F s x y), ())))
 (VC.obl True
 (VC.br
 (Lv.cmp L BinOp.geq (Prod.fst (Prod.snd y))
 (LexF.dEnd F
 ((Prod.fst (Prod.fst (Prod.fst (LexF.edit F s (Prod.fst x, Prod.fst (Prod.snd x), Prod.snd (Prod.snd x))))),
 Prod.fst (Prod.snd (Prod.fst (Prod.fst (LexF.edit F s (Prod.fst x, Prod.fst (Prod.snd x), Prod.snd (Prod.snd x)))))),
 Prod.snd (Prod.snd (Prod.fst (Prod.fst (LexF.edit F s (Prod.fst x, Prod.fst (Prod.snd x), Prod.snd (Prod.snd x))))))),
 Prod.fst (Prod.snd (Prod.fst (LexF.edit F s (Prod.fst x, Prod.fst (Prod.snd x), Prod.snd (Prod.snd x))))),
 Prod.snd (Prod.snd (Prod.fst (LexF.edit F s (Prod.fst x, Prod.fst (Prod.snd x), Prod.snd (Prod.snd x))))))))
 (VC.obl True
 (VC.obl
 (Lv.le3 L (Lv.mn L (Prod.fst x) (Prod.fst y))
 (Lv.ar L BinOp.sub IntKind.i64
 (Lv.cast L
 (Lv.slen L
 (Prod.snd
 (Prod.snd
 (Prod.fst
 (LexF.edit F (Prod.snd (Prod.snd (Prod.fst (LexF.edit F s (Prod.fst x, Prod.fst (Prod.snd x), Prod.snd (Prod.snd x))))))
 (Prod.fst y, Prod.fst (Prod.snd y), Prod.snd (Prod.snd y))))))))
 (Lv.ar L BinOp.sub IntKind.i64 (Lv.cast L (Lv.slen L s))
 (Lv.mx L (Prod.fst (Prod.snd x))
 (Lv.ar L BinOp.sub IntKind.i64 (Prod.fst (Prod.snd y))
 (LexF.dMore F
 ((Prod.fst (Prod.fst (Prod.fst (LexF.edit F s (Prod.fst x, Prod.fst (Prod.snd x), Prod.snd (Prod.snd x))))),
 Prod.fst (Prod.snd (Prod.fst (Prod.fst (LexF.edit F s (Prod.fst x, Prod.fst (Prod.snd x), Prod.snd (Prod.snd x)))))),
 Prod.snd (Prod.snd (Prod.fst (Prod.fst (LexF.edit F s (Prod.fst x, Prod.fst (Prod.snd x), Prod.snd (Prod.snd x))))))),
 Prod.fst (Prod.snd (Prod.fst (LexF.edit F s (Prod.fst x, Prod.fst (Prod.snd x), Prod.snd (Prod.snd x))))),
 Prod.snd (Prod.snd (Prod.fst (LexF.edit F s (Prod.fst x, Prod.fst (Prod.snd x), Prod.snd (Prod.snd x)))))))))))
 (Lv.slen L
 (Prod.snd
 (Prod.snd
 (Prod.fst
 (LexF.edit F (Prod.snd (Prod.snd (Prod.fst (LexF.edit F s (Prod.fst x, Prod.fst (Prod.snd x), Prod.snd (Prod.snd x))))))
 (Prod.fst y, Prod.fst (Prod.snd y), Prod.snd (Prod.snd y))))))))
 (VC.ok
 (((Lv.mn L (Prod.fst x) (Prod.fst y),
 Lv.mx L (Prod.fst (Prod.snd x))
 (Lv.ar L BinOp.sub IntKind.i64 (Prod.fst (Prod.snd y))
 (LexF.dMore F
 ((Prod.fst (Prod.fst (Prod.fst (LexF.edit F s (Prod.fst x, Prod.fst (Prod.snd x), Prod.snd (Prod.snd x))))),
 Prod.fst (Prod.snd (Prod.fst (Prod.fst (LexF.edit F s (Prod.fst x, Prod.fst (Prod.snd x), Prod.snd (Prod.snd x)))))),
 Prod.snd (Prod.snd (Prod.fst (Prod.fst (LexF.edit F s (Prod.fst x, Prod.fst (Prod.snd x), Prod.snd (Prod.snd x))))))),
 Prod.fst (Prod.snd (Prod.fst (LexF.edit F s (Prod.fst x, Prod.fst (Prod.snd x), Prod.snd (Prod.snd x))))),
 Prod.snd (Prod.snd (Prod.fst (LexF.edit F s (Prod.fst x, Prod.fst (Prod.snd x), Prod.snd (Prod.snd x)))))))),
 Lv.ext L
 (Prod.snd
 (Prod.snd
 (Prod.fst
 (LexF.edit F (Prod.snd (Prod.snd (Prod.fst (LexF.edit F s (Prod.fst x, Prod.fst (Prod.snd x), Prod.snd (Prod.snd x))))))
 (Prod.fst y, Prod.fst (Prod.snd y), Prod.snd (Prod.snd y))))))
 (Lv.toN L (Lv.mn L (Prod.fst x) (Prod.fst y)))
 (Lv.toN L
 (Lv.ar L BinOp.sub IntKind.i64
 (Lv.cast L
 (Lv.slen L
 (Prod.snd
 (Prod.snd
 (Prod.fst
 (LexF.edit F (Prod.snd (Prod.snd (Prod.fst (LexF.edit F s (Prod.fst x, Prod.fst (Prod.snd x), Prod.snd (Prod.snd x))))))
 (Prod.fst y, Prod.fst (Prod.snd y), Prod.snd (Prod.snd y))))))))
 (Lv.ar L BinOp.sub IntKind.i64 (Lv.cast L (Lv.slen L s))
 (Lv.mx L (Prod.fst (Prod.snd x))
 (Lv.ar L BinOp.sub IntKind.i64 (Prod.fst (Prod.snd y))
 (LexF.dMore F
 ((Prod.fst (Prod.fst (Prod.fst (LexF.edit F s (Prod.fst x, Prod.fst (Prod.snd x), Prod.snd (Prod.snd x))))),
 Prod.fst (Prod.snd (Prod.fst (Prod.fst (LexF.edit F s (Prod.fst x, Prod.fst (Prod.snd x), Prod.snd (Prod.snd x)))))),
 Prod.snd (Prod.snd (Prod.fst (Prod.fst (LexF.edit F s (Prod.fst x, Prod.fst (Prod.snd x), Prod.snd (Prod.snd x))))))),
 Prod.fst (Prod.snd (Prod.fst (LexF.edit F s (Prod.fst x, Prod.fst (Prod.snd x), Prod.snd (Prod.snd x))))),
 Prod.snd (Prod.snd (Prod.fst (LexF.edit F s (Prod.fst x, Prod.fst (Prod.snd x), Prod.snd (Prod.snd x))))))))))))),
 0, ()) =
 (Prod.fst (LexF.both F s x y), Prod.snd (LexF.both F s x y), ())))))
 (VC.obl
 (Lv.le3 L (Lv.mn L (Prod.fst x) (Prod.fst y))
 (Lv.ar L BinOp.sub IntKind.i64
 (Lv.cast L
 (Lv.slen L
 (Prod.snd
 (Prod.snd
 (Prod.fst
 (LexF.edit F (Prod.snd (Prod.snd (Prod.fst (LexF.edit F s (Prod.fst x, Prod.fst (Prod.snd x), Prod.snd (Prod.snd x))))))
 (Prod.fst y, Prod.fst (Prod.snd y), Prod.snd (Prod.snd y))))))))
 (Lv.ar L BinOp.sub IntKind.i64 (Lv.cast L (Lv.slen L s)) (Prod.fst (Prod.snd x))))
 (Lv.slen L
 (Prod.snd
 (Prod.snd
 (Prod.fst
 (LexF.edit F (Prod.snd (Prod.snd (Prod.fst (LexF.edit F s (Prod.fst x, Prod.fst (Prod.snd x), Prod.snd (Prod.snd x))))))
 (Prod.fst y, Prod.fst (Prod.snd y), Prod.snd (Prod.snd y))))))))
 (VC.ok
 (((Lv.mn L (Prod.fst x) (Prod.fst y), Prod.fst (Prod.snd x),
 Lv.ext L
 (Prod.snd
 (Prod.snd
 (Prod.fst
 (LexF.edit F (Prod.snd (Prod.snd (Prod.fst (LexF.edit F s (Prod.fst x, Prod.fst (Prod.snd x), Prod.snd (Prod.snd x))))))
 (Prod.fst y, Prod.fst (Prod.snd y), Prod.snd (Prod.snd y))))))
 (Lv.toN L (Lv.mn L (Prod.fst x) (Prod.fst y)))
 (Lv.toN L
 (Lv.ar L BinOp.sub IntKind.i64
 (Lv.cast L
 (Lv.slen L
 (Prod.snd
 (Prod.snd
 (Prod.fst
 (LexF.edit F (Prod.snd (Prod.snd (Prod.fst (LexF.edit F s (Prod.fst x, Prod.fst (Prod.snd x), Prod.snd (Prod.snd x))))))
 (Prod.fst y, Prod.fst (Prod.snd y), Prod.snd (Prod.snd y))))))))
 (Lv.ar L BinOp.sub IntKind.i64 (Lv.cast L (Lv.slen L s)) (Prod.fst (Prod.snd x)))))),
 0, ()) =
 (Prod.fst (LexF.both F s x y), Prod.snd (LexF.both F s x y), ())))))))))
theorem n45_eq (L : Lv) (F : LexF) (s : ByteArray) (x y : Ed) : vcO L F [72, 76, 77] (D45 a0) (S45 F) (s, x, y, ()) = n45 L F s x y := by kernel_rfl
theorem n45_go (L : Lv) (F : LexF) (s : ByteArray) (x y : Ed) (h : VC.holds (n45 L F s x y)) : Holds (vcO L F [72, 76, 77] (D45 a0) (S45 F) (s, x, y, ())) := Holds.of_eq (n45_eq L F s x y) h
def n46 (L : Lv) (F : LexF) (s : ByteArray) (x y : Ed)  : VC :=
 VC.obl (LexF.pB F (Prod.snd (Prod.snd x)))
 (VC.br (Lv.cmp L BinOp.neq (Prod.snd (LexF.rApply F s (Prod.fst x, Prod.fst (Prod.snd x), Prod.snd (Prod.snd x)))) 0)
 (VC.ok
 (((0, 0, ByteArray.empty), Prod.snd (LexF.rApply F s (Prod.fst x, Prod.fst (Prod.snd x), Prod.snd (Prod.snd x))), ()) =
 (Prod.fst (LexF.rBoth F s x y), Prod.snd (LexF.rBoth F s x y), ())))
 (VC.obl (LexF.pB F (Prod.snd (Prod.snd y)))
 (VC.br
 (Lv.cmp L BinOp.neq
 (Prod.snd (LexF.rApply F (Prod.fst (LexF.rApply F s (Prod.fst x, Prod.fst (Prod.snd x), Prod.snd (Prod.snd x)))) (Prod.fst y, Prod.fst (Prod.snd y), Prod.snd (Prod.snd y)))) 0)
 (VC.ok
 (((0, 0, ByteArray.empty),
 Prod.snd (LexF.rApply F (Prod.fst (LexF.rApply F s (Prod.fst x, Prod.fst (Prod.snd x), Prod.snd (Prod.snd x)))) (Prod.fst y, Prod.fst (Prod.snd y), Prod.snd (Prod.snd y))), ()) =
 (Prod.fst (LexF.rBoth F s x y), Prod.snd (LexF.rBoth F s x y), ())))
 (VC.br (Lv.cmp L BinOp.geq (Prod.fst (Prod.snd y)) (Lv.ar L BinOp.add IntKind.i64 (Prod.fst x) (Lv.cast L (Lv.slen L (Prod.snd (Prod.snd x))))))
 (VC.obl
 (Lv.le3 L (Lv.mn L (Prod.fst x) (Prod.fst y))
 (Lv.ar L BinOp.sub IntKind.i64
 (Lv.cast L
 (Lv.slen L
 (Prod.fst (LexF.rApply F (Prod.fst (LexF.rApply F s (Prod.fst x, Prod.fst (Prod.snd x), Prod.snd (Prod.snd x)))) (Prod.fst y, Prod.fst (Prod.snd y), Prod.snd (Prod.snd y))))))
 (Lv.ar L BinOp.sub IntKind.i64 (Lv.cast L (Lv.slen L s))
 (Lv.mx L (Prod.fst (Prod.snd x))
 (Lv.ar L BinOp.sub IntKind.i64 (Lv.cast L (Lv.slen L s))
 (Lv.ar L BinOp.sub IntKind.i64 (Lv.cast L (Lv.slen L (Prod.fst (LexF.rApply F s (Prod.fst x, Prod.fst (Prod.snd x), Prod.snd (Prod.snd x)))))) (Prod.fst (Prod.snd y)))))))
 (Lv.slen L (Prod.fst (LexF.rApply F (Prod.fst (LexF.rApply F s (Prod.fst x, Prod.fst (Prod.snd x), Prod.snd (Prod.snd x)))) (Prod.fst y, Prod.fst (Prod.snd y), Prod.snd (Prod.snd y))))))
 (VC.ok
 (((Lv.mn L (Prod.fst x) (Prod.fst y),
 Lv.mx L (Prod.fst (Prod.snd x))
 (Lv.ar L BinOp.sub IntKind.i64 (Lv.cast L (Lv.slen L s))
 (Lv.ar L BinOp.sub IntKind.i64 (Lv.cast L (Lv.slen L (Prod.fst (LexF.rApply F s (Prod.fst x, Prod.fst (Prod.snd x), Prod.snd (Prod.snd x)))))) (Prod.fst (Prod.snd y)))),
 Lv.ext L
 (Prod.fst (LexF.rApply F (Prod.fst (LexF.rApply F s (Prod.fst x, Prod.fst (Prod.snd x), Prod.snd (Prod.snd x)))) (Prod.fst y, Prod.fst (Prod.snd y), Prod.snd (Prod.snd y))))
 (Lv.toN L (Lv.mn L (Prod.fst x) (Prod.fst y)))
 (Lv.toN L
 (Lv.ar L BinOp.sub IntKind.i64
 (Lv.cast L
 (Lv.slen L
 (Prod.fst
 (LexF.rApply F (Prod.fst (LexF.rApply F s (Prod.fst x, Prod.fst (Prod.snd x), Prod.snd (Prod.snd x)))) (Prod.fst y, Prod.fst (Prod.snd y), Prod.snd (Prod.snd y))))))
 (Lv.ar L BinOp.sub IntKind.i64 (Lv.cast L (Lv.slen L s))
 (Lv.mx L (Prod.fst (Prod.snd x))
 (Lv.ar L BinOp.sub IntKind.i64 (Lv.cast L (Lv.slen L s))
 (Lv.ar L BinOp.sub IntKind.i64 (Lv.cast L (Lv.slen L (Prod.fst (LexF.rApply F s (Prod.fst x, Prod.fst (Prod.snd x), Prod.snd (Prod.snd x))))))
 (Prod.fst (Prod.snd y))))))))),
 0, ()) =
 (Prod.fst (LexF.rBoth F s x y), Prod.snd (LexF.rBoth F s x y), ()))))
 (VC.obl
 (Lv.le3 L (Lv.mn L (Prod.fst x) (Prod.fst y))
 (Lv.ar L BinOp.sub IntKind.i64
 (Lv.cast L
 (Lv.slen L
 (Prod.fst (LexF.rApply F (Prod.fst (LexF.rApply F s (Prod.fst x, Prod.fst (Prod.snd x), Prod.snd (Prod.snd x)))) (Prod.fst y, Prod.fst (Prod.snd y), Prod.snd (Prod.snd y))))))
 (Lv.ar L BinOp.sub IntKind.i64 (Lv.cast L (Lv.slen L s)) (Prod.fst (Prod.snd x))))
 (Lv.slen L (Prod.fst (LexF.rApply F (Prod.fst (LexF.rApply F s (Prod.fst x, Prod.fst (Prod.snd x), Prod.snd (Prod.snd x)))) (Prod.fst y, Prod.fst (Prod.snd y), Prod.snd (Prod.snd y))))))
 (VC.ok
 (((Lv.mn L (Prod.fst x) (Prod.fst y), Prod.fst (Prod.snd x),
 Lv.ext L
 (Prod.fst (LexF.rApply F (Prod.fst (LexF.rApply F s (Prod.fst x, Prod.fst (Prod.snd x), Prod.snd (Prod.snd x)))) (Prod.fst y, Prod.fst (Prod.snd y), Prod.snd (Prod.snd y))))
 (Lv.toN L (Lv.mn L (Prod.fst x) (Prod.fst y)))
 (Lv.toN L
 (Lv.ar L BinOp.sub IntKind.i64
 (Lv.cast L
 (Lv.slen L
 (Prod.fst
 (LexF.rApply F (Prod.fst (LexF.rApply F s (Prod.fst x, Prod.fst (Prod.snd x), Prod.snd (Prod.snd x)))) (Prod.fst y, Prod.fst (Prod.snd y), Prod.snd (Prod.snd y))))))
 (Lv.ar L BinOp.sub IntKind.i64 (Lv.cast L (Lv.slen L s)) (Prod.fst (Prod.snd x)))))),
 0, ()) =
 (Prod.fst (LexF.rBoth F s x y), Prod.snd (LexF.rBoth F s x y), ()))))))))
theorem n46_eq (L : Lv) (F : LexF) (s : ByteArray) (x y : Ed) : vcO L F [43] (D46 a0) (S46 F) (s, x, y, ()) = n46 L F s x y := by kernel_rfl
theorem n46_go (L : Lv) (F : LexF) (s : ByteArray) (x y : Ed) (h : VC.holds (n46 L F s x y)) : Holds (vcO L F [43] (D46 a0) (S46 F) (s, x, y, ())) := Holds.of_eq (n46_eq L F s x y) h
def n12 (L : Lv) (F : LexF) (s : ByteArray) (x : Ed)  : VC :=
 VC.obl True
 (VC.br (LexF.short F s)
 (VC.obl True
 (VC.br (LexF.short F (Prod.snd (Prod.snd x)))
 (VC.obl (LexF.pB F (Prod.snd (Prod.snd x)))
 (VC.obl (LexF.pB F (Prod.snd (Prod.snd x)))
 (VC.obl (LexF.pB F (Prod.snd (Prod.snd x)))
 (VC.obl (LexF.pB F (Prod.snd (Prod.snd x)))
 (VC.br
 (Lv.scmp L BinOp.eql (Prod.fst (LexF.apply F s (Prod.fst x, Prod.fst (Prod.snd x), Prod.snd (Prod.snd x))))
 (Prod.fst (LexF.rApply F s (Prod.fst x, Prod.fst (Prod.snd x), Prod.snd (Prod.snd x)))))
 (VC.br
 (Lv.cmp L BinOp.eql (Prod.snd (LexF.apply F s (Prod.fst x, Prod.fst (Prod.snd x), Prod.snd (Prod.snd x))))
 (Prod.snd (LexF.rApply F s (Prod.fst x, Prod.fst (Prod.snd x), Prod.snd (Prod.snd x)))))
 (VC.br
 (Lv.band L
 (Lv.cmp L BinOp.eql (Prod.fst (Prod.fst (LexF.undo F s (Prod.fst x, Prod.fst (Prod.snd x), Prod.snd (Prod.snd x)))))
 (Prod.fst (Prod.fst (LexF.rUndo F s (Prod.fst x, Prod.fst (Prod.snd x), Prod.snd (Prod.snd x))))))
 (Lv.band L
 (Lv.cmp L BinOp.eql (Prod.fst (Prod.snd (Prod.fst (LexF.undo F s (Prod.fst x, Prod.fst (Prod.snd x), Prod.snd (Prod.snd x))))))
 (Prod.fst (Prod.snd (Prod.fst (LexF.rUndo F s (Prod.fst x, Prod.fst (Prod.snd x), Prod.snd (Prod.snd x)))))))
 (Lv.band L
 (Lv.scmp L BinOp.eql (Prod.snd (Prod.snd (Prod.fst (LexF.undo F s (Prod.fst x, Prod.fst (Prod.snd x), Prod.snd (Prod.snd x))))))
 (Prod.snd (Prod.snd (Prod.fst (LexF.rUndo F s (Prod.fst x, Prod.fst (Prod.snd x), Prod.snd (Prod.snd x)))))))
 true)))
 (VC.br
 (Lv.cmp L BinOp.eql (Prod.snd (LexF.undo F s (Prod.fst x, Prod.fst (Prod.snd x), Prod.snd (Prod.snd x))))
 (Prod.snd (LexF.rUndo F s (Prod.fst x, Prod.fst (Prod.snd x), Prod.snd (Prod.snd x)))))
 (VC.obl True (VC.br (LexF.awake F) (VC.ok ((true, ()) = (true, ()))) (VC.ok ((false, ()) = (true, ())))))
 (VC.ok ((false, ()) = (true, ()))))
 (VC.ok ((false, ()) = (true, ()))))
 (VC.ok ((false, ()) = (true, ()))))
 (VC.ok ((false, ()) = (true, ()))))))))
 (VC.obl True (VC.br (LexF.awake F) (VC.ok ((true, ()) = (true, ()))) (VC.ok ((false, ()) = (true, ())))))))
 (VC.obl True (VC.br (LexF.awake F) (VC.ok ((true, ()) = (true, ()))) (VC.ok ((false, ()) = (true, ()))))))
theorem n12_eq (L : Lv) (F : LexF) (s : ByteArray) (x : Ed) : vcO L F [21, 22, 39, 42, 43, 44] (D12 a0) lawE (s, x, ()) = n12 L F s x := by kernel_rfl
theorem n12_go (L : Lv) (F : LexF) (s : ByteArray) (x : Ed) (h : VC.holds (n12 L F s x)) : Holds (vcO L F [21, 22, 39, 42, 43, 44] (D12 a0) lawE (s, x, ())) := Holds.of_eq (n12_eq L F s x) h
def n13 (L : Lv) (F : LexF) (s : ByteArray) (x : Ed)  : VC :=
 VC.obl (LexF.pB F (Prod.snd (Prod.snd x)))
 (VC.br (Lv.cmp L BinOp.neq (Prod.snd (LexF.apply F s (Prod.fst x, Prod.fst (Prod.snd x), Prod.snd (Prod.snd x)))) 0)
 (VC.obl True (VC.br (LexF.awake F) (VC.ok ((true, ()) = (true, ()))) (VC.ok ((false, ()) = (true, ())))))
 (VC.obl True
 (VC.br (LexF.short F s)
 (VC.obl True
 (VC.br (LexF.short F (Prod.snd (Prod.snd x)))
 (VC.obl (LexF.pB F (Prod.snd (Prod.snd x)))
 (VC.obl (LexF.pB F (Prod.snd (Prod.snd (Prod.fst (LexF.undo F s (Prod.fst x, Prod.fst (Prod.snd x), Prod.snd (Prod.snd x)))))))
 (VC.obl (LexF.pB F (Prod.snd (Prod.snd (Prod.fst (LexF.undo F s (Prod.fst x, Prod.fst (Prod.snd x), Prod.snd (Prod.snd x)))))))
 (VC.br (Lv.cmp L BinOp.eql (Prod.snd (LexF.undo F s (Prod.fst x, Prod.fst (Prod.snd x), Prod.snd (Prod.snd x)))) 0)
 (VC.br
 (Lv.cmp L BinOp.eql
 (Prod.snd
 (LexF.apply F (Prod.fst (LexF.apply F s (Prod.fst x, Prod.fst (Prod.snd x), Prod.snd (Prod.snd x))))
 (Prod.fst (Prod.fst (LexF.undo F s (Prod.fst x, Prod.fst (Prod.snd x), Prod.snd (Prod.snd x)))),
 Prod.fst (Prod.snd (Prod.fst (LexF.undo F s (Prod.fst x, Prod.fst (Prod.snd x), Prod.snd (Prod.snd x))))),
 Prod.snd (Prod.snd (Prod.fst (LexF.undo F s (Prod.fst x, Prod.fst (Prod.snd x), Prod.snd (Prod.snd x))))))))
 0)
 (VC.br
 (Lv.cmp L BinOp.eql
 (Prod.snd
 (LexF.undo F (Prod.fst (LexF.apply F s (Prod.fst x, Prod.fst (Prod.snd x), Prod.snd (Prod.snd x))))
 (Prod.fst (Prod.fst (LexF.undo F s (Prod.fst x, Prod.fst (Prod.snd x), Prod.snd (Prod.snd x)))),
 Prod.fst (Prod.snd (Prod.fst (LexF.undo F s (Prod.fst x, Prod.fst (Prod.snd x), Prod.snd (Prod.snd x))))),
 Prod.snd (Prod.snd (Prod.fst (LexF.undo F s (Prod.fst x, Prod.fst (Prod.snd x), Prod.snd (Prod.snd x))))))))
 0)
 (VC.br
 (Lv.scmp L BinOp.eql
 (Prod.fst
 (LexF.apply F (Prod.fst (LexF.apply F s (Prod.fst x, Prod.fst (Prod.snd x), Prod.snd (Prod.snd x))))
 (Prod.fst (Prod.fst (LexF.undo F s (Prod.fst x, Prod.fst (Prod.snd x), Prod.snd (Prod.snd x)))),
 Prod.fst (Prod.snd (Prod.fst (LexF.undo F s (Prod.fst x, Prod.fst (Prod.snd x), Prod.snd (Prod.snd x))))),
 Prod.snd (Prod.snd (Prod.fst (LexF.undo F s (Prod.fst x, Prod.fst (Prod.snd x), Prod.snd (Prod.snd x))))))))
 s)
 (VC.br
 (Lv.band L
 (Lv.cmp L BinOp.eql
 (Prod.fst
 (Prod.fst
 (LexF.undo F (Prod.fst (LexF.apply F s (Prod.fst x, Prod.fst (Prod.snd x), Prod.snd (Prod.snd x))))
 (Prod.fst (Prod.fst (LexF.undo F s (Prod.fst x, Prod.fst (Prod.snd x), Prod.snd (Prod.snd x)))),
 Prod.fst (Prod.snd (Prod.fst (LexF.undo F s (Prod.fst x, Prod.fst (Prod.snd x), Prod.snd (Prod.snd x))))),
 Prod.snd (Prod.snd (Prod.fst (LexF.undo F s (Prod.fst x, Prod.fst (Prod.snd x), Prod.snd (Prod.snd x)))))))))
 (Prod.fst x))
 (Lv.band L
 (Lv.cmp L BinOp.eql
 (Prod.fst
 (Prod.snd
 (Prod.fst
 (LexF.undo F (Prod.fst (LexF.apply F s (Prod.fst x, Prod.fst (Prod.snd x), Prod.snd (Prod.snd x))))
 (Prod.fst (Prod.fst (LexF.undo F s (Prod.fst x, Prod.fst (Prod.snd x), Prod.snd (Prod.snd x)))),
 Prod.fst (Prod.snd (Prod.fst (LexF.undo F s (Prod.fst x, Prod.fst (Prod.snd x), Prod.snd (Prod.snd x))))),
 Prod.snd (Prod.snd (Prod.fst (LexF.undo F s (Prod.fst x, Prod.fst (Prod.snd x), Prod.snd (Prod.snd x))))))))))
 (Prod.fst (Prod.snd x)))
 (Lv.band L
 (Lv.scmp L BinOp.eql
 (Prod.snd
 (Prod.snd
 (Prod.fst
 (LexF.undo F (Prod.fst (LexF.apply F s (Prod.fst x, Prod.fst (Prod.snd x), Prod.snd (Prod.snd x))))
 (Prod.fst (Prod.fst (LexF.undo F s (Prod.fst x, Prod.fst (Prod.snd x), Prod.snd (Prod.snd x)))),
 Prod.fst (Prod.snd (Prod.fst (LexF.undo F s (Prod.fst x, Prod.fst (Prod.snd x), Prod.snd (Prod.snd x))))),
 Prod.snd (Prod.snd (Prod.fst (LexF.undo F s (Prod.fst x, Prod.fst (Prod.snd x), Prod.snd (Prod.snd x))))))))))
 (Prod.snd (Prod.snd x)))
 true)))
 (VC.obl True (VC.br (LexF.awake F) (VC.ok ((true, ()) = (true, ()))) (VC.ok ((false, ()) = (true, ())))))
 (VC.ok ((false, ()) = (true, ()))))
 (VC.ok ((false, ()) = (true, ()))))
 (VC.ok ((false, ()) = (true, ()))))
 (VC.ok ((false, ()) = (true, ()))))
 (VC.ok ((false, ()) = (true, ())))))))
 (VC.obl True (VC.br (LexF.awake F) (VC.ok ((true, ()) = (true, ()))) (VC.ok ((false, ()) = (true, ())))))))
 (VC.obl True (VC.br (LexF.awake F) (VC.ok ((true, ()) = (true, ()))) (VC.ok ((false, ()) = (true, ()))))))))
theorem n13_eq (L : Lv) (F : LexF) (s : ByteArray) (x : Ed) : vcO L F [21, 22, 39, 42] (D13 a0) (lawEp F) (s, x, ()) = n13 L F s x := by kernel_rfl
theorem n13_go (L : Lv) (F : LexF) (s : ByteArray) (x : Ed) (h : VC.holds (n13 L F s x)) : Holds (vcO L F [21, 22, 39, 42] (D13 a0) (lawEp F) (s, x, ())) := Holds.of_eq (n13_eq L F s x) h
def n14 (L : Lv) (F : LexF) (s : ByteArray) (x y : Ed)  : VC :=
 VC.obl True
 (VC.br (LexF.short F s)
 (VC.obl True
 (VC.br (LexF.short F (Prod.snd (Prod.snd x)))
 (VC.obl True
 (VC.br (LexF.short F (Prod.snd (Prod.snd y)))
 (VC.obl (LexF.pB F (Prod.snd (Prod.snd x)) ∧ LexF.pB F (Prod.snd (Prod.snd y)))
 (VC.obl (LexF.pB F (Prod.snd (Prod.snd x)) ∧ LexF.pB F (Prod.snd (Prod.snd y)))
 (VC.br
 (Lv.band L
 (Lv.cmp L BinOp.eql (Prod.fst (Prod.fst (LexF.both F s (Prod.fst x, Prod.fst (Prod.snd x), Prod.snd (Prod.snd x)) (Prod.fst y, Prod.fst (Prod.snd y), Prod.snd (Prod.snd y)))))
 (Prod.fst (Prod.fst (LexF.rBoth F s (Prod.fst x, Prod.fst (Prod.snd x), Prod.snd (Prod.snd x)) (Prod.fst y, Prod.fst (Prod.snd y), Prod.snd (Prod.snd y))))))
 (Lv.band L
 (Lv.cmp L BinOp.eql
 (Prod.fst (Prod.snd (Prod.fst (LexF.both F s (Prod.fst x, Prod.fst (Prod.snd x), Prod.snd (Prod.snd x)) (Prod.fst y, Prod.fst (Prod.snd y), Prod.snd (Prod.snd y))))))
 (Prod.fst (Prod.snd (Prod.fst (LexF.rBoth F s (Prod.fst x, Prod.fst (Prod.snd x), Prod.snd (Prod.snd x)) (Prod.fst y, Prod.fst (Prod.snd y), Prod.snd (Prod.snd y)))))))
 (Lv.band L
 (Lv.scmp L BinOp.eql
 (Prod.snd (Prod.snd (Prod.fst (LexF.both F s (Prod.fst x, Prod.fst (Prod.snd x), Prod.snd (Prod.snd x)) (Prod.fst y, Prod.fst (Prod.snd y), Prod.snd (Prod.snd y))))))
 (Prod.snd (Prod.snd (Prod.fst (LexF.rBoth F s (Prod.fst x, Prod.fst (Prod.snd x), Prod.snd (Prod.snd x)) (Prod.fst y, Prod.fst (Prod.snd y), Prod.snd (Prod.snd y)))))))
 true)))
 (VC.br
 (Lv.cmp L BinOp.eql (Prod.snd (LexF.both F s (Prod.fst x, Prod.fst (Prod.snd x), Prod.snd (Prod.snd x)) (Prod.fst y, Prod.fst (Prod.snd y), Prod.snd (Prod.snd y))))
 (Prod.snd (LexF.rBoth F s (Prod.fst x, Prod.fst (Prod.snd x), Prod.snd (Prod.snd x)) (Prod.fst y, Prod.fst (Prod.snd y), Prod.snd (Prod.snd y)))))
 (VC.obl True (VC.br (LexF.awake F) (VC.ok ((true, ()) = (true, ()))) (VC.ok ((false, ()) = (true, ())))))
 (VC.ok ((false, ()) = (true, ()))))
 (VC.ok ((false, ()) = (true, ()))))))
 (VC.obl True (VC.br (LexF.awake F) (VC.ok ((true, ()) = (true, ()))) (VC.ok ((false, ()) = (true, ())))))))
 (VC.obl True (VC.br (LexF.awake F) (VC.ok ((true, ()) = (true, ()))) (VC.ok ((false, ()) = (true, ())))))))
 (VC.obl True (VC.br (LexF.awake F) (VC.ok ((true, ()) = (true, ()))) (VC.ok ((false, ()) = (true, ()))))))
theorem n14_eq (L : Lv) (F : LexF) (s : ByteArray) (x y : Ed) : vcO L F [21, 22, 45, 46] (D14 a0) law2e (s, x, y, ()) = n14 L F s x y := by kernel_rfl
theorem n14_go (L : Lv) (F : LexF) (s : ByteArray) (x y : Ed) (h : VC.holds (n14 L F s x y)) : Holds (vcO L F [21, 22, 45, 46] (D14 a0) law2e (s, x, y, ())) := Holds.of_eq (n14_eq L F s x y) h
def n15 (L : Lv) (F : LexF) (s : ByteArray) (x y : Ed)  : VC :=
 VC.obl (LexF.pB F (Prod.snd (Prod.snd x)))
 (VC.obl (LexF.pB F (Prod.snd (Prod.snd y)))
 (VC.br (Lv.cmp L BinOp.neq (Prod.snd (LexF.apply F s (Prod.fst x, Prod.fst (Prod.snd x), Prod.snd (Prod.snd x)))) 0)
 (VC.obl True (VC.br (LexF.awake F) (VC.ok ((true, ()) = (true, ()))) (VC.ok ((false, ()) = (true, ())))))
 (VC.br
 (Lv.cmp L BinOp.neq (Prod.snd (LexF.apply F (Prod.fst (LexF.apply F s (Prod.fst x, Prod.fst (Prod.snd x), Prod.snd (Prod.snd x)))) (Prod.fst y, Prod.fst (Prod.snd y), Prod.snd (Prod.snd y))))
 0)
 (VC.obl True (VC.br (LexF.awake F) (VC.ok ((true, ()) = (true, ()))) (VC.ok ((false, ()) = (true, ())))))
 (VC.obl True
 (VC.br (LexF.short F s)
 (VC.obl True
 (VC.br (LexF.short F (Prod.snd (Prod.snd x)))
 (VC.obl True
 (VC.br (LexF.short F (Prod.snd (Prod.snd y)))
 (VC.obl (LexF.pB F (Prod.snd (Prod.snd x)) ∧ LexF.pB F (Prod.snd (Prod.snd y)))
 (VC.obl
 (LexF.pB F
 (Prod.snd (Prod.snd (Prod.fst (LexF.both F s (Prod.fst x, Prod.fst (Prod.snd x), Prod.snd (Prod.snd x)) (Prod.fst y, Prod.fst (Prod.snd y), Prod.snd (Prod.snd y)))))))
 (VC.br (Lv.cmp L BinOp.eql (Prod.snd (LexF.both F s (Prod.fst x, Prod.fst (Prod.snd x), Prod.snd (Prod.snd x)) (Prod.fst y, Prod.fst (Prod.snd y), Prod.snd (Prod.snd y)))) 0)
 (VC.br
 (Lv.cmp L BinOp.eql
 (Prod.snd
 (LexF.apply F s
 (Prod.fst (Prod.fst (LexF.both F s (Prod.fst x, Prod.fst (Prod.snd x), Prod.snd (Prod.snd x)) (Prod.fst y, Prod.fst (Prod.snd y), Prod.snd (Prod.snd y)))),
 Prod.fst
 (Prod.snd (Prod.fst (LexF.both F s (Prod.fst x, Prod.fst (Prod.snd x), Prod.snd (Prod.snd x)) (Prod.fst y, Prod.fst (Prod.snd y), Prod.snd (Prod.snd y))))),
 Prod.snd
 (Prod.snd (Prod.fst (LexF.both F s (Prod.fst x, Prod.fst (Prod.snd x), Prod.snd (Prod.snd x)) (Prod.fst y, Prod.fst (Prod.snd y), Prod.snd (Prod.snd y))))))))
 0)
 (VC.br
 (Lv.scmp L BinOp.eql
 (Prod.fst
 (LexF.apply F (Prod.fst (LexF.apply F s (Prod.fst x, Prod.fst (Prod.snd x), Prod.snd (Prod.snd x)))) (Prod.fst y, Prod.fst (Prod.snd y), Prod.snd (Prod.snd y))))
 (Prod.fst
 (LexF.apply F s
 (Prod.fst (Prod.fst (LexF.both F s (Prod.fst x, Prod.fst (Prod.snd x), Prod.snd (Prod.snd x)) (Prod.fst y, Prod.fst (Prod.snd y), Prod.snd (Prod.snd y)))),
 Prod.fst
 (Prod.snd (Prod.fst (LexF.both F s (Prod.fst x, Prod.fst (Prod.snd x), Prod.snd (Prod.snd x)) (Prod.fst y, Prod.fst (Prod.snd y), Prod.snd (Prod.snd y))))),
 Prod.snd
 (Prod.snd (Prod.fst (LexF.both F s (Prod.fst x, Prod.fst (Prod.snd x), Prod.snd (Prod.snd x)) (Prod.fst y, Prod.fst (Prod.snd y), Prod.snd (Prod.snd y)))))))))
 (VC.br
 (Lv.cmp L BinOp.leq
 (Prod.fst (Prod.fst (LexF.both F s (Prod.fst x, Prod.fst (Prod.snd x), Prod.snd (Prod.snd x)) (Prod.fst y, Prod.fst (Prod.snd y), Prod.snd (Prod.snd y)))))
 (Prod.fst x))
 (VC.br
 (Lv.cmp L BinOp.geq
 (Prod.fst
 (Prod.snd (Prod.fst (LexF.both F s (Prod.fst x, Prod.fst (Prod.snd x), Prod.snd (Prod.snd x)) (Prod.fst y, Prod.fst (Prod.snd y), Prod.snd (Prod.snd y))))))
 (Prod.fst (Prod.snd x)))
 (VC.obl True (VC.br (LexF.awake F) (VC.ok ((true, ()) = (true, ()))) (VC.ok ((false, ()) = (true, ())))))
 (VC.ok ((false, ()) = (true, ()))))
 (VC.ok ((false, ()) = (true, ()))))
 (VC.ok ((false, ()) = (true, ()))))
 (VC.ok ((false, ()) = (true, ()))))
 (VC.ok ((false, ()) = (true, ()))))))
 (VC.obl True (VC.br (LexF.awake F) (VC.ok ((true, ()) = (true, ()))) (VC.ok ((false, ()) = (true, ())))))))
 (VC.obl True (VC.br (LexF.awake F) (VC.ok ((true, ()) = (true, ()))) (VC.ok ((false, ()) = (true, ())))))))
 (VC.obl True (VC.br (LexF.awake F) (VC.ok ((true, ()) = (true, ()))) (VC.ok ((false, ()) = (true, ()))))))))))
theorem n15_eq (L : Lv) (F : LexF) (s : ByteArray) (x y : Ed) : vcO L F [21, 22, 39, 45] (D15 a0) (law2ep F) (s, x, y, ()) = n15 L F s x y := by kernel_rfl
theorem n15_go (L : Lv) (F : LexF) (s : ByteArray) (x y : Ed) (h : VC.holds (n15 L F s x y)) : Holds (vcO L F [21, 22, 39, 45] (D15 a0) (law2ep F) (s, x, y, ())) := Holds.of_eq (n15_eq L F s x y) h

/-! ### edits -/
theorem edit_e1 {s : ByteArray} {x : Ed} (h : (chk s).2 ≠ 0) : editF s x = (noD, (chk s).2) := by unfold editF; rw [if_pos h]
theorem edit_e2 {s : ByteArray} {x : Ed} (h : (chk s).2 = 0) (h2 : isEditF s x = false) : editF s x = (noD, 3) := by unfold editF; rw [if_neg (fun e => e h), if_pos h2]
theorem edit_e3 {s : ByteArray} {x : Ed} (h : (chk s).2 = 0) (h2 : isEditF s x = true) (h3 : (chk (nowF s x)).2 ≠ 0) : editF s x = (noD, (chk (nowF s x)).2) := by unfold editF; rw [if_neg (fun e => e h), if_neg (by rw [h2]; simp), if_pos h3]
theorem edit_ok {s : ByteArray} {x : Ed} (h : (chk s).2 = 0) (h2 : isEditF s x = true) (h3 : (chk (nowF s x)).2 = 0) : editF s x = ((x, s, nowF s x), 0) := by unfold editF; rw [if_neg (fun e => e h), if_neg (by rw [h2]; simp), if_neg (fun e => e h3)]
theorem isEdit_iff (s : ByteArray) (x : Ed) : isEditF s x = true ↔ 0 ≤ x.1 ∧ x.1 ≤ x.2.1 ∧ x.2.1 ≤ s.size := by
  unfold isEditF
  simp only [Bool.and_eq_true, decide_eq_true_eq, and_assoc]
theorem edit_zero {s : ByteArray} {x : Ed} (h : (editF s x).2 = 0) : (chk s).2 = 0 ∧ (0 ≤ x.1 ∧ x.1 ≤ x.2.1 ∧ x.2.1 ≤ s.size) ∧ (chk (nowF s x)).2 = 0 ∧ editF s x = ((x, s, nowF s x), 0) := by
  by_cases h1 : (chk s).2 = 0
  · cases h2 : isEditF s x with
    | false => rw [edit_e2 h1 h2] at h; simp at h
    | true =>
      by_cases h3 : (chk (nowF s x)).2 = 0
      · exact ⟨h1, (isEdit_iff s x).1 h2, h3, edit_ok h1 h2 h3⟩
      · rw [edit_e3 h1 h2 h3] at h; exact absurd h h3
  · rw [edit_e1 h1] at h; exact absurd h h1
theorem now_size (s : ByteArray) (x : Ed) (h0 : 0 ≤ x.1) (h1 : x.1 ≤ x.2.1) (h2 : x.2.1 ≤ s.size) : ((nowF s x).size : Int) = x.1 + x.2.2.size + (s.size - x.2.1) := by
  unfold nowF
  rw [app_size, app_size, ext_size, ext_size]
  omega
theorem ok76 (F : LexF) (h : F.dEnd = endF) : SpecOk prog 76 (S76 F) := by
  refine contract_by hm hE D76 fnok76 _ fun (z : Dd × Unit) hpre => ?_
  obtain ⟨d, ⟨⟩⟩ := z
  refine pack _ 0 a0 (only_ok (F := F) (l := []) (fun _ h => by cases h)) ?_
  refine n76_go Lv.std F d ?_
  simp only [n76, VC.holds, std_cmp, std_scmp, std_ar_add, std_ar_sub, std_ar_mul, std_ar, std_dv, std_shf, std_conv, std_mn, std_mx, std_beq, std_bnot, std_band, std_scat, std_byte, std_ext, std_slen, std_strOf, std_bytes, std_llen, std_get, std_setl, std_app, std_take, std_drop, std_rep, std_mhas, std_mval, std_mput, std_cast, std_toN, std_sub, std_add, std_inR, std_le3, std_leN, std_ltN, std_ne0, std_nonneg, std_catOk, std_room, std_mkOk, cmp_lss_t, cmp_lss_f, cmp_leq_t, cmp_leq_f, cmp_gtr_t, cmp_gtr_f, cmp_geq_t, cmp_geq_f, cmp_eql_t, cmp_eql_f, cmp_neq_t, cmp_neq_f, scmp_eql_t, scmp_eql_f, scmp_neq_t, scmp_neq_f, dflt_int, dflt_bool, dflt_str, dflt_sl, dflt_pair, h, Prod.mk.injEq, and_true, true_and]
  rfl
theorem ok77 (F : LexF) (h : F.dMore = moreF) : SpecOk prog 77 (S77 F) := by
  refine contract_by hm hE D77 fnok77 _ fun (z : Dd × Unit) hpre => ?_
  obtain ⟨d, ⟨⟩⟩ := z
  refine pack _ 0 a0 (only_ok (F := F) (l := []) (fun _ h => by cases h)) ?_
  refine n77_go Lv.std F d ?_
  simp only [n77, VC.holds, std_cmp, std_scmp, std_ar_add, std_ar_sub, std_ar_mul, std_ar, std_dv, std_shf, std_conv, std_mn, std_mx, std_beq, std_bnot, std_band, std_scat, std_byte, std_ext, std_slen, std_strOf, std_bytes, std_llen, std_get, std_setl, std_app, std_take, std_drop, std_rep, std_mhas, std_mval, std_mput, std_cast, std_toN, std_sub, std_add, std_inR, std_le3, std_leN, std_ltN, std_ne0, std_nonneg, std_catOk, std_room, std_mkOk, cmp_lss_t, cmp_lss_f, cmp_leq_t, cmp_leq_f, cmp_gtr_t, cmp_gtr_f, cmp_geq_t, cmp_geq_f, cmp_eql_t, cmp_eql_f, cmp_neq_t, cmp_neq_f, scmp_eql_t, scmp_eql_f, scmp_neq_t, scmp_neq_f, dflt_int, dflt_bool, dflt_str, dflt_sl, dflt_pair, h, Prod.mk.injEq, and_true, true_and]
  rfl
theorem ok72 (F : LexF) (hs : F.pB = fun s => s.size ≤ 281474976710656) (h : F.edit = editF) (hc : F.chk = chk) (k1 : SpecOk prog 56 (S56 F)) : SpecOk prog 72 (S72 F) := by
  refine contract_by hm hE D72 fnok72 _ fun (z : ByteArray × Ed × Unit) hpre => ?_
  obtain ⟨s, x, ⟨⟩⟩ := z
  have hpre' : F.pB x.2.2 := hpre
  rw [hs] at hpre'
  refine pack _ 0 a0 (only_ok (F := F) (l := [56]) (by simp only [List.mem_singleton, forall_eq]; exact at_ok k1 (by kernel_rfl))) ?_
  refine n72_go Lv.std F s x ?_
  have hnow : s.extract (0 : Int).toNat x.1.toNat ++ x.2.2 ++ s.extract x.2.1.toNat s.size = nowF s x := rfl
  simp only [n72, VC.holds, std_cmp, std_scmp, std_ar_add, std_ar_sub, std_ar_mul, std_ar, std_dv, std_shf, std_conv, std_mn, std_mx, std_beq, std_bnot, std_band, std_scat, std_byte, std_ext, std_slen, std_strOf, std_bytes, std_llen, std_get, std_setl, std_app, std_take, std_drop, std_rep, std_mhas, std_mval, std_mput, std_cast, std_toN, std_sub, std_add, std_inR, std_le3, std_leN, std_ltN, std_ne0, std_nonneg, std_catOk, std_room, std_mkOk, cmp_lss_t, cmp_lss_f, cmp_leq_t, cmp_leq_f, cmp_gtr_t, cmp_gtr_f, cmp_geq_t, cmp_geq_f, cmp_eql_t, cmp_eql_f, cmp_neq_t, cmp_neq_f, scmp_eql_t, scmp_eql_f, scmp_neq_t, scmp_neq_f, dflt_int, dflt_bool, dflt_str, dflt_sl, dflt_pair, h, hc, nc0, Int.toNat_natCast, hnow, Prod.mk.injEq, and_true, true_and]
  refine ⟨fun e1 => ?_, fun e1 => ⟨fun e2 => ?_, fun e2 => ⟨fun e3 => ?_, fun e3 => ⟨fun e4 => ?_, fun e4 => ?_⟩⟩⟩⟩
  · rw [edit_e1 e1]; exact ⟨rfl, rfl⟩
  · rw [edit_e2 e1 (by cases hh : isEditF s x with | false => rfl | true => have := (isEdit_iff s x).1 hh; omega)]; exact ⟨rfl, rfl⟩
  · rw [edit_e2 e1 (by cases hh : isEditF s x with | false => rfl | true => have := (isEdit_iff s x).1 hh; omega)]; exact ⟨rfl, rfl⟩
  · rw [edit_e2 e1 (by cases hh : isEditF s x with | false => rfl | true => have := (isEdit_iff s x).1 hh; omega)]; exact ⟨rfl, rfl⟩
  have hed := (isEdit_iff s x).2 ⟨e2, e3, e4⟩
  have z1 := chk_small e1
  have y1 := ext_size s (0 : Int).toNat x.1.toNat
  have y2 := ext_size s x.2.1.toNat s.size
  refine ⟨⟨Int.le_refl 0, e2, by omega⟩, by omega, ⟨by omega, e4, Int.le_refl _⟩, by rw [app_size]; omega, fun e5 => ?_, fun e5 => ?_⟩
  · rw [edit_e3 e1 hed e5]; exact ⟨rfl, rfl⟩
  · rw [edit_ok e1 hed e5]; exact ⟨rfl, rfl⟩
theorem ok39 (F : LexF) (h : F.apply = applyF) (he : F.edit = editF) (k1 : SpecOk prog 72 (S72 F)) : SpecOk prog 39 (S39 F) := by
  refine contract_by hm hE D39 fnok39 _ fun (z : ByteArray × Ed × Unit) hpre => ?_
  obtain ⟨s, x, ⟨⟩⟩ := z
  have hpre' : F.pB x.2.2 := hpre
  refine pack _ 0 a0 (only_ok (F := F) (l := [72]) (by simp only [List.mem_singleton, forall_eq]; exact at_ok k1 (by kernel_rfl))) ?_
  refine n39_go Lv.std F s x ?_
  simp only [n39, VC.holds, std_cmp, std_scmp, std_ar_add, std_ar_sub, std_ar_mul, std_ar, std_dv, std_shf, std_conv, std_mn, std_mx, std_beq, std_bnot, std_band, std_scat, std_byte, std_ext, std_slen, std_strOf, std_bytes, std_llen, std_get, std_setl, std_app, std_take, std_drop, std_rep, std_mhas, std_mval, std_mput, std_cast, std_toN, std_sub, std_add, std_inR, std_le3, std_leN, std_ltN, std_ne0, std_nonneg, std_catOk, std_room, std_mkOk, cmp_lss_t, cmp_lss_f, cmp_leq_t, cmp_leq_f, cmp_gtr_t, cmp_gtr_f, cmp_geq_t, cmp_geq_f, cmp_eql_t, cmp_eql_f, cmp_neq_t, cmp_neq_f, scmp_eql_t, scmp_eql_f, scmp_neq_t, scmp_neq_f, dflt_int, dflt_bool, dflt_str, dflt_sl, dflt_pair, h, he, Prod.mk.injEq, and_true, true_and]
  exact ⟨hpre', rfl, rfl⟩
theorem endF_ok {s : ByteArray} {x : Ed} (h : (editF s x).2 = 0) : endF (x, s, nowF s x) = x.1 + x.2.2.size := by
  obtain ⟨h1, ⟨h2, h3, h4⟩, h5, h6⟩ := edit_zero h
  have z1 := chk_small h1
  have z2 := chk_small h5
  have := now_size s x h2 h3 h4
  exact wrap_i64 (by simp only; omega) (by simp only; omega)
theorem moreF_ok {s : ByteArray} {x : Ed} (h : (editF s x).2 = 0) : moreF (x, s, nowF s x) = ((nowF s x).size : Int) - s.size := by
  obtain ⟨h1, ⟨h2, h3, h4⟩, h5, h6⟩ := edit_zero h
  have z1 := chk_small h1
  have z2 := chk_small h5
  exact wrap_i64 (by simp only; omega) (by simp only; omega)
theorem ok42 (F : LexF) (h : F.undo = undoF) (he : F.edit = editF) (hd : F.dEnd = endF) (k1 : SpecOk prog 72 (S72 F)) (k2 : SpecOk prog 76 (S76 F)) : SpecOk prog 42 (S42 F) := by
  refine contract_by hm hE D42 fnok42 _ fun (z : ByteArray × Ed × Unit) hpre => ?_
  obtain ⟨s, x, ⟨⟩⟩ := z
  have hpre' : F.pB x.2.2 := hpre
  refine pack _ 0 a0 (only_ok (F := F) (l := [72, 76]) (by simp only [List.forall_mem_cons]; exact ⟨at_ok k1 (by kernel_rfl), at_ok k2 (by kernel_rfl), fun _ h => by cases h⟩)) ?_
  refine n42_go Lv.std F s x ?_
  simp only [n42, VC.holds, std_cmp, std_scmp, std_ar_add, std_ar_sub, std_ar_mul, std_ar, std_dv, std_shf, std_conv, std_mn, std_mx, std_beq, std_bnot, std_band, std_scat, std_byte, std_ext, std_slen, std_strOf, std_bytes, std_llen, std_get, std_setl, std_app, std_take, std_drop, std_rep, std_mhas, std_mval, std_mput, std_cast, std_toN, std_sub, std_add, std_inR, std_le3, std_leN, std_ltN, std_ne0, std_nonneg, std_catOk, std_room, std_mkOk, cmp_lss_t, cmp_lss_f, cmp_leq_t, cmp_leq_f, cmp_gtr_t, cmp_gtr_f, cmp_geq_t, cmp_geq_f, cmp_eql_t, cmp_eql_f, cmp_neq_t, cmp_neq_f, scmp_eql_t, scmp_eql_f, scmp_neq_t, scmp_neq_f, dflt_int, dflt_bool, dflt_str, dflt_sl, dflt_pair, h, he, hd, Prod.mk.injEq, and_true, true_and]
  refine ⟨hpre', fun e => ?_, fun e => ?_⟩
  · have e' : (editF s x).2 ≠ 0 := e
    unfold undoF; rw [if_pos e']; exact ⟨rfl, rfl⟩
  · have e' : (editF s x).2 = 0 := e
    obtain ⟨h1, ⟨h2, h3, h4⟩, h5, h6⟩ := edit_zero e'
    have hE : editF s (x.1, x.2.1, x.2.2) = ((x, s, nowF s x), 0) := h6
    rw [hE]
    refine ⟨⟨h2, h3, h4⟩, ?_⟩
    unfold undoF; rw [if_neg (fun hh => hh e')]
    exact ⟨by rw [← endF_ok e'], rfl⟩
theorem apply_e1 {s : ByteArray} {x : Ed} (h : (chk s).2 ≠ 0) : applyF s x = (ByteArray.empty, (chk s).2) := by unfold applyF; rw [edit_e1 h]; rfl
theorem apply_e2 {s : ByteArray} {x : Ed} (h : (chk s).2 = 0) (h2 : isEditF s x = false) : applyF s x = (ByteArray.empty, 3) := by unfold applyF; rw [edit_e2 h h2]; rfl
theorem apply_e3 {s : ByteArray} {x : Ed} (h : (chk s).2 = 0) (h2 : isEditF s x = true) (h3 : (chk (nowF s x)).2 ≠ 0) : applyF s x = (ByteArray.empty, (chk (nowF s x)).2) := by unfold applyF; rw [edit_e3 h h2 h3]; rfl
theorem apply_ok {s : ByteArray} {x : Ed} (h : (chk s).2 = 0) (h2 : isEditF s x = true) (h3 : (chk (nowF s x)).2 = 0) : applyF s x = (nowF s x, 0) := by unfold applyF; rw [edit_ok h h2 h3]
theorem ok43 (F : LexF) (hs : F.pB = fun s => s.size ≤ 281474976710656) (h : F.rApply = applyF) (he : F.rIsEdit = isEditF) (hc : F.chk = chk) (k1 : SpecOk prog 59 (S59 F)) (k2 : SpecOk prog 71 (S71 F)) : SpecOk prog 43 (S43 F) := by
  refine contract_by hm hE D43 fnok43 _ fun (z : ByteArray × Ed × Unit) hpre => ?_
  obtain ⟨s, ⟨a, b, t⟩, ⟨⟩⟩ := z
  have hpre' : F.pB t := hpre
  rw [hs] at hpre'
  have hpre'' : t.size ≤ 281474976710656 := hpre'
  refine pack _ 0 a0 (only_ok (F := F) (l := [59, 71]) (by simp only [List.forall_mem_cons]; exact ⟨at_ok k1 (by kernel_rfl), at_ok k2 (by kernel_rfl), fun _ h => by cases h⟩)) ?_
  refine n43_go Lv.std F s (a, b, t) ?_
  have hnow : s.extract (0 : Int).toNat a.toNat ++ t ++ s.extract b.toNat s.size = nowF s (a, b, t) := rfl
  simp only [n43, VC.holds, std_cmp, std_scmp, std_ar_add, std_ar_sub, std_ar_mul, std_ar, std_dv, std_shf, std_conv, std_mn, std_mx, std_beq, std_bnot, std_band, std_scat, std_byte, std_ext, std_slen, std_strOf, std_bytes, std_llen, std_get, std_setl, std_app, std_take, std_drop, std_rep, std_mhas, std_mval, std_mput, std_cast, std_toN, std_sub, std_add, std_inR, std_le3, std_leN, std_ltN, std_ne0, std_nonneg, std_catOk, std_room, std_mkOk, cmp_lss_t, cmp_lss_f, cmp_leq_t, cmp_leq_f, cmp_gtr_t, cmp_gtr_f, cmp_geq_t, cmp_geq_f, cmp_eql_t, cmp_eql_f, cmp_neq_t, cmp_neq_f, scmp_eql_t, scmp_eql_f, scmp_neq_t, scmp_neq_f, dflt_int, dflt_bool, dflt_str, dflt_sl, dflt_pair, h, he, hc, nc0, Int.toNat_natCast, hnow, Prod.mk.injEq, and_true, true_and]
  refine ⟨fun e1 => ?_, fun e1 => ⟨fun e2 => ?_, fun e2 => ?_⟩⟩
  · rw [apply_e1 e1]; exact ⟨rfl, rfl⟩
  · obtain ⟨y1, y2, y3⟩ := (isEdit_iff s (a, b, t)).1 e2
    simp only at y1 y2 y3
    have z1 := chk_small e1
    have w1 := ext_size s (0 : Int).toNat a.toNat
    have w2 := ext_size s b.toNat s.size
    refine ⟨⟨Int.le_refl 0, y1, by omega⟩, by omega, ⟨by omega, y3, Int.le_refl _⟩, by rw [app_size]; omega, fun e5 => ?_, fun e5 => ?_⟩
    · rw [apply_e3 e1 e2 e5]; exact ⟨rfl, rfl⟩
    · rw [apply_ok e1 e2 e5]; exact ⟨rfl, rfl⟩
  · rw [apply_e2 e1 (by simpa using e2)]; exact ⟨rfl, rfl⟩
theorem ok44 (F : LexF) (h : F.rUndo = undoF) (he : F.rApply = applyF) (k1 : SpecOk prog 43 (S43 F)) : SpecOk prog 44 (S44 F) := by
  refine contract_by hm hE D44 fnok44 _ fun (z : ByteArray × Ed × Unit) hpre => ?_
  obtain ⟨s, ⟨a, b, t⟩, ⟨⟩⟩ := z
  have hpre' : F.pB t := hpre
  refine pack _ 0 a0 (only_ok (F := F) (l := [43]) (by simp only [List.mem_singleton, forall_eq]; exact at_ok k1 (by kernel_rfl))) ?_
  refine n44_go Lv.std F s (a, b, t) ?_
  simp only [n44, VC.holds, std_cmp, std_scmp, std_ar_add, std_ar_sub, std_ar_mul, std_ar, std_dv, std_shf, std_conv, std_mn, std_mx, std_beq, std_bnot, std_band, std_scat, std_byte, std_ext, std_slen, std_strOf, std_bytes, std_llen, std_get, std_setl, std_app, std_take, std_drop, std_rep, std_mhas, std_mval, std_mput, std_cast, std_toN, std_sub, std_add, std_inR, std_le3, std_leN, std_ltN, std_ne0, std_nonneg, std_catOk, std_room, std_mkOk, cmp_lss_t, cmp_lss_f, cmp_leq_t, cmp_leq_f, cmp_gtr_t, cmp_gtr_f, cmp_geq_t, cmp_geq_f, cmp_eql_t, cmp_eql_f, cmp_neq_t, cmp_neq_f, scmp_eql_t, scmp_eql_f, scmp_neq_t, scmp_neq_f, dflt_int, dflt_bool, dflt_str, dflt_sl, dflt_pair, h, he, Prod.mk.injEq, and_true, true_and]
  refine ⟨hpre', fun e => ?_, fun e => ?_⟩
  · have e' : (editF s (a, b, t)).2 ≠ 0 := e
    unfold undoF; rw [if_pos e']; exact ⟨rfl, rfl⟩
  · have e' : (editF s (a, b, t)).2 = 0 := e
    obtain ⟨h1, ⟨h2, h3, h4⟩, h5, h6⟩ := edit_zero e'
    have z1 := chk_small h1
    have z2 := chk_small h5
    have z3 := now_size s (a, b, t) h2 h3 h4
    simp only at h2 h3 h4 z3
    refine ⟨⟨h2, h3, h4⟩, ?_⟩
    unfold undoF; rw [if_neg (fun hh => hh e')]
    exact ⟨by rw [wrap_i64 (by omega) (by omega)], rfl⟩
/-! ### two edits in one -/
theorem both_e1 {s : ByteArray} {x y : Ed} (h : (editF s x).2 ≠ 0) : bothF s x y = (noEd, (editF s x).2) := by unfold bothF; rw [if_pos h]
theorem both_e2 {s : ByteArray} {x y : Ed} (h : (editF s x).2 = 0) (h2 : (editF (nowF s x) y).2 ≠ 0) : bothF s x y = (noEd, (editF (nowF s x) y).2) := by unfold bothF; rw [if_neg (fun e => e h), if_pos h2]
theorem both_ok {s : ByteArray} {x y : Ed} (h : (editF s x).2 = 0) (h2 : (editF (nowF s x) y).2 = 0) : bothF s x y = ((min x.1 y.1, bothTo s x y, (nowF (nowF s x) y).extract (min x.1 y.1).toNat (((nowF (nowF s x) y).size : Int) - (s.size - bothTo s x y)).toNat), 0) := by
  unfold bothF; rw [if_neg (fun e => e h), if_neg (fun e => e h2)]
theorem ok45 (F : LexF) (h : F.both = bothF) (he : F.edit = editF) (hd : F.dEnd = endF) (hmr : F.dMore = moreF) (k1 : SpecOk prog 72 (S72 F)) (k2 : SpecOk prog 76 (S76 F)) (k3 : SpecOk prog 77 (S77 F)) : SpecOk prog 45 (S45 F) := by
  refine contract_by hm hE D45 fnok45 _ fun (z : ByteArray × Ed × Ed × Unit) hpre => ?_
  obtain ⟨s, ⟨a, b, t⟩, ⟨c, d, v⟩, ⟨⟩⟩ := z
  obtain ⟨p1, p2⟩ : F.pB t ∧ F.pB v := hpre
  refine pack _ 0 a0 (only_ok (F := F) (l := [72, 76, 77]) (by simp only [List.forall_mem_cons]; exact ⟨at_ok k1 (by kernel_rfl), at_ok k2 (by kernel_rfl), at_ok k3 (by kernel_rfl), fun _ h => by cases h⟩)) ?_
  refine n45_go Lv.std F s (a, b, t) (c, d, v) ?_
  simp only [n45, VC.holds, std_cmp, std_scmp, std_ar_add, std_ar_sub, std_ar_mul, std_ar, std_dv, std_shf, std_conv, std_mn, std_mx, std_beq, std_bnot, std_band, std_scat, std_byte, std_ext, std_slen, std_strOf, std_bytes, std_llen, std_get, std_setl, std_app, std_take, std_drop, std_rep, std_mhas, std_mval, std_mput, std_cast, std_toN, std_sub, std_add, std_inR, std_le3, std_leN, std_ltN, std_ne0, std_nonneg, std_catOk, std_room, std_mkOk, cmp_lss_t, cmp_lss_f, cmp_leq_t, cmp_leq_f, cmp_gtr_t, cmp_gtr_f, cmp_geq_t, cmp_geq_f, cmp_eql_t, cmp_eql_f, cmp_neq_t, cmp_neq_f, scmp_eql_t, scmp_eql_f, scmp_neq_t, scmp_neq_f, dflt_int, dflt_bool, dflt_str, dflt_sl, dflt_pair, h, he, hd, hmr, Prod.mk.injEq, and_true, true_and]
  refine ⟨p1, fun e1 => ?_, fun e1 => ⟨p2, ?_⟩⟩
  · rw [both_e1 e1]; exact ⟨rfl, rfl⟩
  have e1' : (editF s (a, b, t)).2 = 0 := e1
  have en := endF_ok e1'
  have mo := moreF_ok e1'
  obtain ⟨h1, ⟨h2, h3, h4⟩, h5, h6⟩ := edit_zero e1'
  have z1 := chk_small h1
  have z2 := chk_small h5
  have z3 := now_size s (a, b, t) h2 h3 h4
  generalize hu : nowF s (a, b, t) = u at en mo h5 h6 z2 z3
  simp only [h6]
  refine ⟨fun e2 => ?_, fun e2 => ?_⟩
  · have e2' : (editF (nowF s (a, b, t)) (c, d, v)).2 ≠ 0 := by rw [hu]; exact e2
    rw [both_e2 e1' e2', hu]; exact ⟨rfl, rfl⟩
  have e2' : (editF (nowF s (a, b, t)) (c, d, v)).2 = 0 := by rw [hu]; exact e2
  rw [both_ok e1' e2']
  unfold bothTo
  obtain ⟨i1, ⟨i2, i3, i4⟩, i5, i6⟩ := edit_zero (show (editF u (c, d, v)).2 = 0 from e2)
  have z4 := chk_small i5
  have z5 := now_size u (c, d, v) i2 i3 i4
  generalize hw : nowF u (c, d, v) = w at i5 i6 z4 z5
  simp only [i6, en, mo, hu, hw] at *
  refine ⟨fun e3 => ?_, fun e3 => ?_⟩
  · rw [if_pos e3]
    have w1 : IntKind.i64.wrap (d - ((u.size : Int) - s.size)) = d - ((u.size : Int) - s.size) := wrap_i64 (by omega) (by omega)
    have w2 : IntKind.i64.wrap ((s.size : Int) - max b (d - ((u.size : Int) - s.size))) = (s.size : Int) - max b (d - ((u.size : Int) - s.size)) := wrap_i64 (by omega) (by omega)
    have w3 : IntKind.i64.wrap ((w.size : Int) - ((s.size : Int) - max b (d - ((u.size : Int) - s.size)))) = (w.size : Int) - ((s.size : Int) - max b (d - ((u.size : Int) - s.size))) := wrap_i64 (by omega) (by omega)
    rw [w1, w2, w3]
    exact ⟨⟨by omega, by omega, by omega⟩, rfl, trivial⟩
  · rw [if_neg (by omega)]
    have w2 : IntKind.i64.wrap ((s.size : Int) - b) = (s.size : Int) - b := wrap_i64 (by omega) (by omega)
    have w3 : IntKind.i64.wrap ((w.size : Int) - ((s.size : Int) - b)) = (w.size : Int) - ((s.size : Int) - b) := wrap_i64 (by omega) (by omega)
    rw [w2, w3]
    exact ⟨⟨by omega, by omega, by omega⟩, rfl, trivial⟩
theorem ok46 (F : LexF) (h : F.rBoth = bothF) (he : F.rApply = applyF) (k1 : SpecOk prog 43 (S43 F)) : SpecOk prog 46 (S46 F) := by
  refine contract_by hm hE D46 fnok46 _ fun (z : ByteArray × Ed × Ed × Unit) hpre => ?_
  obtain ⟨s, ⟨a, b, t⟩, ⟨c, d, v⟩, ⟨⟩⟩ := z
  obtain ⟨p1, p2⟩ : F.pB t ∧ F.pB v := hpre
  refine pack _ 0 a0 (only_ok (F := F) (l := [43]) (by simp only [List.mem_singleton, forall_eq]; exact at_ok k1 (by kernel_rfl))) ?_
  refine n46_go Lv.std F s (a, b, t) (c, d, v) ?_
  simp only [n46, VC.holds, std_cmp, std_scmp, std_ar_add, std_ar_sub, std_ar_mul, std_ar, std_dv, std_shf, std_conv, std_mn, std_mx, std_beq, std_bnot, std_band, std_scat, std_byte, std_ext, std_slen, std_strOf, std_bytes, std_llen, std_get, std_setl, std_app, std_take, std_drop, std_rep, std_mhas, std_mval, std_mput, std_cast, std_toN, std_sub, std_add, std_inR, std_le3, std_leN, std_ltN, std_ne0, std_nonneg, std_catOk, std_room, std_mkOk, cmp_lss_t, cmp_lss_f, cmp_leq_t, cmp_leq_f, cmp_gtr_t, cmp_gtr_f, cmp_geq_t, cmp_geq_f, cmp_eql_t, cmp_eql_f, cmp_neq_t, cmp_neq_f, scmp_eql_t, scmp_eql_f, scmp_neq_t, scmp_neq_f, dflt_int, dflt_bool, dflt_str, dflt_sl, dflt_pair, h, he, Prod.mk.injEq, and_true, true_and]
  have hap : ∀ q z, applyF q z = ((editF q z).1.2.2, (editF q z).2) := fun _ _ => rfl
  simp only [hap]
  refine ⟨p1, fun e1 => ?_, fun e1 => ⟨p2, ?_⟩⟩
  · rw [both_e1 e1]; exact ⟨rfl, rfl⟩
  have e1' : (editF s (a, b, t)).2 = 0 := e1
  obtain ⟨h1, ⟨h2, h3, h4⟩, h5, h6⟩ := edit_zero e1'
  have z1 := chk_small h1
  have z2 := chk_small h5
  have z3 := now_size s (a, b, t) h2 h3 h4
  generalize hu : nowF s (a, b, t) = u at h5 h6 z2 z3
  simp only [h6]
  refine ⟨fun e2 => ?_, fun e2 => ?_⟩
  · have e2' : (editF (nowF s (a, b, t)) (c, d, v)).2 ≠ 0 := by rw [hu]; exact e2
    rw [both_e2 e1' e2', hu]; exact ⟨rfl, rfl⟩
  have e2' : (editF (nowF s (a, b, t)) (c, d, v)).2 = 0 := by rw [hu]; exact e2
  rw [both_ok e1' e2']
  unfold bothTo
  obtain ⟨i1, ⟨i2, i3, i4⟩, i5, i6⟩ := edit_zero (show (editF u (c, d, v)).2 = 0 from e2)
  have z4 := chk_small i5
  have z5 := now_size u (c, d, v) i2 i3 i4
  generalize hw : nowF u (c, d, v) = w at i5 i6 z4 z5
  simp only [i6, hu, hw] at *
  have w0 : IntKind.i64.wrap (a + t.size) = a + t.size := wrap_i64 (by omega) (by omega)
  rw [w0]
  refine ⟨fun e3 => ?_, fun e3 => ?_⟩
  · rw [if_pos e3]
    have w1 : IntKind.i64.wrap ((u.size : Int) - d) = (u.size : Int) - d := wrap_i64 (by omega) (by omega)
    rw [w1]
    have w1 : IntKind.i64.wrap ((s.size : Int) - ((u.size : Int) - d)) = d - ((u.size : Int) - s.size) := (wrap_i64 (by omega) (by omega)).trans (by omega)
    have w2 : IntKind.i64.wrap ((s.size : Int) - max b (d - ((u.size : Int) - s.size))) = (s.size : Int) - max b (d - ((u.size : Int) - s.size)) := wrap_i64 (by omega) (by omega)
    have w3 : IntKind.i64.wrap ((w.size : Int) - ((s.size : Int) - max b (d - ((u.size : Int) - s.size)))) = (w.size : Int) - ((s.size : Int) - max b (d - ((u.size : Int) - s.size))) := wrap_i64 (by omega) (by omega)
    rw [w1, w2, w3]
    exact ⟨⟨by omega, by omega, by omega⟩, rfl, trivial⟩
  · rw [if_neg (by omega)]
    have w2 : IntKind.i64.wrap ((s.size : Int) - b) = (s.size : Int) - b := wrap_i64 (by omega) (by omega)
    have w3 : IntKind.i64.wrap ((w.size : Int) - ((s.size : Int) - b)) = (w.size : Int) - ((s.size : Int) - b) := wrap_i64 (by omega) (by omega)
    rw [w2, w3]
    exact ⟨⟨by omega, by omega, by omega⟩, rfl, trivial⟩
/-! ### the laws -/
theorem ok12 (F : LexF) (hs : F.pB = fun s => s.size ≤ 281474976710656) (h : F.awake = true) (h0 : F.short = shortF) (h1 : F.apply = applyF) (h2 : F.rApply = applyF) (h3 : F.undo = undoF) (h4 : F.rUndo = undoF)
    (k0 : SpecOk prog 21 (S21 F)) (k1 : SpecOk prog 22 (S22 F)) (k2 : SpecOk prog 39 (S39 F)) (k3 : SpecOk prog 42 (S42 F)) (k4 : SpecOk prog 43 (S43 F)) (k5 : SpecOk prog 44 (S44 F)) : SpecOk prog 12 lawE := by
  refine contract_by hm hE D12 fnok12 _ fun (z : ByteArray × Ed × Unit) hpre => ?_
  obtain ⟨s, x, ⟨⟩⟩ := z
  refine pack _ 0 a0 (only_ok (F := F) (l := [21, 22, 39, 42, 43, 44]) (by simp only [List.forall_mem_cons]; exact ⟨at_ok k0 (by kernel_rfl), at_ok k1 (by kernel_rfl), at_ok k2 (by kernel_rfl), at_ok k3 (by kernel_rfl), at_ok k4 (by kernel_rfl), at_ok k5 (by kernel_rfl), fun _ h => by cases h⟩)) ?_
  refine n12_go Lv.std F s x ?_
  have hc : ∀ a : Int, VM.compare BinOp.eql a a = true := fun a => by rw [cmp_eql_t]
  have hsc : ∀ a : ByteArray, scompare BinOp.eql a a = true := fun a => by rw [scmp_eql_t]
  simp only [n12, VC.holds, std_cmp, std_scmp, std_ar_add, std_ar_sub, std_ar_mul, std_ar, std_dv, std_shf, std_conv, std_mn, std_mx, std_beq, std_bnot, std_band, std_scat, std_byte, std_ext, std_slen, std_strOf, std_bytes, std_llen, std_get, std_setl, std_app, std_take, std_drop, std_rep, std_mhas, std_mval, std_mput, std_cast, std_toN, std_sub, std_add, std_inR, std_le3, std_leN, std_ltN, std_ne0, std_nonneg, std_catOk, std_room, std_mkOk, cmp_lss_t, cmp_lss_f, cmp_leq_t, cmp_leq_f, cmp_gtr_t, cmp_gtr_f, cmp_geq_t, cmp_geq_f, cmp_eql_t, cmp_eql_f, cmp_neq_t, cmp_neq_f, scmp_eql_t, scmp_eql_f, scmp_neq_t, scmp_neq_f, dflt_int, dflt_bool, dflt_str, dflt_sl, dflt_pair, h, h0, h1, h2, h3, h4, hs, hc, hsc, Prod.mk.injEq, and_true, true_and]
  refine ⟨fun e1 => ⟨fun e2 => ⟨short_pB e2, by simp [short_pB e2]⟩, fun e2 => by simp⟩, fun e1 => by simp⟩
theorem ok14 (F : LexF) (hs : F.pB = fun s => s.size ≤ 281474976710656) (h : F.awake = true) (h0 : F.short = shortF) (h1 : F.both = bothF) (h2 : F.rBoth = bothF)
    (k0 : SpecOk prog 21 (S21 F)) (k1 : SpecOk prog 22 (S22 F)) (k2 : SpecOk prog 45 (S45 F)) (k3 : SpecOk prog 46 (S46 F)) : SpecOk prog 14 law2e := by
  refine contract_by hm hE D14 fnok14 _ fun (z : ByteArray × Ed × Ed × Unit) hpre => ?_
  obtain ⟨s, x, y, ⟨⟩⟩ := z
  refine pack _ 0 a0 (only_ok (F := F) (l := [21, 22, 45, 46]) (by simp only [List.forall_mem_cons]; exact ⟨at_ok k0 (by kernel_rfl), at_ok k1 (by kernel_rfl), at_ok k2 (by kernel_rfl), at_ok k3 (by kernel_rfl), fun _ h => by cases h⟩)) ?_
  refine n14_go Lv.std F s x y ?_
  have hc : ∀ a : Int, VM.compare BinOp.eql a a = true := fun a => by rw [cmp_eql_t]
  have hsc : ∀ a : ByteArray, scompare BinOp.eql a a = true := fun a => by rw [scmp_eql_t]
  simp only [n14, VC.holds, std_cmp, std_scmp, std_ar_add, std_ar_sub, std_ar_mul, std_ar, std_dv, std_shf, std_conv, std_mn, std_mx, std_beq, std_bnot, std_band, std_scat, std_byte, std_ext, std_slen, std_strOf, std_bytes, std_llen, std_get, std_setl, std_app, std_take, std_drop, std_rep, std_mhas, std_mval, std_mput, std_cast, std_toN, std_sub, std_add, std_inR, std_le3, std_leN, std_ltN, std_ne0, std_nonneg, std_catOk, std_room, std_mkOk, cmp_lss_t, cmp_lss_f, cmp_leq_t, cmp_leq_f, cmp_gtr_t, cmp_gtr_f, cmp_geq_t, cmp_geq_f, cmp_eql_t, cmp_eql_f, cmp_neq_t, cmp_neq_f, scmp_eql_t, scmp_eql_f, scmp_neq_t, scmp_neq_f, dflt_int, dflt_bool, dflt_str, dflt_sl, dflt_pair, h, h0, h1, h2, hs, hc, hsc, Prod.mk.injEq, and_true, true_and]
  refine ⟨fun e1 => ⟨fun e2 => ⟨fun e3 => ⟨⟨short_pB e2, short_pB e3⟩, by simp [short_pB e2, short_pB e3]⟩, fun e3 => by simp⟩, fun e2 => by simp⟩, fun e1 => by simp⟩
theorem byteAt_now (s : ByteArray) (x : Ed) (h0 : 0 ≤ x.1) (h1 : x.1 ≤ x.2.1) (h2 : x.2.1 ≤ s.size) (i : Int) (hi : 0 ≤ i) (hi2 : i < (nowF s x).size) :
    byteAt (nowF s x) i = if i < x.1 then byteAt s i else if i < x.1 + x.2.2.size then byteAt x.2.2 (i - x.1) else byteAt s (i - (x.1 + x.2.2.size) + x.2.1) := by
  have hz := now_size s x h0 h1 h2
  unfold nowF at hi2 hz ⊢
  have w1 : ((s.extract 0 x.1.toNat).size : Int) = x.1 := by rw [ext_size]; omega
  have w2 : (((s.extract 0 x.1.toNat) ++ x.2.2).size : Int) = x.1 + x.2.2.size := by rw [app_size]; omega
  have w3 : ((s.extract x.2.1.toNat s.size).size : Int) = s.size - x.2.1 := by rw [ext_size]; omega
  by_cases c1 : i < x.1
  · rw [if_pos c1, byteAt_app_l hi (by omega), byteAt_app_l hi (by omega), byteAt_ext hi (by omega)]
    congr 1; omega
  · rw [if_neg c1]
    by_cases c2 : i < x.1 + x.2.2.size
    · rw [if_pos c2, byteAt_app_l hi (by omega), byteAt_app_r (by omega) (by omega), w1]
    · rw [if_neg c2, byteAt_app_r (by omega) (by omega), w2, byteAt_ext (by omega) (by omega)]
      congr 1; omega
theorem now_back (s : ByteArray) (x : Ed) (h0 : 0 ≤ x.1) (h1 : x.1 ≤ x.2.1) (h2 : x.2.1 ≤ s.size) : nowF (nowF s x) (x.1, x.1 + x.2.2.size, s.extract x.1.toNat x.2.1.toNat) = s := by
  have z1 := now_size s x h0 h1 h2
  have z2 := now_size (nowF s x) (x.1, x.1 + x.2.2.size, s.extract x.1.toNat x.2.1.toNat) h0 (by simp only; omega) (by simp only; omega)
  have z3 : ((s.extract x.1.toNat x.2.1.toNat).size : Int) = x.2.1 - x.1 := by rw [ext_size]; omega
  simp only at z2
  have hz : (nowF (nowF s x) (x.1, x.1 + x.2.2.size, s.extract x.1.toNat x.2.1.toNat)).size = s.size := by omega
  refine ba_ext2 hz fun i hi hi2 => ?_
  rw [byteAt_now (nowF s x) (x.1, x.1 + x.2.2.size, s.extract x.1.toNat x.2.1.toNat) h0 (by simp only; omega) (by simp only; omega) i hi (by omega)]
  simp only
  by_cases c1 : i < x.1
  · rw [if_pos c1, byteAt_now s x h0 h1 h2 i hi (by omega), if_pos c1]
  · rw [if_neg c1]
    by_cases c2 : i < x.1 + ((s.extract x.1.toNat x.2.1.toNat).size : Int)
    · rw [if_pos c2, byteAt_ext (by omega) (by omega)]
      congr 1; omega
    · rw [if_neg c2, byteAt_now s x h0 h1 h2 _ (by omega) (by omega), if_neg (by omega), if_neg (by omega)]
      congr 1; omega
theorem now_put (s : ByteArray) (x : Ed) (h0 : 0 ≤ x.1) (h1 : x.1 ≤ x.2.1) (h2 : x.2.1 ≤ s.size) : (nowF s x).extract x.1.toNat (x.1 + x.2.2.size).toNat = x.2.2 := by
  have z1 := now_size s x h0 h1 h2
  have hz : ((nowF s x).extract x.1.toNat (x.1 + x.2.2.size).toNat).size = x.2.2.size := by rw [ext_size]; omega
  refine ba_ext2 hz fun i hi hi2 => ?_
  rw [byteAt_ext hi (by omega), byteAt_now s x h0 h1 h2 _ (by omega) (by omega), if_neg (by omega), if_pos (by omega)]
  congr 1; omega
theorem undo_apply {s : ByteArray} {x : Ed} (h : (applyF s x).2 = 0) : applyF (nowF s x) (undoF s x).1 = (s, 0) ∧ undoF (nowF s x) (undoF s x).1 = (x, 0) ∧ (undoF s x).2 = 0 ∧ (undoF s x).1.2.2.size ≤ s.size := by
  have e' : (editF s x).2 = 0 := h
  obtain ⟨h1, ⟨h2, h3, h4⟩, h5, h6⟩ := edit_zero e'
  have hu : undoF s x = ((x.1, x.1 + x.2.2.size, s.extract x.1.toNat x.2.1.toNat), 0) := by unfold undoF; rw [if_neg (fun hh => hh e')]
  have z1 := now_size s x h2 h3 h4
  have hb := now_back s x h2 h3 h4
  have hp := now_put s x h2 h3 h4
  have hE : isEditF (nowF s x) (x.1, x.1 + x.2.2.size, s.extract x.1.toNat x.2.1.toNat) = true := (isEdit_iff _ _).2 ⟨h2, by simp only; omega, by simp only; omega⟩
  rw [hu]
  have he := edit_ok h5 hE (by rw [hb]; exact h1)
  refine ⟨?_, ?_, rfl, ?_⟩
  · rw [apply_ok h5 hE (by rw [hb]; exact h1), hb]
  · unfold undoF; rw [if_neg (by rw [he]; simp)]
    simp only
    rw [hp, ext_size]
    obtain ⟨a, b, t⟩ := x
    simp only [Prod.mk.injEq, and_true, true_and] at *
    omega
  · simp only; rw [ext_size]; omega
theorem ok13 (F : LexF) (hs : F.pB = fun s => s.size ≤ 281474976710656) (h : F.awake = true) (h0 : F.short = shortF) (h1 : F.apply = applyF) (h3 : F.undo = undoF)
    (k0 : SpecOk prog 21 (S21 F)) (k1 : SpecOk prog 22 (S22 F)) (k2 : SpecOk prog 39 (S39 F)) (k3 : SpecOk prog 42 (S42 F)) : SpecOk prog 13 (lawEp F) := by
  refine contract_by hm hE D13 fnok13 _ fun (z : ByteArray × Ed × Unit) hpre => ?_
  obtain ⟨s, ⟨a, b, t⟩, ⟨⟩⟩ := z
  have hpre0 : F.pB t := hpre
  rw [hs] at hpre0
  have hpre' : t.size ≤ 281474976710656 := hpre0
  refine pack _ 0 a0 (only_ok (F := F) (l := [21, 22, 39, 42]) (by simp only [List.forall_mem_cons]; exact ⟨at_ok k0 (by kernel_rfl), at_ok k1 (by kernel_rfl), at_ok k2 (by kernel_rfl), at_ok k3 (by kernel_rfl), fun _ h => by cases h⟩)) ?_
  refine n13_go Lv.std F s (a, b, t) ?_
  have hc : ∀ a : Int, VM.compare BinOp.eql a a = true := fun a => by rw [cmp_eql_t]
  have hsc : ∀ a : ByteArray, scompare BinOp.eql a a = true := fun a => by rw [scmp_eql_t]
  simp only [n13, VC.holds, std_cmp, std_scmp, std_ar_add, std_ar_sub, std_ar_mul, std_ar, std_dv, std_shf, std_conv, std_mn, std_mx, std_beq, std_bnot, std_band, std_scat, std_byte, std_ext, std_slen, std_strOf, std_bytes, std_llen, std_get, std_setl, std_app, std_take, std_drop, std_rep, std_mhas, std_mval, std_mput, std_cast, std_toN, std_sub, std_add, std_inR, std_le3, std_leN, std_ltN, std_ne0, std_nonneg, std_catOk, std_room, std_mkOk, cmp_lss_t, cmp_lss_f, cmp_leq_t, cmp_leq_f, cmp_gtr_t, cmp_gtr_f, cmp_geq_t, cmp_geq_f, cmp_eql_t, cmp_eql_f, cmp_neq_t, cmp_neq_f, scmp_eql_t, scmp_eql_f, scmp_neq_t, scmp_neq_f, dflt_int, dflt_bool, dflt_str, dflt_sl, dflt_pair, h, h0, h1, h3, hs, Prod.mk.injEq, and_true, true_and]
  refine ⟨hpre', fun e1 => by simp, fun e1 => ⟨fun e2 => ⟨fun e3 => ?_, fun e3 => by simp⟩, fun e2 => by simp⟩⟩
  have e1' : (applyF s (a, b, t)).2 = 0 := e1
  obtain ⟨q1, q2, q3, q4⟩ := undo_apply e1'
  have hn : (applyF s (a, b, t)).1 = nowF s (a, b, t) := by rw [show applyF s (a, b, t) = _ from congrArg (fun d : Dd × Int => (d.1.2.2, d.2)) (edit_zero e1').2.2.2]
  have hsz := short_pB e2
  generalize hU : undoF s (a, b, t) = U at q1 q2 q3 q4 ⊢
  obtain ⟨⟨u1, u2, u3⟩, u4⟩ := U
  simp only [hn] at q1 q2 q3 q4 ⊢
  rw [q1, q2]
  subst q3
  have hx : VM.compare BinOp.eql (0 : Int) 0 = true := hc 0
  have hu3 : u3.size ≤ 281474976710656 := by omega
  simp [hx, hc, hsc, hpre', hu3]
theorem both_now {s : ByteArray} {x y : Ed} (h : (applyF s x).2 = 0) (h2 : (applyF (nowF s x) y).2 = 0) : (bothF s x y).2 = 0 ∧ applyF s (bothF s x y).1 = (nowF (nowF s x) y, 0) ∧ (bothF s x y).1.1 ≤ x.1 ∧ x.2.1 ≤ (bothF s x y).1.2.1 ∧ (bothF s x y).1.2.2.size ≤ 2500 := by
  have e1 : (editF s x).2 = 0 := h
  have e2 : (editF (nowF s x) y).2 = 0 := h2
  obtain ⟨h1, ⟨h2, h3, h4⟩, h5, h6⟩ := edit_zero e1
  obtain ⟨i1, ⟨i2, i3, i4⟩, i5, i6⟩ := edit_zero e2
  have z1 := now_size s x h2 h3 h4
  have z2 := now_size (nowF s x) y i2 i3 i4
  have z3 := chk_small i5
  rw [both_ok e1 e2]
  have b1 := byteAt_now s x h2 h3 h4
  have b2 := byteAt_now (nowF s x) y i2 i3 i4
  have hT : (x.2.1 ≤ bothTo s x y) ∧ (bothTo s x y) ≤ s.size ∧ (y.2.1 ≤ bothTo s x y + (((nowF s x).size : Int) - s.size)) := by
    unfold bothTo
    split <;> omega
  generalize bothTo s x y = T at *
  generalize hu : nowF s x = u at *
  generalize hw : nowF u y = w at *
  obtain ⟨a, b, t⟩ := x
  obtain ⟨c, d, v⟩ := y
  simp only at *
  have w1 : ((w.extract (min a c).toNat ((w.size : Int) - (s.size - T)).toNat).size : Int) = w.size - (s.size - T) - min a c := by rw [ext_size]; omega
  have hE : isEditF s (min a c, T, w.extract (min a c).toNat ((w.size : Int) - (s.size - T)).toNat) = true := (isEdit_iff _ _).2 ⟨by simp only; omega, by simp only; omega, by simp only; omega⟩
  have hn : nowF s (min a c, T, w.extract (min a c).toNat ((w.size : Int) - (s.size - T)).toNat) = w := by
    have g1 := now_size s (min a c, T, w.extract (min a c).toNat ((w.size : Int) - (s.size - T)).toNat) (by simp only; omega) (by simp only; omega) (by simp only; omega)
    simp only at g1
    refine ba_ext2 (by omega) fun i hi hi2 => ?_
    rw [byteAt_now s _ (by simp only; omega) (by simp only; omega) (by simp only; omega) i hi hi2]
    simp only
    by_cases c1 : i < min a c
    · rw [if_pos c1, b2 i hi (by omega), if_pos (by omega), b1 i hi (by omega), if_pos (by omega)]
    · rw [if_neg c1]
      by_cases c2 : i < min a c + ((w.extract (min a c).toNat ((w.size : Int) - (s.size - T)).toNat).size : Int)
      · rw [if_pos c2, byteAt_ext (by omega) (by omega)]
        congr 1; omega
      · rw [if_neg c2, b2 i hi (by omega), if_neg (by omega), if_neg (by omega), b1 _ (by omega) (by omega), if_neg (by omega), if_neg (by omega)]
        congr 1; omega
  refine ⟨by trivial, ?_, by omega, hT.1, by omega⟩
  rw [apply_ok h1 hE (by rw [hn]; exact i5), hn]
theorem ok15 (F : LexF) (hs : F.pB = fun s => s.size ≤ 281474976710656) (h : F.awake = true) (h0 : F.short = shortF) (h1 : F.apply = applyF) (h3 : F.both = bothF)
    (k0 : SpecOk prog 21 (S21 F)) (k1 : SpecOk prog 22 (S22 F)) (k2 : SpecOk prog 39 (S39 F)) (k3 : SpecOk prog 45 (S45 F)) : SpecOk prog 15 (law2ep F) := by
  refine contract_by hm hE D15 fnok15 _ fun (z : ByteArray × Ed × Ed × Unit) hpre => ?_
  obtain ⟨s, ⟨a, b, t⟩, ⟨c, d, v⟩, ⟨⟩⟩ := z
  have hpre0 : F.pB t ∧ F.pB v := hpre
  rw [hs] at hpre0
  obtain ⟨p1, p2⟩ : t.size ≤ 281474976710656 ∧ v.size ≤ 281474976710656 := hpre0
  refine pack _ 0 a0 (only_ok (F := F) (l := [21, 22, 39, 45]) (by simp only [List.forall_mem_cons]; exact ⟨at_ok k0 (by kernel_rfl), at_ok k1 (by kernel_rfl), at_ok k2 (by kernel_rfl), at_ok k3 (by kernel_rfl), fun _ h => by cases h⟩)) ?_
  refine n15_go Lv.std F s (a, b, t) (c, d, v) ?_
  have hc : ∀ a : Int, VM.compare BinOp.eql a a = true := fun a => by rw [cmp_eql_t]
  have hsc : ∀ a : ByteArray, scompare BinOp.eql a a = true := fun a => by rw [scmp_eql_t]
  simp only [n15, VC.holds, std_cmp, std_scmp, std_ar_add, std_ar_sub, std_ar_mul, std_ar, std_dv, std_shf, std_conv, std_mn, std_mx, std_beq, std_bnot, std_band, std_scat, std_byte, std_ext, std_slen, std_strOf, std_bytes, std_llen, std_get, std_setl, std_app, std_take, std_drop, std_rep, std_mhas, std_mval, std_mput, std_cast, std_toN, std_sub, std_add, std_inR, std_le3, std_leN, std_ltN, std_ne0, std_nonneg, std_catOk, std_room, std_mkOk, cmp_lss_t, cmp_lss_f, cmp_leq_t, cmp_leq_f, cmp_gtr_t, cmp_gtr_f, cmp_geq_t, cmp_geq_f, cmp_eql_t, cmp_eql_f, cmp_neq_t, cmp_neq_f, scmp_eql_t, scmp_eql_f, scmp_neq_t, scmp_neq_f, dflt_int, dflt_bool, dflt_str, dflt_sl, dflt_pair, h, h0, h1, h3, hs, Prod.mk.injEq, and_true, true_and]
  refine ⟨p1, p2, fun e1 => by simp, fun e1 => ⟨fun e2 => by simp, fun e2 => ⟨fun s1 => ⟨fun s2 => ⟨fun s3 => ?_, fun s3 => by simp⟩, fun s2 => by simp⟩, fun s1 => by simp⟩⟩⟩
  have e1' : (applyF s (a, b, t)).2 = 0 := e1
  have hn : (applyF s (a, b, t)).1 = nowF s (a, b, t) := by rw [show applyF s (a, b, t) = _ from congrArg (fun d : Dd × Int => (d.1.2.2, d.2)) (edit_zero e1').2.2.2]
  simp only [hn] at e2 ⊢
  have e2' : (applyF (nowF s (a, b, t)) (c, d, v)).2 = 0 := e2
  have hn2 : (applyF (nowF s (a, b, t)) (c, d, v)).1 = nowF (nowF s (a, b, t)) (c, d, v) := by rw [show applyF (nowF s (a, b, t)) (c, d, v) = _ from congrArg (fun d : Dd × Int => (d.1.2.2, d.2)) (edit_zero e2').2.2.2]
  obtain ⟨q1, q2, q3, q4, q5⟩ := both_now e1' e2'
  simp only [hn2]
  generalize hU : bothF s (a, b, t) (c, d, v) = U at q1 q2 q3 q4 q5 ⊢
  obtain ⟨⟨u1, u2, u3⟩, u4⟩ := U
  simp only at q1 q2 q3 q4 q5 ⊢
  rw [q2]
  subst q1
  have hu3 : u3.size ≤ 281474976710656 := by omega
  refine ⟨⟨p1, p2⟩, hu3, ?_⟩
  simp only [not_true, false_imp_iff, true_imp_iff, forall_const, and_true, true_and, imp_self, q3, q4, ge_iff_le]
  try simp [q3, q4]
end Go.Proofs.Tryd
set_option autoImplicit false
set_option linter.all false
namespace Go.Proofs.Tryd
open Go Go.VM
set_option maxRecDepth 100000
theorem h76 : SpecOk prog 76 (S76 FF) := ok76 FF rfl
theorem h77 : SpecOk prog 77 (S77 FF) := ok77 FF rfl
theorem h72 : SpecOk prog 72 (S72 FF) := ok72 FF rfl rfl rfl h56
theorem h39 : SpecOk prog 39 (S39 FF) := ok39 FF rfl rfl h72
theorem h42 : SpecOk prog 42 (S42 FF) := ok42 FF rfl rfl rfl h72 h76
theorem h43 : SpecOk prog 43 (S43 FF) := ok43 FF rfl rfl rfl rfl h59 h71
theorem h44 : SpecOk prog 44 (S44 FF) := ok44 FF rfl rfl h43
theorem h45 : SpecOk prog 45 (S45 FF) := ok45 FF rfl rfl rfl rfl h72 h76 h77
theorem h46 : SpecOk prog 46 (S46 FF) := ok46 FF rfl rfl h43
theorem h12 : SpecOk prog 12 lawE := ok12 FF rfl rfl rfl rfl rfl rfl rfl h21 h22 h39 h42 h43 h44
theorem h13 : SpecOk prog 13 (lawEp FF) := ok13 FF rfl rfl rfl rfl rfl h21 h22 h39 h42
theorem h14 : SpecOk prog 14 law2e := ok14 FF rfl rfl rfl rfl rfl h21 h22 h45 h46
theorem h15 : SpecOk prog 15 (law2ep FF) := ok15 FF rfl rfl rfl rfl rfl h21 h22 h39 h45
end Go.Proofs.Tryd
