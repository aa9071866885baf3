/- What each function of the lexer computes, proved through the condition generator. No condition of ours. -/
import Derived.Test.YthmlejcfgbpcbaaDoorL1
import Derived.Test.YthmlejcfgbpcbaaDoorL0
set_option autoImplicit false
set_option linter.all false
namespace Go.Proofs.Tryd
open Go Go.VM
set_option maxRecDepth 100000
def a34 (L : Lv) (I : Ds [It] → Prop) (mu : Ds [It] → Nat) (J : Ds [It] → Prop) (nu : Ds [It] → Nat) : Nat → LAnn
  | 0 => anH L [0, 3, 4, 7, 10, 11, 12] [] [.b 12 0 It] I mu
  | 2 => anH L [0, 3, 4, 7, 10, 11, 12] [] [.b 12 1 It] J nu
  | _ => .no
def n34 (L : Lv) (F : LexF) (I : Ds [It] → Prop) (mu : Ds [It] → Nat) (J : Ds [It] → Prop) (nu : Ds [It] → Nat) (s : ByteArray) (x : Ed)  : VC :=
 VC.obl True
 (VC.br (Lv.cmp L BinOp.neq (Prod.snd (Prod.snd (LexF.rScan F s))) 0)
 (VC.ok
 (((0, 0, []), Prod.fst (Prod.snd (LexF.rScan F s)), Prod.snd (Prod.snd (LexF.rScan F s)), ()) =
 (Prod.fst (LexF.rRescan F s x), Prod.fst (Prod.snd (LexF.rRescan F s x)), Prod.snd (Prod.snd (LexF.rRescan F s x)), ())))
 (VC.obl True
 (VC.br (LexF.rIsEdit F s (Prod.fst x, Prod.fst (Prod.snd x), Prod.snd (Prod.snd x)))
 (VC.obl (Lv.le3 L (Lv.cast L 0) (Prod.fst x) (Lv.slen L s))
 (VC.obl (Lv.catOk L (Lv.ext L s (Lv.toN L (Lv.cast L 0)) (Lv.toN L (Prod.fst x))) (Prod.snd (Prod.snd x)))
 (VC.obl (Lv.le3 L (Prod.fst (Prod.snd x)) (Lv.cast L (Lv.slen L s)) (Lv.slen L s))
 (VC.obl
 (Lv.catOk L (Lv.scat L (Lv.ext L s (Lv.toN L (Lv.cast L 0)) (Lv.toN L (Prod.fst x))) (Prod.snd (Prod.snd x)))
 (Lv.ext L s (Lv.toN L (Prod.fst (Prod.snd x))) (Lv.toN L (Lv.cast L (Lv.slen L s)))))
 (VC.obl True
 (VC.br
 (Lv.cmp L BinOp.neq
 (Prod.snd
 (Prod.snd
 (LexF.rScan F
 (Lv.scat L (Lv.scat L (Lv.ext L s (Lv.toN L (Lv.cast L 0)) (Lv.toN L (Prod.fst x))) (Prod.snd (Prod.snd x)))
 (Lv.ext L s (Lv.toN L (Prod.fst (Prod.snd x))) (Lv.toN L (Lv.cast L (Lv.slen L s))))))))
 0)
 (VC.ok
 (((0, 0, []),
 Prod.fst
 (Prod.snd
 (LexF.rScan F
 (Lv.scat L (Lv.scat L (Lv.ext L s (Lv.toN L (Lv.cast L 0)) (Lv.toN L (Prod.fst x))) (Prod.snd (Prod.snd x)))
 (Lv.ext L s (Lv.toN L (Prod.fst (Prod.snd x))) (Lv.toN L (Lv.cast L (Lv.slen L s))))))),
 Prod.snd
 (Prod.snd
 (LexF.rScan F
 (Lv.scat L (Lv.scat L (Lv.ext L s (Lv.toN L (Lv.cast L 0)) (Lv.toN L (Prod.fst x))) (Prod.snd (Prod.snd x)))
 (Lv.ext L s (Lv.toN L (Prod.fst (Prod.snd x))) (Lv.toN L (Lv.cast L (Lv.slen L s))))))),
 ()) =
 (Prod.fst (LexF.rRescan F s x), Prod.fst (Prod.snd (LexF.rRescan F s x)), Prod.snd (Prod.snd (LexF.rRescan F s x)), ())))
 (VC.obl
 (St.mk 174
 [(0, V.c (C.str s)), (3, V.c (C.ptr 1 0)), (4, V.c (C.ptr 2 0)),
 (7, V.c (C.sl Lt (Prod.fst (LexF.rScan F s)))),
 (10,
 V.c
 (C.str
 (Lv.scat L (Lv.scat L (Lv.ext L s (Lv.toN L (Lv.cast L 0)) (Lv.toN L (Prod.fst x))) (Prod.snd (Prod.snd x)))
 (Lv.ext L s (Lv.toN L (Prod.fst (Prod.snd x))) (Lv.toN L (Lv.cast L (Lv.slen L s))))))),
 (11,
 V.c
 (C.sl Lt
 (Prod.fst
 (LexF.rScan F
 (Lv.scat L (Lv.scat L (Lv.ext L s (Lv.toN L (Lv.cast L 0)) (Lv.toN L (Prod.fst x))) (Prod.snd (Prod.snd x)))
 (Lv.ext L s (Lv.toN L (Prod.fst (Prod.snd x))) (Lv.toN L (Lv.cast L (Lv.slen L s))))))))),
 (12, V.c (C.ptr 3 0))]
 [(0, Ob.amb), (1, Ob.box 35 [C.int IntKind.i64 (Prod.fst x), C.int IntKind.i64 (Prod.fst (Prod.snd x)), C.str (Prod.snd (Prod.snd x))]),
 (2, Ob.box 40 [C.int IntKind.i64 0, C.int IntKind.i64 0, C.nils]), (3, Ob.box 40 [C.int IntKind.i64 0, C.int IntKind.i64 0, C.nils])]
 4 =
 St.mk 174
 [(0, V.c (C.str s)), (3, V.c (C.ptr 1 0)), (4, V.c (C.ptr 2 0)),
 (7, V.c (C.sl Lt (Prod.fst (LexF.rScan F s)))),
 (10,
 V.c
 (C.str
 (Lv.scat L (Lv.scat L (Lv.ext L s (Lv.toN L (Lv.cast L 0)) (Lv.toN L (Prod.fst x))) (Prod.snd (Prod.snd x)))
 (Lv.ext L s (Lv.toN L (Prod.fst (Prod.snd x))) (Lv.toN L (Lv.cast L (Lv.slen L s))))))),
 (11,
 V.c
 (C.sl Lt
 (Prod.fst
 (LexF.rScan F
 (Lv.scat L (Lv.scat L (Lv.ext L s (Lv.toN L (Lv.cast L 0)) (Lv.toN L (Prod.fst x))) (Prod.snd (Prod.snd x)))
 (Lv.ext L s (Lv.toN L (Prod.fst (Prod.snd x))) (Lv.toN L (Lv.cast L (Lv.slen L s))))))))),
 (12, V.c (C.ptr 3 0))]
 [(0, Ob.amb), (1, Ob.box 35 [C.int IntKind.i64 (Prod.fst x), C.int IntKind.i64 (Prod.fst (Prod.snd x)), C.str (Prod.snd (Prod.snd x))]),
 (2, Ob.box 40 [C.int IntKind.i64 0, C.int IntKind.i64 0, C.nils]), (3, Ob.box 40 [C.int IntKind.i64 0, C.int IntKind.i64 0, C.nils])]
 4)
 (VC.obl (I (0, ()))
 (VC.all (Int × Unit) fun (x_1 : Int × Unit) =>
 VC.imp (I x_1)
 (VC.br (Lv.cmp L BinOp.lss (Prod.fst x_1) (Lv.cast L (Lv.llen L Lt (Prod.fst (LexF.rScan F s)))))
 (VC.br
 (Lv.cmp L BinOp.lss (Prod.fst x_1)
 (Lv.cast L
 (Lv.llen L Lt
 (Prod.fst
 (LexF.rScan F
 (Lv.scat L (Lv.scat L (Lv.ext L s (Lv.toN L (Lv.cast L 0)) (Lv.toN L (Prod.fst x))) (Prod.snd (Prod.snd x)))
 (Lv.ext L s (Lv.toN L (Prod.fst (Prod.snd x))) (Lv.toN L (Lv.cast L (Lv.slen L s))))))))))
 (VC.obl (Lv.inR L (Prod.fst x_1) (Lv.llen L Lt (Prod.fst (LexF.rScan F s))))
 (VC.br
 (Lv.cmp L BinOp.lss
 (Prod.snd (Prod.snd (Lv.get L Lt (Prod.fst (LexF.rScan F s)) (Lv.toN L (Prod.fst x_1)))))
 (Prod.fst x))
 (VC.obl (Lv.inR L (Prod.fst x_1) (Lv.llen L Lt (Prod.fst (LexF.rScan F s))))
 (VC.obl
 (Lv.inR L (Prod.fst x_1)
 (Lv.llen L Lt
 (Prod.fst
 (LexF.rScan F
 (Lv.scat L (Lv.scat L (Lv.ext L s (Lv.toN L (Lv.cast L 0)) (Lv.toN L (Prod.fst x))) (Prod.snd (Prod.snd x)))
 (Lv.ext L s (Lv.toN L (Prod.fst (Prod.snd x))) (Lv.toN L (Lv.cast L (Lv.slen L s)))))))))
 (VC.br
 (Lv.band L
 (Lv.cmp L BinOp.eql
 (Prod.fst (Lv.get L Lt (Prod.fst (LexF.rScan F s)) (Lv.toN L (Prod.fst x_1))))
 (Prod.fst
 (Lv.get L Lt
 (Prod.fst
 (LexF.rScan F
 (Lv.scat L (Lv.scat L (Lv.ext L s (Lv.toN L (Lv.cast L 0)) (Lv.toN L (Prod.fst x))) (Prod.snd (Prod.snd x)))
 (Lv.ext L s (Lv.toN L (Prod.fst (Prod.snd x))) (Lv.toN L (Lv.cast L (Lv.slen L s)))))))
 (Lv.toN L (Prod.fst x_1)))))
 (Lv.band L
 (Lv.scmp L BinOp.eql
 (Prod.fst
 (Prod.snd (Lv.get L Lt (Prod.fst (LexF.rScan F s)) (Lv.toN L (Prod.fst x_1)))))
 (Prod.fst
 (Prod.snd
 (Lv.get L Lt
 (Prod.fst
 (LexF.rScan F
 (Lv.scat L (Lv.scat L (Lv.ext L s (Lv.toN L (Lv.cast L 0)) (Lv.toN L (Prod.fst x))) (Prod.snd (Prod.snd x)))
 (Lv.ext L s (Lv.toN L (Prod.fst (Prod.snd x))) (Lv.toN L (Lv.cast L (Lv.slen L s)))))))
 (Lv.toN L (Prod.fst x_1))))))
 (Lv.band L
 (Lv.cmp L BinOp.eql
 (Prod.snd
 (Prod.snd (Lv.get L Lt (Prod.fst (LexF.rScan F s)) (Lv.toN L (Prod.fst x_1)))))
 (Prod.snd
 (Prod.snd
 (Lv.get L Lt
 (Prod.fst
 (LexF.rScan F
 (Lv.scat L (Lv.scat L (Lv.ext L s (Lv.toN L (Lv.cast L 0)) (Lv.toN L (Prod.fst x))) (Prod.snd (Prod.snd x)))
 (Lv.ext L s (Lv.toN L (Prod.fst (Prod.snd x))) (Lv.toN L (Lv.cast L (Lv.slen L s)))))))
 (Lv.toN L (Prod.fst x_1))))))
 true)))
 (VC.ok
 (St.mk 174
 [(0, V.c (C.str s)), (3, V.c (C.ptr 1 0)), (4, V.c (C.ptr 2 0)),
 (7, V.c (C.sl Lt (Prod.fst (LexF.rScan F s)))),
 (10,
 V.c
 (C.str
 (Lv.scat L (Lv.scat L (Lv.ext L s (Lv.toN L (Lv.cast L 0)) (Lv.toN L (Prod.fst x))) (Prod.snd (Prod.snd x)))
 (Lv.ext L s (Lv.toN L (Prod.fst (Prod.snd x))) (Lv.toN L (Lv.cast L (Lv.slen L s))))))),
 (11,
 V.c
 (C.sl Lt
 (Prod.fst
 (LexF.rScan F
 (Lv.scat L (Lv.scat L (Lv.ext L s (Lv.toN L (Lv.cast L 0)) (Lv.toN L (Prod.fst x))) (Prod.snd (Prod.snd x)))
 (Lv.ext L s (Lv.toN L (Prod.fst (Prod.snd x))) (Lv.toN L (Lv.cast L (Lv.slen L s))))))))),
 (12, V.c (C.ptr 3 0))]
 [(0, Ob.amb), (1, Ob.box 35 [C.int IntKind.i64 (Prod.fst x), C.int IntKind.i64 (Prod.fst (Prod.snd x)), C.str (Prod.snd (Prod.snd x))]),
 (2, Ob.box 40 [C.int IntKind.i64 0, C.int IntKind.i64 0, C.nils]),
 (3, Ob.box 40 [C.int IntKind.i64 (Lv.ar L BinOp.add IntKind.i64 (Prod.fst x_1) 1), C.int IntKind.i64 0, C.nils])]
 4 =
 St.mk 174
 [(0, V.c (C.str s)), (3, V.c (C.ptr 1 0)), (4, V.c (C.ptr 2 0)),
 (7, V.c (C.sl Lt (Prod.fst (LexF.rScan F s)))),
 (10,
 V.c
 (C.str
 (Lv.scat L (Lv.scat L (Lv.ext L s (Lv.toN L (Lv.cast L 0)) (Lv.toN L (Prod.fst x))) (Prod.snd (Prod.snd x)))
 (Lv.ext L s (Lv.toN L (Prod.fst (Prod.snd x))) (Lv.toN L (Lv.cast L (Lv.slen L s))))))),
 (11,
 V.c
 (C.sl Lt
 (Prod.fst
 (LexF.rScan F
 (Lv.scat L (Lv.scat L (Lv.ext L s (Lv.toN L (Lv.cast L 0)) (Lv.toN L (Prod.fst x))) (Prod.snd (Prod.snd x)))
 (Lv.ext L s (Lv.toN L (Prod.fst (Prod.snd x))) (Lv.toN L (Lv.cast L (Lv.slen L s))))))))),
 (12, V.c (C.ptr 3 0))]
 [(0, Ob.amb), (1, Ob.box 35 [C.int IntKind.i64 (Prod.fst x), C.int IntKind.i64 (Prod.fst (Prod.snd x)), C.str (Prod.snd (Prod.snd x))]),
 (2, Ob.box 40 [C.int IntKind.i64 0, C.int IntKind.i64 0, C.nils]),
 (3, Ob.box 40 [C.int IntKind.i64 (Lv.ar L BinOp.add IntKind.i64 (Prod.fst x_1) 1), C.int IntKind.i64 0, C.nils])]
 4 ∧
 I (Lv.ar L BinOp.add IntKind.i64 (Prod.fst x_1) 1, ()) ∧ mu (Lv.ar L BinOp.add IntKind.i64 (Prod.fst x_1) 1, ()) < mu x_1))
 (VC.obl
 (St.mk 174
 [(0, V.c (C.str s)), (3, V.c (C.ptr 1 0)), (4, V.c (C.ptr 2 0)),
 (7, V.c (C.sl Lt (Prod.fst (LexF.rScan F s)))),
 (10,
 V.c
 (C.str
 (Lv.scat L (Lv.scat L (Lv.ext L s (Lv.toN L (Lv.cast L 0)) (Lv.toN L (Prod.fst x))) (Prod.snd (Prod.snd x)))
 (Lv.ext L s (Lv.toN L (Prod.fst (Prod.snd x))) (Lv.toN L (Lv.cast L (Lv.slen L s))))))),
 (11,
 V.c
 (C.sl Lt
 (Prod.fst
 (LexF.rScan F
 (Lv.scat L (Lv.scat L (Lv.ext L s (Lv.toN L (Lv.cast L 0)) (Lv.toN L (Prod.fst x))) (Prod.snd (Prod.snd x)))
 (Lv.ext L s (Lv.toN L (Prod.fst (Prod.snd x))) (Lv.toN L (Lv.cast L (Lv.slen L s))))))))),
 (12, V.c (C.ptr 3 0))]
 [(0, Ob.amb), (1, Ob.box 35 [C.int IntKind.i64 (Prod.fst x), C.int IntKind.i64 (Prod.fst (Prod.snd x)), C.str (Prod.snd (Prod.snd x))]),
 (2, Ob.box 40 [C.int IntKind.i64 0, C.int IntKind.i64 0, C.nils]), (3, Ob.box 40 [C.int IntKind.i64 (Prod.fst x_1), C.int IntKind.i64 0, C.nils])]
 4 =
 St.mk 174
 [(0, V.c (C.str s)), (3, V.c (C.ptr 1 0)), (4, V.c (C.ptr 2 0)),
 (7, V.c (C.sl Lt (Prod.fst (LexF.rScan F s)))),
 (10,
 V.c
 (C.str
 (Lv.scat L (Lv.scat L (Lv.ext L s (Lv.toN L (Lv.cast L 0)) (Lv.toN L (Prod.fst x))) (Prod.snd (Prod.snd x)))
 (Lv.ext L s (Lv.toN L (Prod.fst (Prod.snd x))) (Lv.toN L (Lv.cast L (Lv.slen L s))))))),
 (11,
 V.c
 (C.sl Lt
 (Prod.fst
 (LexF.rScan F
 (Lv.scat L (Lv.scat L (Lv.ext L s (Lv.toN L (Lv.cast L 0)) (Lv.toN L (Prod.fst x))) (Prod.snd (Prod.snd x)))
 (Lv.ext L s (Lv.toN L (Prod.fst (Prod.snd x))) (Lv.toN L (Lv.cast L (Lv.slen L s))))))))),
 (12, V.c (C.ptr 3 0))]
 [(0, Ob.amb), (1, Ob.box 35 [C.int IntKind.i64 (Prod.fst x), C.int IntKind.i64 (Prod.fst (Prod.snd x)), C.str (Prod.snd (Prod.snd x))]),
 (2, Ob.box 40 [C.int IntKind.i64 0, C.int IntKind.i64 0, C.nils]), (3, Ob.box 40 [C.int IntKind.i64 (Prod.fst x_1), C.int IntKind.i64 0, C.nils])]
 4)
 (VC.obl (J (0, ()))
 (VC.all (Int × Unit) fun (x_2 : Int × Unit) =>
 VC.imp (J x_2)
 (VC.br
 (Lv.cmp L BinOp.lss (Prod.fst x_2)
 (Lv.cast L (Lv.llen L Lt (Prod.fst (LexF.rScan F s)))))
 (VC.br
 (Lv.cmp L BinOp.lss (Prod.fst x_2)
 (Lv.cast L
 (Lv.llen L Lt
 (Prod.fst
 (LexF.rScan F
 (Lv.scat L (Lv.scat L (Lv.ext L s (Lv.toN L (Lv.cast L 0)) (Lv.toN L (Prod.fst x))) (Prod.snd (Prod.snd x)))
 (Lv.ext L s (Lv.toN L (Prod.fst (Prod.snd x))) (Lv.toN L (Lv.cast L (Lv.slen L s))))))))))
 (VC.obl
 (Lv.inR L
 (Lv.ar L BinOp.sub IntKind.i64
 (Lv.ar L BinOp.sub IntKind.i64
 (Lv.cast L (Lv.llen L Lt (Prod.fst (LexF.rScan F s)))) 1)
 (Prod.fst x_2))
 (Lv.llen L Lt (Prod.fst (LexF.rScan F s))))
 (VC.obl
 (Lv.inR L
 (Lv.ar L BinOp.sub IntKind.i64
 (Lv.ar L BinOp.sub IntKind.i64
 (Lv.cast L
 (Lv.llen L Lt
 (Prod.fst
 (LexF.rScan F
 (Lv.scat L (Lv.scat L (Lv.ext L s (Lv.toN L (Lv.cast L 0)) (Lv.toN L (Prod.fst x))) (Prod.snd (Prod.snd x)))
 (Lv.ext L s (Lv.toN L (Prod.fst (Prod.snd x))) (Lv.toN L (Lv.cast L (Lv.slen L s)))))))))
 1)
 (Prod.fst x_2))
 (Lv.llen L Lt
 (Prod.fst
 (LexF.rScan F
 (Lv.scat L (Lv.scat L (Lv.ext L s (Lv.toN L (Lv.cast L 0)) (Lv.toN L (Prod.fst x))) (Prod.snd (Prod.snd x)))
 (Lv.ext L s (Lv.toN L (Prod.fst (Prod.snd x))) (Lv.toN L (Lv.cast L (Lv.slen L s)))))))))
 (VC.br
 (Lv.cmp L BinOp.lss
 (Prod.snd
 (Prod.snd
 (Lv.get L Lt (Prod.fst (LexF.rScan F s))
 (Lv.toN L
 (Lv.ar L BinOp.sub IntKind.i64
 (Lv.ar L BinOp.sub IntKind.i64
 (Lv.cast L (Lv.llen L Lt (Prod.fst (LexF.rScan F s)))) 1)
 (Prod.fst x_2))))))
 (Prod.fst (Prod.snd x)))
 (VC.obl
 (Lv.le3 L (Prod.fst x_1)
 (Lv.ar L BinOp.sub IntKind.i64
 (Lv.cast L
 (Lv.llen L Lt
 (Prod.fst
 (LexF.rScan F
 (Lv.scat L (Lv.scat L (Lv.ext L s (Lv.toN L (Lv.cast L 0)) (Lv.toN L (Prod.fst x))) (Prod.snd (Prod.snd x)))
 (Lv.ext L s (Lv.toN L (Prod.fst (Prod.snd x))) (Lv.toN L (Lv.cast L (Lv.slen L s)))))))))
 (Prod.fst x_2))
 (Lv.llen L Lt
 (Prod.fst
 (LexF.rScan F
 (Lv.scat L (Lv.scat L (Lv.ext L s (Lv.toN L (Lv.cast L 0)) (Lv.toN L (Prod.fst x))) (Prod.snd (Prod.snd x)))
 (Lv.ext L s (Lv.toN L (Prod.fst (Prod.snd x))) (Lv.toN L (Lv.cast L (Lv.slen L s)))))))))
 (VC.obl
 (Lv.room L
 (Lv.add L (Lv.llen L Lt [])
 (Lv.llen L Lt
 (Lv.drop L Lt
 (Lv.take L Lt
 (Prod.fst
 (LexF.rScan F
 (Lv.scat L (Lv.scat L (Lv.ext L s (Lv.toN L (Lv.cast L 0)) (Lv.toN L (Prod.fst x))) (Prod.snd (Prod.snd x)))
 (Lv.ext L s (Lv.toN L (Prod.fst (Prod.snd x))) (Lv.toN L (Lv.cast L (Lv.slen L s)))))))
 (Lv.toN L
 (Lv.ar L BinOp.sub IntKind.i64
 (Lv.cast L
 (Lv.llen L Lt
 (Prod.fst
 (LexF.rScan F
 (Lv.scat L (Lv.scat L (Lv.ext L s (Lv.toN L (Lv.cast L 0)) (Lv.toN L (Prod.fst x))) (Prod.snd (Prod.snd x)))
 (Lv.ext L s (Lv.toN L (Prod.fst (Prod.snd x))) (Lv.toN L (Lv.cast L (Lv.slen L s)))))))))
 (Prod.fst x_2))))
 (Lv.toN L (Prod.fst x_1)))))
 32)
 (VC.ok
 (((Prod.fst x_1, Prod.fst x_2,
 Lv.take L Lt
 (Lv.app L Lt []
 (Lv.drop L Lt
 (Lv.take L Lt
 (Prod.fst
 (LexF.rScan F
 (Lv.scat L (Lv.scat L (Lv.ext L s (Lv.toN L (Lv.cast L 0)) (Lv.toN L (Prod.fst x))) (Prod.snd (Prod.snd x)))
 (Lv.ext L s (Lv.toN L (Prod.fst (Prod.snd x))) (Lv.toN L (Lv.cast L (Lv.slen L s)))))))
 (Lv.toN L
 (Lv.ar L BinOp.sub IntKind.i64
 (Lv.cast L
 (Lv.llen L Lt
 (Prod.fst
 (LexF.rScan F
 (Lv.scat L (Lv.scat L (Lv.ext L s (Lv.toN L (Lv.cast L 0)) (Lv.toN L (Prod.fst x))) (Prod.snd (Prod.snd x)))
 (Lv.ext L s (Lv.toN L (Prod.fst (Prod.snd x))) (Lv.toN L (Lv.cast L (Lv.slen L s)))))))))
 (Prod.fst x_2))))
 (Lv.toN L (Prod.fst x_1))))
 (Lv.add L (Lv.llen L Lt [])
 (Lv.llen L Lt
 (Lv.drop L Lt
 (Lv.take L Lt
 (Prod.fst
 (LexF.rScan F
 (Lv.scat L (Lv.scat L (Lv.ext L s (Lv.toN L (Lv.cast L 0)) (Lv.toN L (Prod.fst x))) (Prod.snd (Prod.snd x)))
 (Lv.ext L s (Lv.toN L (Prod.fst (Prod.snd x))) (Lv.toN L (Lv.cast L (Lv.slen L s)))))))
 (Lv.toN L
 (Lv.ar L BinOp.sub IntKind.i64
 (Lv.cast L
 (Lv.llen L Lt
 (Prod.fst
 (LexF.rScan F
 (Lv.scat L
 (Lv.scat L (Lv.ext L s (Lv.toN L (Lv.cast L 0)) (Lv.toN L (Prod.fst x))) (Prod.snd (Prod.snd x)))
 (Lv.ext L s (Lv.toN L (Prod.fst (Prod.snd x))) (Lv.toN L (Lv.cast L (Lv.slen L s)))))))))
 (Prod.fst x_2))))
 (Lv.toN L (Prod.fst x_1)))))),
 0, 0, ()) =
 (Prod.fst (LexF.rRescan F s x), Prod.fst (Prod.snd (LexF.rRescan F s x)), Prod.snd (Prod.snd (LexF.rRescan F s x)), ())))))
 (VC.br
 (Lv.cmp L BinOp.neq
 (Prod.fst
 (Lv.get L Lt (Prod.fst (LexF.rScan F s))
 (Lv.toN L
 (Lv.ar L BinOp.sub IntKind.i64
 (Lv.ar L BinOp.sub IntKind.i64
 (Lv.cast L (Lv.llen L Lt (Prod.fst (LexF.rScan F s)))) 1)
 (Prod.fst x_2)))))
 (Prod.fst
 (Lv.get L Lt
 (Prod.fst
 (LexF.rScan F
 (Lv.scat L (Lv.scat L (Lv.ext L s (Lv.toN L (Lv.cast L 0)) (Lv.toN L (Prod.fst x))) (Prod.snd (Prod.snd x)))
 (Lv.ext L s (Lv.toN L (Prod.fst (Prod.snd x))) (Lv.toN L (Lv.cast L (Lv.slen L s)))))))
 (Lv.toN L
 (Lv.ar L BinOp.sub IntKind.i64
 (Lv.ar L BinOp.sub IntKind.i64
 (Lv.cast L
 (Lv.llen L Lt
 (Prod.fst
 (LexF.rScan F
 (Lv.scat L (Lv.scat L (Lv.ext L s (Lv.toN L (Lv.cast L 0)) (Lv.toN L (Prod.fst x))) (Prod.snd (Prod.snd x)))
 (Lv.ext L s (Lv.toN L (Prod.fst (Prod.snd x))) (Lv.toN L (Lv.cast L (Lv.slen L s)))))))))
 1)
 (Prod.fst x_2))))))
 (VC.obl
 (Lv.le3 L (Prod.fst x_1)
 (Lv.ar L BinOp.sub IntKind.i64
 (Lv.cast L
 (Lv.llen L Lt
 (Prod.fst
 (LexF.rScan F
 (Lv.scat L (Lv.scat L (Lv.ext L s (Lv.toN L (Lv.cast L 0)) (Lv.toN L (Prod.fst x))) (Prod.snd (Prod.snd x)))
 (Lv.ext L s (Lv.toN L (Prod.fst (Prod.snd x))) (Lv.toN L (Lv.cast L (Lv.slen L s)))))))))
 (Prod.fst x_2))
 (Lv.llen L Lt
 (Prod.fst
 (LexF.rScan F
 (Lv.scat L (Lv.scat L (Lv.ext L s (Lv.toN L (Lv.cast L 0)) (Lv.toN L (Prod.fst x))) (Prod.snd (Prod.snd x)))
 (Lv.ext L s (Lv.toN L (Prod.fst (Prod.snd x))) (Lv.toN L (Lv.cast L (Lv.slen L s)))))))))
 (VC.obl
 (Lv.room L
 (Lv.add L (Lv.llen L Lt [])
 (Lv.llen L Lt
 (Lv.drop L Lt
 (Lv.take L Lt
 (Prod.fst
 (LexF.rScan F
 (Lv.scat L (Lv.scat L (Lv.ext L s (Lv.toN L (Lv.cast L 0)) (Lv.toN L (Prod.fst x))) (Prod.snd (Prod.snd x)))
 (Lv.ext L s (Lv.toN L (Prod.fst (Prod.snd x))) (Lv.toN L (Lv.cast L (Lv.slen L s)))))))
 (Lv.toN L
 (Lv.ar L BinOp.sub IntKind.i64
 (Lv.cast L
 (Lv.llen L Lt
 (Prod.fst
 (LexF.rScan F
 (Lv.scat L (Lv.scat L (Lv.ext L s (Lv.toN L (Lv.cast L 0)) (Lv.toN L (Prod.fst x))) (Prod.snd (Prod.snd x)))
 (Lv.ext L s (Lv.toN L (Prod.fst (Prod.snd x))) (Lv.toN L (Lv.cast L (Lv.slen L s)))))))))
 (Prod.fst x_2))))
 (Lv.toN L (Prod.fst x_1)))))
 32)
 (VC.ok
 (((Prod.fst x_1, Prod.fst x_2,
 Lv.take L Lt
 (Lv.app L Lt []
 (Lv.drop L Lt
 (Lv.take L Lt
 (Prod.fst
 (LexF.rScan F
 (Lv.scat L (Lv.scat L (Lv.ext L s (Lv.toN L (Lv.cast L 0)) (Lv.toN L (Prod.fst x))) (Prod.snd (Prod.snd x)))
 (Lv.ext L s (Lv.toN L (Prod.fst (Prod.snd x))) (Lv.toN L (Lv.cast L (Lv.slen L s)))))))
 (Lv.toN L
 (Lv.ar L BinOp.sub IntKind.i64
 (Lv.cast L
 (Lv.llen L Lt
 (Prod.fst
 (LexF.rScan F
 (Lv.scat L
 (Lv.scat L (Lv.ext L s (Lv.toN L (Lv.cast L 0)) (Lv.toN L (Prod.fst x))) (Prod.snd (Prod.snd x)))
 (Lv.ext L s (Lv.toN L (Prod.fst (Prod.snd x))) (Lv.toN L (Lv.cast L (Lv.slen L s)))))))))
 (Prod.fst x_2))))
 (Lv.toN L (Prod.fst x_1))))
 (Lv.add L (Lv.llen L Lt [])
 (Lv.llen L Lt
 (Lv.drop L Lt
 (Lv.take L Lt
 (Prod.fst
 (LexF.rScan F
 (Lv.scat L (Lv.scat L (Lv.ext L s (Lv.toN L (Lv.cast L 0)) (Lv.toN L (Prod.fst x))) (Prod.snd (Prod.snd x)))
 (Lv.ext L s (Lv.toN L (Prod.fst (Prod.snd x))) (Lv.toN L (Lv.cast L (Lv.slen L s)))))))
 (Lv.toN L
 (Lv.ar L BinOp.sub IntKind.i64
 (Lv.cast L
 (Lv.llen L Lt
 (Prod.fst
 (LexF.rScan F
 (Lv.scat L
 (Lv.scat L (Lv.ext L s (Lv.toN L (Lv.cast L 0)) (Lv.toN L (Prod.fst x))) (Prod.snd (Prod.snd x)))
 (Lv.ext L s (Lv.toN L (Prod.fst (Prod.snd x))) (Lv.toN L (Lv.cast L (Lv.slen L s)))))))))
 (Prod.fst x_2))))
 (Lv.toN L (Prod.fst x_1)))))),
 0, 0, ()) =
 (Prod.fst (LexF.rRescan F s x), Prod.fst (Prod.snd (LexF.rRescan F s x)), Prod.snd (Prod.snd (LexF.rRescan F s x)),
 ())))))
 (VC.br
 (Lv.scmp L BinOp.neq
 (Prod.fst
 (Prod.snd
 (Lv.get L Lt (Prod.fst (LexF.rScan F s))
 (Lv.toN L
 (Lv.ar L BinOp.sub IntKind.i64
 (Lv.ar L BinOp.sub IntKind.i64
 (Lv.cast L (Lv.llen L Lt (Prod.fst (LexF.rScan F s)))) 1)
 (Prod.fst x_2))))))
 (Prod.fst
 (Prod.snd
 (Lv.get L Lt
 (Prod.fst
 (LexF.rScan F
 (Lv.scat L (Lv.scat L (Lv.ext L s (Lv.toN L (Lv.cast L 0)) (Lv.toN L (Prod.fst x))) (Prod.snd (Prod.snd x)))
 (Lv.ext L s (Lv.toN L (Prod.fst (Prod.snd x))) (Lv.toN L (Lv.cast L (Lv.slen L s)))))))
 (Lv.toN L
 (Lv.ar L BinOp.sub IntKind.i64
 (Lv.ar L BinOp.sub IntKind.i64
 (Lv.cast L
 (Lv.llen L Lt
 (Prod.fst
 (LexF.rScan F
 (Lv.scat L (Lv.scat L (Lv.ext L s (Lv.toN L (Lv.cast L 0)) (Lv.toN L (Prod.fst x))) (Prod.snd (Prod.snd x)))
 (Lv.ext L s (Lv.toN L (Prod.fst (Prod.snd x))) (Lv.toN L (Lv.cast L (Lv.slen L s)))))))))
 1)
 (Prod.fst x_2)))))))
 (VC.obl
 (Lv.le3 L (Prod.fst x_1)
 (Lv.ar L BinOp.sub IntKind.i64
 (Lv.cast L
 (Lv.llen L Lt
 (Prod.fst
 (LexF.rScan F
 (Lv.scat L (Lv.scat L (Lv.ext L s (Lv.toN L (Lv.cast L 0)) (Lv.toN L (Prod.fst x))) (Prod.snd (Prod.snd x)))
 (Lv.ext L s (Lv.toN L (Prod.fst (Prod.snd x))) (Lv.toN L (Lv.cast L (Lv.slen L s)))))))))
 (Prod.fst x_2))
 (Lv.llen L Lt
 (Prod.fst
 (LexF.rScan F
 (Lv.scat L (Lv.scat L (Lv.ext L s (Lv.toN L (Lv.cast L 0)) (Lv.toN L (Prod.fst x))) (Prod.snd (Prod.snd x)))
 (Lv.ext L s (Lv.toN L (Prod.fst (Prod.snd x))) (Lv.toN L (Lv.cast L (Lv.slen L s)))))))))
 (VC.obl
 (Lv.room L
 (Lv.add L (Lv.llen L Lt [])
 (Lv.llen L Lt
 (Lv.drop L Lt
 (Lv.take L Lt
 (Prod.fst
 (LexF.rScan F
 (Lv.scat L (Lv.scat L (Lv.ext L s (Lv.toN L (Lv.cast L 0)) (Lv.toN L (Prod.fst x))) (Prod.snd (Prod.snd x)))
 (Lv.ext L s (Lv.toN L (Prod.fst (Prod.snd x))) (Lv.toN L (Lv.cast L (Lv.slen L s)))))))
 (Lv.toN L
 (Lv.ar L BinOp.sub IntKind.i64
 (Lv.cast L
 (Lv.llen L Lt
 (Prod.fst
 (LexF.rScan F
 (Lv.scat L (Lv.scat L (Lv.ext L s (Lv.toN L (Lv.cast L 0)) (Lv.toN L (Prod.fst x))) (Prod.snd (Prod.snd x)))
 (Lv.ext L s (Lv.toN L (Prod.fst (Prod.snd x))) (Lv.toN L (Lv.cast L (Lv.slen L s)))))))))
 (Prod.fst x_2))))
 (Lv.toN L (Prod.fst x_1)))))
 32)
 (VC.ok
 (((Prod.fst x_1, Prod.fst x_2,
 Lv.take L Lt
 (Lv.app L Lt []
 (Lv.drop L Lt
 (Lv.take L Lt
 (Prod.fst
 (LexF.rScan F
 (Lv.scat L (Lv.scat L (Lv.ext L s (Lv.toN L (Lv.cast L 0)) (Lv.toN L (Prod.fst x))) (Prod.snd (Prod.snd x)))
 (Lv.ext L s (Lv.toN L (Prod.fst (Prod.snd x))) (Lv.toN L (Lv.cast L (Lv.slen L s)))))))
 (Lv.toN L
 (Lv.ar L BinOp.sub IntKind.i64
 (Lv.cast L
 (Lv.llen L Lt
 (Prod.fst
 (LexF.rScan F
 (Lv.scat L
 (Lv.scat L (Lv.ext L s (Lv.toN L (Lv.cast L 0)) (Lv.toN L (Prod.fst x))) (Prod.snd (Prod.snd x)))
 (Lv.ext L s (Lv.toN L (Prod.fst (Prod.snd x))) (Lv.toN L (Lv.cast L (Lv.slen L s)))))))))
 (Prod.fst x_2))))
 (Lv.toN L (Prod.fst x_1))))
 (Lv.add L (Lv.llen L Lt [])
 (Lv.llen L Lt
 (Lv.drop L Lt
 (Lv.take L Lt
 (Prod.fst
 (LexF.rScan F
 (Lv.scat L (Lv.scat L (Lv.ext L s (Lv.toN L (Lv.cast L 0)) (Lv.toN L (Prod.fst x))) (Prod.snd (Prod.snd x)))
 (Lv.ext L s (Lv.toN L (Prod.fst (Prod.snd x))) (Lv.toN L (Lv.cast L (Lv.slen L s)))))))
 (Lv.toN L
 (Lv.ar L BinOp.sub IntKind.i64
 (Lv.cast L
 (Lv.llen L Lt
 (Prod.fst
 (LexF.rScan F
 (Lv.scat L
 (Lv.scat L (Lv.ext L s (Lv.toN L (Lv.cast L 0)) (Lv.toN L (Prod.fst x))) (Prod.snd (Prod.snd x)))
 (Lv.ext L s (Lv.toN L (Prod.fst (Prod.snd x))) (Lv.toN L (Lv.cast L (Lv.slen L s)))))))))
 (Prod.fst x_2))))
 (Lv.toN L (Prod.fst x_1)))))),
 0, 0, ()) =
 (Prod.fst (LexF.rRescan F s x), Prod.fst (Prod.snd (LexF.rRescan F s x)), Prod.snd (Prod.snd (LexF.rRescan F s x)),
 ())))))
 (VC.br
 (Lv.cmp L BinOp.neq
 (Lv.ar L BinOp.sub IntKind.i64
 (Prod.snd
 (Prod.snd
 (Lv.get L Lt
 (Prod.fst
 (LexF.rScan F
 (Lv.scat L (Lv.scat L (Lv.ext L s (Lv.toN L (Lv.cast L 0)) (Lv.toN L (Prod.fst x))) (Prod.snd (Prod.snd x)))
 (Lv.ext L s (Lv.toN L (Prod.fst (Prod.snd x))) (Lv.toN L (Lv.cast L (Lv.slen L s)))))))
 (Lv.toN L
 (Lv.ar L BinOp.sub IntKind.i64
 (Lv.ar L BinOp.sub IntKind.i64
 (Lv.cast L
 (Lv.llen L Lt
 (Prod.fst
 (LexF.rScan F
 (Lv.scat L (Lv.scat L (Lv.ext L s (Lv.toN L (Lv.cast L 0)) (Lv.toN L (Prod.fst x))) (Prod.snd (Prod.snd x)))
 (Lv.ext L s (Lv.toN L (Prod.fst (Prod.snd x))) (Lv.toN L (Lv.cast L (Lv.slen L s)))))))))
 1)
 (Prod.fst x_2))))))
 (Prod.snd
 (Prod.snd
 (Lv.get L Lt (Prod.fst (LexF.rScan F s))
 (Lv.toN L
 (Lv.ar L BinOp.sub IntKind.i64
 (Lv.ar L BinOp.sub IntKind.i64
 (Lv.cast L
 (Lv.llen L Lt (Prod.fst (LexF.rScan F s))))
 1)
 (Prod.fst x_2)))))))
 (Lv.ar L BinOp.sub IntKind.i64
 (Lv.cast L
 (Lv.slen L
 (Lv.scat L (Lv.scat L (Lv.ext L s (Lv.toN L (Lv.cast L 0)) (Lv.toN L (Prod.fst x))) (Prod.snd (Prod.snd x)))
 (Lv.ext L s (Lv.toN L (Prod.fst (Prod.snd x))) (Lv.toN L (Lv.cast L (Lv.slen L s)))))))
 (Lv.cast L (Lv.slen L s))))
 (VC.obl
 (Lv.le3 L (Prod.fst x_1)
 (Lv.ar L BinOp.sub IntKind.i64
 (Lv.cast L
 (Lv.llen L Lt
 (Prod.fst
 (LexF.rScan F
 (Lv.scat L (Lv.scat L (Lv.ext L s (Lv.toN L (Lv.cast L 0)) (Lv.toN L (Prod.fst x))) (Prod.snd (Prod.snd x)))
 (Lv.ext L s (Lv.toN L (Prod.fst (Prod.snd x))) (Lv.toN L (Lv.cast L (Lv.slen L s)))))))))
 (Prod.fst x_2))
 (Lv.llen L Lt
 (Prod.fst
 (LexF.rScan F
 (Lv.scat L (Lv.scat L (Lv.ext L s (Lv.toN L (Lv.cast L 0)) (Lv.toN L (Prod.fst x))) (Prod.snd (Prod.snd x)))
 (Lv.ext L s (Lv.toN L (Prod.fst (Prod.snd x))) (Lv.toN L (Lv.cast L (Lv.slen L s)))))))))
 (VC.obl
 (Lv.room L
 (Lv.add L (Lv.llen L Lt [])
 (Lv.llen L Lt
 (Lv.drop L Lt
 (Lv.take L Lt
 (Prod.fst
 (LexF.rScan F
 (Lv.scat L (Lv.scat L (Lv.ext L s (Lv.toN L (Lv.cast L 0)) (Lv.toN L (Prod.fst x))) (Prod.snd (Prod.snd x)))
 (Lv.ext L s (Lv.toN L (Prod.fst (Prod.snd x))) (Lv.toN L (Lv.cast L (Lv.slen L s)))))))
 (Lv.toN L
 (Lv.ar L BinOp.sub IntKind.i64
 (Lv.cast L
 (Lv.llen L Lt
 (Prod.fst
 (LexF.rScan F
 (Lv.scat L (Lv.scat L (Lv.ext L s (Lv.toN L (Lv.cast L 0)) (Lv.toN L (Prod.fst x))) (Prod.snd (Prod.snd x)))
 (Lv.ext L s (Lv.toN L (Prod.fst (Prod.snd x))) (Lv.toN L (Lv.cast L (Lv.slen L s)))))))))
 (Prod.fst x_2))))
 (Lv.toN L (Prod.fst x_1)))))
 32)
 (VC.ok
 (((Prod.fst x_1, Prod.fst x_2,
 Lv.take L Lt
 (Lv.app L Lt []
 (Lv.drop L Lt
 (Lv.take L Lt
 (Prod.fst
 (LexF.rScan F
 (Lv.scat L (Lv.scat L (Lv.ext L s (Lv.toN L (Lv.cast L 0)) (Lv.toN L (Prod.fst x))) (Prod.snd (Prod.snd x)))
 (Lv.ext L s (Lv.toN L (Prod.fst (Prod.snd x))) (Lv.toN L (Lv.cast L (Lv.slen L s)))))))
 (Lv.toN L
 (Lv.ar L BinOp.sub IntKind.i64
 (Lv.cast L
 (Lv.llen L Lt
 (Prod.fst
 (LexF.rScan F
 (Lv.scat L
 (Lv.scat L (Lv.ext L s (Lv.toN L (Lv.cast L 0)) (Lv.toN L (Prod.fst x))) (Prod.snd (Prod.snd x)))
 (Lv.ext L s (Lv.toN L (Prod.fst (Prod.snd x))) (Lv.toN L (Lv.cast L (Lv.slen L s)))))))))
 (Prod.fst x_2))))
 (Lv.toN L (Prod.fst x_1))))
 (Lv.add L (Lv.llen L Lt [])
 (Lv.llen L Lt
 (Lv.drop L Lt
 (Lv.take L Lt
 (Prod.fst
 (LexF.rScan F
 (Lv.scat L (Lv.scat L (Lv.ext L s (Lv.toN L (Lv.cast L 0)) (Lv.toN L (Prod.fst x))) (Prod.snd (Prod.snd x)))
 (Lv.ext L s (Lv.toN L (Prod.fst (Prod.snd x))) (Lv.toN L (Lv.cast L (Lv.slen L s)))))))
 (Lv.toN L
 (Lv.ar L BinOp.sub IntKind.i64
 (Lv.cast L
 (Lv.llen L Lt
 (Prod.fst
 (LexF.rScan F
 (Lv.scat L
 (Lv.scat L (Lv.ext L s (Lv.toN L (Lv.cast L 0)) (Lv.toN L (Prod.fst x))) (Prod.snd (Prod.snd x)))
 (Lv.ext L s (Lv.toN L (Prod.fst (Prod.snd x))) (Lv.toN L (Lv.cast L (Lv.slen L s)))))))))
 (Prod.fst x_2))))
 (Lv.toN L (Prod.fst x_1)))))),
 0, 0, ()) =
 (Prod.fst (LexF.rRescan F s x), Prod.fst (Prod.snd (LexF.rRescan F s x)), Prod.snd (Prod.snd (LexF.rRescan F s x)),
 ())))))
 (VC.ok
 (St.mk 174
 [(0, V.c (C.str s)), (3, V.c (C.ptr 1 0)), (4, V.c (C.ptr 2 0)),
 (7, V.c (C.sl Lt (Prod.fst (LexF.rScan F s)))),
 (10,
 V.c
 (C.str
 (Lv.scat L (Lv.scat L (Lv.ext L s (Lv.toN L (Lv.cast L 0)) (Lv.toN L (Prod.fst x))) (Prod.snd (Prod.snd x)))
 (Lv.ext L s (Lv.toN L (Prod.fst (Prod.snd x))) (Lv.toN L (Lv.cast L (Lv.slen L s))))))),
 (11,
 V.c
 (C.sl Lt
 (Prod.fst
 (LexF.rScan F
 (Lv.scat L (Lv.scat L (Lv.ext L s (Lv.toN L (Lv.cast L 0)) (Lv.toN L (Prod.fst x))) (Prod.snd (Prod.snd x)))
 (Lv.ext L s (Lv.toN L (Prod.fst (Prod.snd x))) (Lv.toN L (Lv.cast L (Lv.slen L s))))))))),
 (12, V.c (C.ptr 3 0))]
 [(0, Ob.amb),
 (1, Ob.box 35 [C.int IntKind.i64 (Prod.fst x), C.int IntKind.i64 (Prod.fst (Prod.snd x)), C.str (Prod.snd (Prod.snd x))]),
 (2, Ob.box 40 [C.int IntKind.i64 0, C.int IntKind.i64 0, C.nils]),
 (3,
 Ob.box 40 [C.int IntKind.i64 (Prod.fst x_1), C.int IntKind.i64 (Lv.ar L BinOp.add IntKind.i64 (Prod.fst x_2) 1), C.nils])]
 4 =
 St.mk 174
 [(0, V.c (C.str s)), (3, V.c (C.ptr 1 0)), (4, V.c (C.ptr 2 0)),
 (7, V.c (C.sl Lt (Prod.fst (LexF.rScan F s)))),
 (10,
 V.c
 (C.str
 (Lv.scat L (Lv.scat L (Lv.ext L s (Lv.toN L (Lv.cast L 0)) (Lv.toN L (Prod.fst x))) (Prod.snd (Prod.snd x)))
 (Lv.ext L s (Lv.toN L (Prod.fst (Prod.snd x))) (Lv.toN L (Lv.cast L (Lv.slen L s))))))),
 (11,
 V.c
 (C.sl Lt
 (Prod.fst
 (LexF.rScan F
 (Lv.scat L (Lv.scat L (Lv.ext L s (Lv.toN L (Lv.cast L 0)) (Lv.toN L (Prod.fst x))) (Prod.snd (Prod.snd x)))
 (Lv.ext L s (Lv.toN L (Prod.fst (Prod.snd x))) (Lv.toN L (Lv.cast L (Lv.slen L s))))))))),
 (12, V.c (C.ptr 3 0))]
 [(0, Ob.amb),
 (1, Ob.box 35 [C.int IntKind.i64 (Prod.fst x), C.int IntKind.i64 (Prod.fst (Prod.snd x)), C.str (Prod.snd (Prod.snd x))]),
 (2, Ob.box 40 [C.int IntKind.i64 0, C.int IntKind.i64 0, C.nils]),
 (3,
 Ob.box 40 [C.int IntKind.i64 (Prod.fst x_1), C.int IntKind.i64 (Lv.ar L BinOp.add IntKind.i64 (Prod.fst x_2) 1), C.nils])]
 4 ∧
 J (Lv.ar L BinOp.add IntKind.i64 (Prod.fst x_2) 1, ()) ∧
 nu (Lv.ar L BinOp.add IntKind.i64 (Prod.fst x_2) 1, ()) < nu x_2))))))))
 (VC.obl
 (Lv.le3 L (Prod.fst x_1)
 (Lv.ar L BinOp.sub IntKind.i64
 (Lv.cast L
 (Lv.llen L Lt
 (Prod.fst
 (LexF.rScan F
 (Lv.scat L (Lv.scat L (Lv.ext L s (Lv.toN L (Lv.cast L 0)) (Lv.toN L (Prod.fst x))) (Prod.snd (Prod.snd x)))
 (Lv.ext L s (Lv.toN L (Prod.fst (Prod.snd x))) (Lv.toN L (Lv.cast L (Lv.slen L s)))))))))
 (Prod.fst x_2))
 (Lv.llen L Lt
 (Prod.fst
 (LexF.rScan F
 (Lv.scat L (Lv.scat L (Lv.ext L s (Lv.toN L (Lv.cast L 0)) (Lv.toN L (Prod.fst x))) (Prod.snd (Prod.snd x)))
 (Lv.ext L s (Lv.toN L (Prod.fst (Prod.snd x))) (Lv.toN L (Lv.cast L (Lv.slen L s)))))))))
 (VC.obl
 (Lv.room L
 (Lv.add L (Lv.llen L Lt [])
 (Lv.llen L Lt
 (Lv.drop L Lt
 (Lv.take L Lt
 (Prod.fst
 (LexF.rScan F
 (Lv.scat L (Lv.scat L (Lv.ext L s (Lv.toN L (Lv.cast L 0)) (Lv.toN L (Prod.fst x))) (Prod.snd (Prod.snd x)))
 (Lv.ext L s (Lv.toN L (Prod.fst (Prod.snd x))) (Lv.toN L (Lv.cast L (Lv.slen L s)))))))
 (Lv.toN L
 (Lv.ar L BinOp.sub IntKind.i64
 (Lv.cast L
 (Lv.llen L Lt
 (Prod.fst
 (LexF.rScan F
 (Lv.scat L (Lv.scat L (Lv.ext L s (Lv.toN L (Lv.cast L 0)) (Lv.toN L (Prod.fst x))) (Prod.snd (Prod.snd x)))
 (Lv.ext L s (Lv.toN L (Prod.fst (Prod.snd x))) (Lv.toN L (Lv.cast L (Lv.slen L s)))))))))
 (Prod.fst x_2))))
 (Lv.toN L (Prod.fst x_1)))))
 32)
 (VC.ok
 (((Prod.fst x_1, Prod.fst x_2,
 Lv.take L Lt
 (Lv.app L Lt []
 (Lv.drop L Lt
 (Lv.take L Lt
 (Prod.fst
 (LexF.rScan F
 (Lv.scat L (Lv.scat L (Lv.ext L s (Lv.toN L (Lv.cast L 0)) (Lv.toN L (Prod.fst x))) (Prod.snd (Prod.snd x)))
 (Lv.ext L s (Lv.toN L (Prod.fst (Prod.snd x))) (Lv.toN L (Lv.cast L (Lv.slen L s)))))))
 (Lv.toN L
 (Lv.ar L BinOp.sub IntKind.i64
 (Lv.cast L
 (Lv.llen L Lt
 (Prod.fst
 (LexF.rScan F
 (Lv.scat L (Lv.scat L (Lv.ext L s (Lv.toN L (Lv.cast L 0)) (Lv.toN L (Prod.fst x))) (Prod.snd (Prod.snd x)))
 (Lv.ext L s (Lv.toN L (Prod.fst (Prod.snd x))) (Lv.toN L (Lv.cast L (Lv.slen L s)))))))))
 (Prod.fst x_2))))
 (Lv.toN L (Prod.fst x_1))))
 (Lv.add L (Lv.llen L Lt [])
 (Lv.llen L Lt
 (Lv.drop L Lt
 (Lv.take L Lt
 (Prod.fst
 (LexF.rScan F
 (Lv.scat L (Lv.scat L (Lv.ext L s (Lv.toN L (Lv.cast L 0)) (Lv.toN L (Prod.fst x))) (Prod.snd (Prod.snd x)))
 (Lv.ext L s (Lv.toN L (Prod.fst (Prod.snd x))) (Lv.toN L (Lv.cast L (Lv.slen L s)))))))
 (Lv.toN L
 (Lv.ar L BinOp.sub IntKind.i64
 (Lv.cast L
 (Lv.llen L Lt
 (Prod.fst
 (LexF.rScan F
 (Lv.scat L (Lv.scat L (Lv.ext L s (Lv.toN L (Lv.cast L 0)) (Lv.toN L (Prod.fst x))) (Prod.snd (Prod.snd x)))
 (Lv.ext L s (Lv.toN L (Prod.fst (Prod.snd x))) (Lv.toN L (Lv.cast L (Lv.slen L s)))))))))
 (Prod.fst x_2))))
 (Lv.toN L (Prod.fst x_1)))))),
 0, 0, ()) =
 (Prod.fst (LexF.rRescan F s x), Prod.fst (Prod.snd (LexF.rRescan F s x)), Prod.snd (Prod.snd (LexF.rRescan F s x)), ()))))))
 (VC.obl
 (Lv.le3 L (Prod.fst x_1)
 (Lv.ar L BinOp.sub IntKind.i64
 (Lv.cast L
 (Lv.llen L Lt
 (Prod.fst
 (LexF.rScan F
 (Lv.scat L (Lv.scat L (Lv.ext L s (Lv.toN L (Lv.cast L 0)) (Lv.toN L (Prod.fst x))) (Prod.snd (Prod.snd x)))
 (Lv.ext L s (Lv.toN L (Prod.fst (Prod.snd x))) (Lv.toN L (Lv.cast L (Lv.slen L s)))))))))
 (Prod.fst x_2))
 (Lv.llen L Lt
 (Prod.fst
 (LexF.rScan F
 (Lv.scat L (Lv.scat L (Lv.ext L s (Lv.toN L (Lv.cast L 0)) (Lv.toN L (Prod.fst x))) (Prod.snd (Prod.snd x)))
 (Lv.ext L s (Lv.toN L (Prod.fst (Prod.snd x))) (Lv.toN L (Lv.cast L (Lv.slen L s)))))))))
 (VC.obl
 (Lv.room L
 (Lv.add L (Lv.llen L Lt [])
 (Lv.llen L Lt
 (Lv.drop L Lt
 (Lv.take L Lt
 (Prod.fst
 (LexF.rScan F
 (Lv.scat L (Lv.scat L (Lv.ext L s (Lv.toN L (Lv.cast L 0)) (Lv.toN L (Prod.fst x))) (Prod.snd (Prod.snd x)))
 (Lv.ext L s (Lv.toN L (Prod.fst (Prod.snd x))) (Lv.toN L (Lv.cast L (Lv.slen L s)))))))
 (Lv.toN L
 (Lv.ar L BinOp.sub IntKind.i64
 (Lv.cast L
 (Lv.llen L Lt
 (Prod.fst
 (LexF.rScan F
 (Lv.scat L (Lv.scat L (Lv.ext L s (Lv.toN L (Lv.cast L 0)) (Lv.toN L (Prod.fst x))) (Prod.snd (Prod.snd x)))
 (Lv.ext L s (Lv.toN L (Prod.fst (Prod.snd x))) (Lv.toN L (Lv.cast L (Lv.slen L s)))))))))
 (Prod.fst x_2))))
 (Lv.toN L (Prod.fst x_1)))))
 32)
 (VC.ok
 (((Prod.fst x_1, Prod.fst x_2,
 Lv.take L Lt
 (Lv.app L Lt []
 (Lv.drop L Lt
 (Lv.take L Lt
 (Prod.fst
 (LexF.rScan F
 (Lv.scat L (Lv.scat L (Lv.ext L s (Lv.toN L (Lv.cast L 0)) (Lv.toN L (Prod.fst x))) (Prod.snd (Prod.snd x)))
 (Lv.ext L s (Lv.toN L (Prod.fst (Prod.snd x))) (Lv.toN L (Lv.cast L (Lv.slen L s)))))))
 (Lv.toN L
 (Lv.ar L BinOp.sub IntKind.i64
 (Lv.cast L
 (Lv.llen L Lt
 (Prod.fst
 (LexF.rScan F
 (Lv.scat L (Lv.scat L (Lv.ext L s (Lv.toN L (Lv.cast L 0)) (Lv.toN L (Prod.fst x))) (Prod.snd (Prod.snd x)))
 (Lv.ext L s (Lv.toN L (Prod.fst (Prod.snd x))) (Lv.toN L (Lv.cast L (Lv.slen L s)))))))))
 (Prod.fst x_2))))
 (Lv.toN L (Prod.fst x_1))))
 (Lv.add L (Lv.llen L Lt [])
 (Lv.llen L Lt
 (Lv.drop L Lt
 (Lv.take L Lt
 (Prod.fst
 (LexF.rScan F
 (Lv.scat L (Lv.scat L (Lv.ext L s (Lv.toN L (Lv.cast L 0)) (Lv.toN L (Prod.fst x))) (Prod.snd (Prod.snd x)))
 (Lv.ext L s (Lv.toN L (Prod.fst (Prod.snd x))) (Lv.toN L (Lv.cast L (Lv.slen L s)))))))
 (Lv.toN L
 (Lv.ar L BinOp.sub IntKind.i64
 (Lv.cast L
 (Lv.llen L Lt
 (Prod.fst
 (LexF.rScan F
 (Lv.scat L (Lv.scat L (Lv.ext L s (Lv.toN L (Lv.cast L 0)) (Lv.toN L (Prod.fst x))) (Prod.snd (Prod.snd x)))
 (Lv.ext L s (Lv.toN L (Prod.fst (Prod.snd x))) (Lv.toN L (Lv.cast L (Lv.slen L s)))))))))
 (Prod.fst x_2))))
 (Lv.toN L (Prod.fst x_1)))))),
 0, 0, ()) =
 (Prod.fst (LexF.rRescan F s x), Prod.fst (Prod.snd (LexF.rRescan F s x)), Prod.snd (Prod.snd (LexF.rRescan F s x)), ()))))))))))))
 (VC.obl
 (St.mk 174
 [(0, V.c (C.str s)), (3, V.c (C.ptr 1 0)), (4, V.c (C.ptr 2 0)),
 (7, V.c (C.sl Lt (Prod.fst (LexF.rScan F s)))),
 (10,
 V.c
 (C.str
 (Lv.scat L (Lv.scat L (Lv.ext L s (Lv.toN L (Lv.cast L 0)) (Lv.toN L (Prod.fst x))) (Prod.snd (Prod.snd x)))
 (Lv.ext L s (Lv.toN L (Prod.fst (Prod.snd x))) (Lv.toN L (Lv.cast L (Lv.slen L s))))))),
 (11,
 V.c
 (C.sl Lt
 (Prod.fst
 (LexF.rScan F
 (Lv.scat L (Lv.scat L (Lv.ext L s (Lv.toN L (Lv.cast L 0)) (Lv.toN L (Prod.fst x))) (Prod.snd (Prod.snd x)))
 (Lv.ext L s (Lv.toN L (Prod.fst (Prod.snd x))) (Lv.toN L (Lv.cast L (Lv.slen L s))))))))),
 (12, V.c (C.ptr 3 0))]
 [(0, Ob.amb), (1, Ob.box 35 [C.int IntKind.i64 (Prod.fst x), C.int IntKind.i64 (Prod.fst (Prod.snd x)), C.str (Prod.snd (Prod.snd x))]),
 (2, Ob.box 40 [C.int IntKind.i64 0, C.int IntKind.i64 0, C.nils]), (3, Ob.box 40 [C.int IntKind.i64 (Prod.fst x_1), C.int IntKind.i64 0, C.nils])]
 4 =
 St.mk 174
 [(0, V.c (C.str s)), (3, V.c (C.ptr 1 0)), (4, V.c (C.ptr 2 0)),
 (7, V.c (C.sl Lt (Prod.fst (LexF.rScan F s)))),
 (10,
 V.c
 (C.str
 (Lv.scat L (Lv.scat L (Lv.ext L s (Lv.toN L (Lv.cast L 0)) (Lv.toN L (Prod.fst x))) (Prod.snd (Prod.snd x)))
 (Lv.ext L s (Lv.toN L (Prod.fst (Prod.snd x))) (Lv.toN L (Lv.cast L (Lv.slen L s))))))),
 (11,
 V.c
 (C.sl Lt
 (Prod.fst
 (LexF.rScan F
 (Lv.scat L (Lv.scat L (Lv.ext L s (Lv.toN L (Lv.cast L 0)) (Lv.toN L (Prod.fst x))) (Prod.snd (Prod.snd x)))
 (Lv.ext L s (Lv.toN L (Prod.fst (Prod.snd x))) (Lv.toN L (Lv.cast L (Lv.slen L s))))))))),
 (12, V.c (C.ptr 3 0))]
 [(0, Ob.amb), (1, Ob.box 35 [C.int IntKind.i64 (Prod.fst x), C.int IntKind.i64 (Prod.fst (Prod.snd x)), C.str (Prod.snd (Prod.snd x))]),
 (2, Ob.box 40 [C.int IntKind.i64 0, C.int IntKind.i64 0, C.nils]), (3, Ob.box 40 [C.int IntKind.i64 (Prod.fst x_1), C.int IntKind.i64 0, C.nils])]
 4)
 (VC.obl (J (0, ()))
 (VC.all (Int × Unit) fun (x_2 : Int × Unit) =>
 VC.imp (J x_2)
 (VC.br
 (Lv.cmp L BinOp.lss (Prod.fst x_2)
 (Lv.cast L (Lv.llen L Lt (Prod.fst (LexF.rScan F s)))))
 (VC.br
 (Lv.cmp L BinOp.lss (Prod.fst x_2)
 (Lv.cast L
 (Lv.llen L Lt
 (Prod.fst
 (LexF.rScan F
 (Lv.scat L (Lv.scat L (Lv.ext L s (Lv.toN L (Lv.cast L 0)) (Lv.toN L (Prod.fst x))) (Prod.snd (Prod.snd x)))
 (Lv.ext L s (Lv.toN L (Prod.fst (Prod.snd x))) (Lv.toN L (Lv.cast L (Lv.slen L s))))))))))
 (VC.obl
 (Lv.inR L
 (Lv.ar L BinOp.sub IntKind.i64
 (Lv.ar L BinOp.sub IntKind.i64
 (Lv.cast L (Lv.llen L Lt (Prod.fst (LexF.rScan F s)))) 1)
 (Prod.fst x_2))
 (Lv.llen L Lt (Prod.fst (LexF.rScan F s))))
 (VC.obl
 (Lv.inR L
 (Lv.ar L BinOp.sub IntKind.i64
 (Lv.ar L BinOp.sub IntKind.i64
 (Lv.cast L
 (Lv.llen L Lt
 (Prod.fst
 (LexF.rScan F
 (Lv.scat L (Lv.scat L (Lv.ext L s (Lv.toN L (Lv.cast L 0)) (Lv.toN L (Prod.fst x))) (Prod.snd (Prod.snd x)))
 (Lv.ext L s (Lv.toN L (Prod.fst (Prod.snd x))) (Lv.toN L (Lv.cast L (Lv.slen L s)))))))))
 1)
 (Prod.fst x_2))
 (Lv.llen L Lt
 (Prod.fst
 (LexF.rScan F
 (Lv.scat L (Lv.scat L (Lv.ext L s (Lv.toN L (Lv.cast L 0)) (Lv.toN L (Prod.fst x))) (Prod.snd (Prod.snd x)))
 (Lv.ext L s (Lv.toN L (Prod.fst (Prod.snd x))) (Lv.toN L (Lv.cast L (Lv.slen L s)))))))))
 (VC.br
 (Lv.cmp L BinOp.lss
 (Prod.snd
 (Prod.snd
 (Lv.get L Lt (Prod.fst (LexF.rScan F s))
 (Lv.toN L
 (Lv.ar L BinOp.sub IntKind.i64
 (Lv.ar L BinOp.sub IntKind.i64
 (Lv.cast L (Lv.llen L Lt (Prod.fst (LexF.rScan F s)))) 1)
 (Prod.fst x_2))))))
 (Prod.fst (Prod.snd x)))
 (VC.obl
 (Lv.le3 L (Prod.fst x_1)
 (Lv.ar L BinOp.sub IntKind.i64
 (Lv.cast L
 (Lv.llen L Lt
 (Prod.fst
 (LexF.rScan F
 (Lv.scat L (Lv.scat L (Lv.ext L s (Lv.toN L (Lv.cast L 0)) (Lv.toN L (Prod.fst x))) (Prod.snd (Prod.snd x)))
 (Lv.ext L s (Lv.toN L (Prod.fst (Prod.snd x))) (Lv.toN L (Lv.cast L (Lv.slen L s)))))))))
 (Prod.fst x_2))
 (Lv.llen L Lt
 (Prod.fst
 (LexF.rScan F
 (Lv.scat L (Lv.scat L (Lv.ext L s (Lv.toN L (Lv.cast L 0)) (Lv.toN L (Prod.fst x))) (Prod.snd (Prod.snd x)))
 (Lv.ext L s (Lv.toN L (Prod.fst (Prod.snd x))) (Lv.toN L (Lv.cast L (Lv.slen L s)))))))))
 (VC.obl
 (Lv.room L
 (Lv.add L (Lv.llen L Lt [])
 (Lv.llen L Lt
 (Lv.drop L Lt
 (Lv.take L Lt
 (Prod.fst
 (LexF.rScan F
 (Lv.scat L (Lv.scat L (Lv.ext L s (Lv.toN L (Lv.cast L 0)) (Lv.toN L (Prod.fst x))) (Prod.snd (Prod.snd x)))
 (Lv.ext L s (Lv.toN L (Prod.fst (Prod.snd x))) (Lv.toN L (Lv.cast L (Lv.slen L s)))))))
 (Lv.toN L
 (Lv.ar L BinOp.sub IntKind.i64
 (Lv.cast L
 (Lv.llen L Lt
 (Prod.fst
 (LexF.rScan F
 (Lv.scat L (Lv.scat L (Lv.ext L s (Lv.toN L (Lv.cast L 0)) (Lv.toN L (Prod.fst x))) (Prod.snd (Prod.snd x)))
 (Lv.ext L s (Lv.toN L (Prod.fst (Prod.snd x))) (Lv.toN L (Lv.cast L (Lv.slen L s)))))))))
 (Prod.fst x_2))))
 (Lv.toN L (Prod.fst x_1)))))
 32)
 (VC.ok
 (((Prod.fst x_1, Prod.fst x_2,
 Lv.take L Lt
 (Lv.app L Lt []
 (Lv.drop L Lt
 (Lv.take L Lt
 (Prod.fst
 (LexF.rScan F
 (Lv.scat L (Lv.scat L (Lv.ext L s (Lv.toN L (Lv.cast L 0)) (Lv.toN L (Prod.fst x))) (Prod.snd (Prod.snd x)))
 (Lv.ext L s (Lv.toN L (Prod.fst (Prod.snd x))) (Lv.toN L (Lv.cast L (Lv.slen L s)))))))
 (Lv.toN L
 (Lv.ar L BinOp.sub IntKind.i64
 (Lv.cast L
 (Lv.llen L Lt
 (Prod.fst
 (LexF.rScan F
 (Lv.scat L (Lv.scat L (Lv.ext L s (Lv.toN L (Lv.cast L 0)) (Lv.toN L (Prod.fst x))) (Prod.snd (Prod.snd x)))
 (Lv.ext L s (Lv.toN L (Prod.fst (Prod.snd x))) (Lv.toN L (Lv.cast L (Lv.slen L s)))))))))
 (Prod.fst x_2))))
 (Lv.toN L (Prod.fst x_1))))
 (Lv.add L (Lv.llen L Lt [])
 (Lv.llen L Lt
 (Lv.drop L Lt
 (Lv.take L Lt
 (Prod.fst
 (LexF.rScan F
 (Lv.scat L (Lv.scat L (Lv.ext L s (Lv.toN L (Lv.cast L 0)) (Lv.toN L (Prod.fst x))) (Prod.snd (Prod.snd x)))
 (Lv.ext L s (Lv.toN L (Prod.fst (Prod.snd x))) (Lv.toN L (Lv.cast L (Lv.slen L s)))))))
 (Lv.toN L
 (Lv.ar L BinOp.sub IntKind.i64
 (Lv.cast L
 (Lv.llen L Lt
 (Prod.fst
 (LexF.rScan F
 (Lv.scat L (Lv.scat L (Lv.ext L s (Lv.toN L (Lv.cast L 0)) (Lv.toN L (Prod.fst x))) (Prod.snd (Prod.snd x)))
 (Lv.ext L s (Lv.toN L (Prod.fst (Prod.snd x))) (Lv.toN L (Lv.cast L (Lv.slen L s)))))))))
 (Prod.fst x_2))))
 (Lv.toN L (Prod.fst x_1)))))),
 0, 0, ()) =
 (Prod.fst (LexF.rRescan F s x), Prod.fst (Prod.snd (LexF.rRescan F s x)), Prod.snd (Prod.snd (LexF.rRescan F s x)), ())))))
 (VC.br
 (Lv.cmp L BinOp.neq
 (Prod.fst
 (Lv.get L Lt (Prod.fst (LexF.rScan F s))
 (Lv.toN L
 (Lv.ar L BinOp.sub IntKind.i64
 (Lv.ar L BinOp.sub IntKind.i64
 (Lv.cast L (Lv.llen L Lt (Prod.fst (LexF.rScan F s)))) 1)
 (Prod.fst x_2)))))
 (Prod.fst
 (Lv.get L Lt
 (Prod.fst
 (LexF.rScan F
 (Lv.scat L (Lv.scat L (Lv.ext L s (Lv.toN L (Lv.cast L 0)) (Lv.toN L (Prod.fst x))) (Prod.snd (Prod.snd x)))
 (Lv.ext L s (Lv.toN L (Prod.fst (Prod.snd x))) (Lv.toN L (Lv.cast L (Lv.slen L s)))))))
 (Lv.toN L
 (Lv.ar L BinOp.sub IntKind.i64
 (Lv.ar L BinOp.sub IntKind.i64
 (Lv.cast L
 (Lv.llen L Lt
 (Prod.fst
 (LexF.rScan F
 (Lv.scat L (Lv.scat L (Lv.ext L s (Lv.toN L (Lv.cast L 0)) (Lv.toN L (Prod.fst x))) (Prod.snd (Prod.snd x)))
 (Lv.ext L s (Lv.toN L (Prod.fst (Prod.snd x))) (Lv.toN L (Lv.cast L (Lv.slen L s)))))))))
 1)
 (Prod.fst x_2))))))
 (VC.obl
 (Lv.le3 L (Prod.fst x_1)
 (Lv.ar L BinOp.sub IntKind.i64
 (Lv.cast L
 (Lv.llen L Lt
 (Prod.fst
 (LexF.rScan F
 (Lv.scat L (Lv.scat L (Lv.ext L s (Lv.toN L (Lv.cast L 0)) (Lv.toN L (Prod.fst x))) (Prod.snd (Prod.snd x)))
 (Lv.ext L s (Lv.toN L (Prod.fst (Prod.snd x))) (Lv.toN L (Lv.cast L (Lv.slen L s)))))))))
 (Prod.fst x_2))
 (Lv.llen L Lt
 (Prod.fst
 (LexF.rScan F
 (Lv.scat L (Lv.scat L (Lv.ext L s (Lv.toN L (Lv.cast L 0)) (Lv.toN L (Prod.fst x))) (Prod.snd (Prod.snd x)))
 (Lv.ext L s (Lv.toN L (Prod.fst (Prod.snd x))) (Lv.toN L (Lv.cast L (Lv.slen L s)))))))))
 (VC.obl
 (Lv.room L
 (Lv.add L (Lv.llen L Lt [])
 (Lv.llen L Lt
 (Lv.drop L Lt
 (Lv.take L Lt
 (Prod.fst
 (LexF.rScan F
 (Lv.scat L (Lv.scat L (Lv.ext L s (Lv.toN L (Lv.cast L 0)) (Lv.toN L (Prod.fst x))) (Prod.snd (Prod.snd x)))
 (Lv.ext L s (Lv.toN L (Prod.fst (Prod.snd x))) (Lv.toN L (Lv.cast L (Lv.slen L s)))))))
 (Lv.toN L
 (Lv.ar L BinOp.sub IntKind.i64
 (Lv.cast L
 (Lv.llen L Lt
 (Prod.fst
 (LexF.rScan F
 (Lv.scat L (Lv.scat L (Lv.ext L s (Lv.toN L (Lv.cast L 0)) (Lv.toN L (Prod.fst x))) (Prod.snd (Prod.snd x)))
 (Lv.ext L s (Lv.toN L (Prod.fst (Prod.snd x))) (Lv.toN L (Lv.cast L (Lv.slen L s)))))))))
 (Prod.fst x_2))))
 (Lv.toN L (Prod.fst x_1)))))
 32)
 (VC.ok
 (((Prod.fst x_1, Prod.fst x_2,
 Lv.take L Lt
 (Lv.app L Lt []
 (Lv.drop L Lt
 (Lv.take L Lt
 (Prod.fst
 (LexF.rScan F
 (Lv.scat L (Lv.scat L (Lv.ext L s (Lv.toN L (Lv.cast L 0)) (Lv.toN L (Prod.fst x))) (Prod.snd (Prod.snd x)))
 (Lv.ext L s (Lv.toN L (Prod.fst (Prod.snd x))) (Lv.toN L (Lv.cast L (Lv.slen L s)))))))
 (Lv.toN L
 (Lv.ar L BinOp.sub IntKind.i64
 (Lv.cast L
 (Lv.llen L Lt
 (Prod.fst
 (LexF.rScan F
 (Lv.scat L (Lv.scat L (Lv.ext L s (Lv.toN L (Lv.cast L 0)) (Lv.toN L (Prod.fst x))) (Prod.snd (Prod.snd x)))
 (Lv.ext L s (Lv.toN L (Prod.fst (Prod.snd x))) (Lv.toN L (Lv.cast L (Lv.slen L s)))))))))
 (Prod.fst x_2))))
 (Lv.toN L (Prod.fst x_1))))
 (Lv.add L (Lv.llen L Lt [])
 (Lv.llen L Lt
 (Lv.drop L Lt
 (Lv.take L Lt
 (Prod.fst
 (LexF.rScan F
 (Lv.scat L (Lv.scat L (Lv.ext L s (Lv.toN L (Lv.cast L 0)) (Lv.toN L (Prod.fst x))) (Prod.snd (Prod.snd x)))
 (Lv.ext L s (Lv.toN L (Prod.fst (Prod.snd x))) (Lv.toN L (Lv.cast L (Lv.slen L s)))))))
 (Lv.toN L
 (Lv.ar L BinOp.sub IntKind.i64
 (Lv.cast L
 (Lv.llen L Lt
 (Prod.fst
 (LexF.rScan F
 (Lv.scat L (Lv.scat L (Lv.ext L s (Lv.toN L (Lv.cast L 0)) (Lv.toN L (Prod.fst x))) (Prod.snd (Prod.snd x)))
 (Lv.ext L s (Lv.toN L (Prod.fst (Prod.snd x))) (Lv.toN L (Lv.cast L (Lv.slen L s)))))))))
 (Prod.fst x_2))))
 (Lv.toN L (Prod.fst x_1)))))),
 0, 0, ()) =
 (Prod.fst (LexF.rRescan F s x), Prod.fst (Prod.snd (LexF.rRescan F s x)), Prod.snd (Prod.snd (LexF.rRescan F s x)), ())))))
 (VC.br
 (Lv.scmp L BinOp.neq
 (Prod.fst
 (Prod.snd
 (Lv.get L Lt (Prod.fst (LexF.rScan F s))
 (Lv.toN L
 (Lv.ar L BinOp.sub IntKind.i64
 (Lv.ar L BinOp.sub IntKind.i64
 (Lv.cast L (Lv.llen L Lt (Prod.fst (LexF.rScan F s)))) 1)
 (Prod.fst x_2))))))
 (Prod.fst
 (Prod.snd
 (Lv.get L Lt
 (Prod.fst
 (LexF.rScan F
 (Lv.scat L (Lv.scat L (Lv.ext L s (Lv.toN L (Lv.cast L 0)) (Lv.toN L (Prod.fst x))) (Prod.snd (Prod.snd x)))
 (Lv.ext L s (Lv.toN L (Prod.fst (Prod.snd x))) (Lv.toN L (Lv.cast L (Lv.slen L s)))))))
 (Lv.toN L
 (Lv.ar L BinOp.sub IntKind.i64
 (Lv.ar L BinOp.sub IntKind.i64
 (Lv.cast L
 (Lv.llen L Lt
 (Prod.fst
 (LexF.rScan F
 (Lv.scat L (Lv.scat L (Lv.ext L s (Lv.toN L (Lv.cast L 0)) (Lv.toN L (Prod.fst x))) (Prod.snd (Prod.snd x)))
 (Lv.ext L s (Lv.toN L (Prod.fst (Prod.snd x))) (Lv.toN L (Lv.cast L (Lv.slen L s)))))))))
 1)
 (Prod.fst x_2)))))))
 (VC.obl
 (Lv.le3 L (Prod.fst x_1)
 (Lv.ar L BinOp.sub IntKind.i64
 (Lv.cast L
 (Lv.llen L Lt
 (Prod.fst
 (LexF.rScan F
 (Lv.scat L (Lv.scat L (Lv.ext L s (Lv.toN L (Lv.cast L 0)) (Lv.toN L (Prod.fst x))) (Prod.snd (Prod.snd x)))
 (Lv.ext L s (Lv.toN L (Prod.fst (Prod.snd x))) (Lv.toN L (Lv.cast L (Lv.slen L s)))))))))
 (Prod.fst x_2))
 (Lv.llen L Lt
 (Prod.fst
 (LexF.rScan F
 (Lv.scat L (Lv.scat L (Lv.ext L s (Lv.toN L (Lv.cast L 0)) (Lv.toN L (Prod.fst x))) (Prod.snd (Prod.snd x)))
 (Lv.ext L s (Lv.toN L (Prod.fst (Prod.snd x))) (Lv.toN L (Lv.cast L (Lv.slen L s)))))))))
 (VC.obl
 (Lv.room L
 (Lv.add L (Lv.llen L Lt [])
 (Lv.llen L Lt
 (Lv.drop L Lt
 (Lv.take L Lt
 (Prod.fst
 (LexF.rScan F
 (Lv.scat L (Lv.scat L (Lv.ext L s (Lv.toN L (Lv.cast L 0)) (Lv.toN L (Prod.fst x))) (Prod.snd (Prod.snd x)))
 (Lv.ext L s (Lv.toN L (Prod.fst (Prod.snd x))) (Lv.toN L (Lv.cast L (Lv.slen L s)))))))
 (Lv.toN L
 (Lv.ar L BinOp.sub IntKind.i64
 (Lv.cast L
 (Lv.llen L Lt
 (Prod.fst
 (LexF.rScan F
 (Lv.scat L (Lv.scat L (Lv.ext L s (Lv.toN L (Lv.cast L 0)) (Lv.toN L (Prod.fst x))) (Prod.snd (Prod.snd x)))
 (Lv.ext L s (Lv.toN L (Prod.fst (Prod.snd x))) (Lv.toN L (Lv.cast L (Lv.slen L s)))))))))
 (Prod.fst x_2))))
 (Lv.toN L (Prod.fst x_1)))))
 32)
 (VC.ok
 (((Prod.fst x_1, Prod.fst x_2,
 Lv.take L Lt
 (Lv.app L Lt []
 (Lv.drop L Lt
 (Lv.take L Lt
 (Prod.fst
 (LexF.rScan F
 (Lv.scat L (Lv.scat L (Lv.ext L s (Lv.toN L (Lv.cast L 0)) (Lv.toN L (Prod.fst x))) (Prod.snd (Prod.snd x)))
 (Lv.ext L s (Lv.toN L (Prod.fst (Prod.snd x))) (Lv.toN L (Lv.cast L (Lv.slen L s)))))))
 (Lv.toN L
 (Lv.ar L BinOp.sub IntKind.i64
 (Lv.cast L
 (Lv.llen L Lt
 (Prod.fst
 (LexF.rScan F
 (Lv.scat L (Lv.scat L (Lv.ext L s (Lv.toN L (Lv.cast L 0)) (Lv.toN L (Prod.fst x))) (Prod.snd (Prod.snd x)))
 (Lv.ext L s (Lv.toN L (Prod.fst (Prod.snd x))) (Lv.toN L (Lv.cast L (Lv.slen L s)))))))))
 (Prod.fst x_2))))
 (Lv.toN L (Prod.fst x_1))))
 (Lv.add L (Lv.llen L Lt [])
 (Lv.llen L Lt
 (Lv.drop L Lt
 (Lv.take L Lt
 (Prod.fst
 (LexF.rScan F
 (Lv.scat L (Lv.scat L (Lv.ext L s (Lv.toN L (Lv.cast L 0)) (Lv.toN L (Prod.fst x))) (Prod.snd (Prod.snd x)))
 (Lv.ext L s (Lv.toN L (Prod.fst (Prod.snd x))) (Lv.toN L (Lv.cast L (Lv.slen L s)))))))
 (Lv.toN L
 (Lv.ar L BinOp.sub IntKind.i64
 (Lv.cast L
 (Lv.llen L Lt
 (Prod.fst
 (LexF.rScan F
 (Lv.scat L (Lv.scat L (Lv.ext L s (Lv.toN L (Lv.cast L 0)) (Lv.toN L (Prod.fst x))) (Prod.snd (Prod.snd x)))
 (Lv.ext L s (Lv.toN L (Prod.fst (Prod.snd x))) (Lv.toN L (Lv.cast L (Lv.slen L s)))))))))
 (Prod.fst x_2))))
 (Lv.toN L (Prod.fst x_1)))))),
 0, 0, ()) =
 (Prod.fst (LexF.rRescan F s x), Prod.fst (Prod.snd (LexF.rRescan F s x)), Prod.snd (Prod.snd (LexF.rRescan F s x)), ())))))
 (VC.br
 (Lv.cmp L BinOp.neq
 (Lv.ar L BinOp.sub IntKind.i64
 (Prod.snd
 (Prod.snd
 (Lv.get L Lt
 (Prod.fst
 (LexF.rScan F
 (Lv.scat L (Lv.scat L (Lv.ext L s (Lv.toN L (Lv.cast L 0)) (Lv.toN L (Prod.fst x))) (Prod.snd (Prod.snd x)))
 (Lv.ext L s (Lv.toN L (Prod.fst (Prod.snd x))) (Lv.toN L (Lv.cast L (Lv.slen L s)))))))
 (Lv.toN L
 (Lv.ar L BinOp.sub IntKind.i64
 (Lv.ar L BinOp.sub IntKind.i64
 (Lv.cast L
 (Lv.llen L Lt
 (Prod.fst
 (LexF.rScan F
 (Lv.scat L (Lv.scat L (Lv.ext L s (Lv.toN L (Lv.cast L 0)) (Lv.toN L (Prod.fst x))) (Prod.snd (Prod.snd x)))
 (Lv.ext L s (Lv.toN L (Prod.fst (Prod.snd x))) (Lv.toN L (Lv.cast L (Lv.slen L s)))))))))
 1)
 (Prod.fst x_2))))))
 (Prod.snd
 (Prod.snd
 (Lv.get L Lt (Prod.fst (LexF.rScan F s))
 (Lv.toN L
 (Lv.ar L BinOp.sub IntKind.i64
 (Lv.ar L BinOp.sub IntKind.i64
 (Lv.cast L (Lv.llen L Lt (Prod.fst (LexF.rScan F s)))) 1)
 (Prod.fst x_2)))))))
 (Lv.ar L BinOp.sub IntKind.i64
 (Lv.cast L
 (Lv.slen L
 (Lv.scat L (Lv.scat L (Lv.ext L s (Lv.toN L (Lv.cast L 0)) (Lv.toN L (Prod.fst x))) (Prod.snd (Prod.snd x)))
 (Lv.ext L s (Lv.toN L (Prod.fst (Prod.snd x))) (Lv.toN L (Lv.cast L (Lv.slen L s)))))))
 (Lv.cast L (Lv.slen L s))))
 (VC.obl
 (Lv.le3 L (Prod.fst x_1)
 (Lv.ar L BinOp.sub IntKind.i64
 (Lv.cast L
 (Lv.llen L Lt
 (Prod.fst
 (LexF.rScan F
 (Lv.scat L (Lv.scat L (Lv.ext L s (Lv.toN L (Lv.cast L 0)) (Lv.toN L (Prod.fst x))) (Prod.snd (Prod.snd x)))
 (Lv.ext L s (Lv.toN L (Prod.fst (Prod.snd x))) (Lv.toN L (Lv.cast L (Lv.slen L s)))))))))
 (Prod.fst x_2))
 (Lv.llen L Lt
 (Prod.fst
 (LexF.rScan F
 (Lv.scat L (Lv.scat L (Lv.ext L s (Lv.toN L (Lv.cast L 0)) (Lv.toN L (Prod.fst x))) (Prod.snd (Prod.snd x)))
 (Lv.ext L s (Lv.toN L (Prod.fst (Prod.snd x))) (Lv.toN L (Lv.cast L (Lv.slen L s)))))))))
 (VC.obl
 (Lv.room L
 (Lv.add L (Lv.llen L Lt [])
 (Lv.llen L Lt
 (Lv.drop L Lt
 (Lv.take L Lt
 (Prod.fst
 (LexF.rScan F
 (Lv.scat L (Lv.scat L (Lv.ext L s (Lv.toN L (Lv.cast L 0)) (Lv.toN L (Prod.fst x))) (Prod.snd (Prod.snd x)))
 (Lv.ext L s (Lv.toN L (Prod.fst (Prod.snd x))) (Lv.toN L (Lv.cast L (Lv.slen L s)))))))
 (Lv.toN L
 (Lv.ar L BinOp.sub IntKind.i64
 (Lv.cast L
 (Lv.llen L Lt
 (Prod.fst
 (LexF.rScan F
 (Lv.scat L (Lv.scat L (Lv.ext L s (Lv.toN L (Lv.cast L 0)) (Lv.toN L (Prod.fst x))) (Prod.snd (Prod.snd x)))
 (Lv.ext L s (Lv.toN L (Prod.fst (Prod.snd x))) (Lv.toN L (Lv.cast L (Lv.slen L s)))))))))
 (Prod.fst x_2))))
 (Lv.toN L (Prod.fst x_1)))))
 32)
 (VC.ok
 (((Prod.fst x_1, Prod.fst x_2,
 Lv.take L Lt
 (Lv.app L Lt []
 (Lv.drop L Lt
 (Lv.take L Lt
 (Prod.fst
 (LexF.rScan F
 (Lv.scat L (Lv.scat L (Lv.ext L s (Lv.toN L (Lv.cast L 0)) (Lv.toN L (Prod.fst x))) (Prod.snd (Prod.snd x)))
 (Lv.ext L s (Lv.toN L (Prod.fst (Prod.snd x))) (Lv.toN L (Lv.cast L (Lv.slen L s)))))))
 (Lv.toN L
 (Lv.ar L BinOp.sub IntKind.i64
 (Lv.cast L
 (Lv.llen L Lt
 (Prod.fst
 (LexF.rScan F
 (Lv.scat L (Lv.scat L (Lv.ext L s (Lv.toN L (Lv.cast L 0)) (Lv.toN L (Prod.fst x))) (Prod.snd (Prod.snd x)))
 (Lv.ext L s (Lv.toN L (Prod.fst (Prod.snd x))) (Lv.toN L (Lv.cast L (Lv.slen L s)))))))))
 (Prod.fst x_2))))
 (Lv.toN L (Prod.fst x_1))))
 (Lv.add L (Lv.llen L Lt [])
 (Lv.llen L Lt
 (Lv.drop L Lt
 (Lv.take L Lt
 (Prod.fst
 (LexF.rScan F
 (Lv.scat L (Lv.scat L (Lv.ext L s (Lv.toN L (Lv.cast L 0)) (Lv.toN L (Prod.fst x))) (Prod.snd (Prod.snd x)))
 (Lv.ext L s (Lv.toN L (Prod.fst (Prod.snd x))) (Lv.toN L (Lv.cast L (Lv.slen L s)))))))
 (Lv.toN L
 (Lv.ar L BinOp.sub IntKind.i64
 (Lv.cast L
 (Lv.llen L Lt
 (Prod.fst
 (LexF.rScan F
 (Lv.scat L
 (Lv.scat L (Lv.ext L s (Lv.toN L (Lv.cast L 0)) (Lv.toN L (Prod.fst x))) (Prod.snd (Prod.snd x)))
 (Lv.ext L s (Lv.toN L (Prod.fst (Prod.snd x))) (Lv.toN L (Lv.cast L (Lv.slen L s)))))))))
 (Prod.fst x_2))))
 (Lv.toN L (Prod.fst x_1)))))),
 0, 0, ()) =
 (Prod.fst (LexF.rRescan F s x), Prod.fst (Prod.snd (LexF.rRescan F s x)), Prod.snd (Prod.snd (LexF.rRescan F s x)), ())))))
 (VC.ok
 (St.mk 174
 [(0, V.c (C.str s)), (3, V.c (C.ptr 1 0)), (4, V.c (C.ptr 2 0)),
 (7, V.c (C.sl Lt (Prod.fst (LexF.rScan F s)))),
 (10,
 V.c
 (C.str
 (Lv.scat L (Lv.scat L (Lv.ext L s (Lv.toN L (Lv.cast L 0)) (Lv.toN L (Prod.fst x))) (Prod.snd (Prod.snd x)))
 (Lv.ext L s (Lv.toN L (Prod.fst (Prod.snd x))) (Lv.toN L (Lv.cast L (Lv.slen L s))))))),
 (11,
 V.c
 (C.sl Lt
 (Prod.fst
 (LexF.rScan F
 (Lv.scat L (Lv.scat L (Lv.ext L s (Lv.toN L (Lv.cast L 0)) (Lv.toN L (Prod.fst x))) (Prod.snd (Prod.snd x)))
 (Lv.ext L s (Lv.toN L (Prod.fst (Prod.snd x))) (Lv.toN L (Lv.cast L (Lv.slen L s))))))))),
 (12, V.c (C.ptr 3 0))]
 [(0, Ob.amb),
 (1, Ob.box 35 [C.int IntKind.i64 (Prod.fst x), C.int IntKind.i64 (Prod.fst (Prod.snd x)), C.str (Prod.snd (Prod.snd x))]),
 (2, Ob.box 40 [C.int IntKind.i64 0, C.int IntKind.i64 0, C.nils]),
 (3, Ob.box 40 [C.int IntKind.i64 (Prod.fst x_1), C.int IntKind.i64 (Lv.ar L BinOp.add IntKind.i64 (Prod.fst x_2) 1), C.nils])]
 4 =
 St.mk 174
 [(0, V.c (C.str s)), (3, V.c (C.ptr 1 0)), (4, V.c (C.ptr 2 0)),
 (7, V.c (C.sl Lt (Prod.fst (LexF.rScan F s)))),
 (10,
 V.c
 (C.str
 (Lv.scat L (Lv.scat L (Lv.ext L s (Lv.toN L (Lv.cast L 0)) (Lv.toN L (Prod.fst x))) (Prod.snd (Prod.snd x)))
 (Lv.ext L s (Lv.toN L (Prod.fst (Prod.snd x))) (Lv.toN L (Lv.cast L (Lv.slen L s))))))),
 (11,
 V.c
 (C.sl Lt
 (Prod.fst
 (LexF.rScan F
 (Lv.scat L (Lv.scat L (Lv.ext L s (Lv.toN L (Lv.cast L 0)) (Lv.toN L (Prod.fst x))) (Prod.snd (Prod.snd x)))
 (Lv.ext L s (Lv.toN L (Prod.fst (Prod.snd x))) (Lv.toN L (Lv.cast L (Lv.slen L s))))))))),
 (12, V.c (C.ptr 3 0))]
 [(0, Ob.amb),
 (1, Ob.box 35 [C.int IntKind.i64 (Prod.fst x), C.int IntKind.i64 (Prod.fst (Prod.snd x)), C.str (Prod.snd (Prod.snd x))]),
 (2, Ob.box 40 [C.int IntKind.i64 0, C.int IntKind.i64 0, C.nils]),
 (3, Ob.box 40 [C.int IntKind.i64 (Prod.fst x_1), C.int IntKind.i64 (Lv.ar L BinOp.add IntKind.i64 (Prod.fst x_2) 1), C.nils])]
 4 ∧
 J (Lv.ar L BinOp.add IntKind.i64 (Prod.fst x_2) 1, ()) ∧
 nu (Lv.ar L BinOp.add IntKind.i64 (Prod.fst x_2) 1, ()) < nu x_2))))))))
 (VC.obl
 (Lv.le3 L (Prod.fst x_1)
 (Lv.ar L BinOp.sub IntKind.i64
 (Lv.cast L
 (Lv.llen L Lt
 (Prod.fst
 (LexF.rScan F
 (Lv.scat L (Lv.scat L (Lv.ext L s (Lv.toN L (Lv.cast L 0)) (Lv.toN L (Prod.fst x))) (Prod.snd (Prod.snd x)))
 (Lv.ext L s (Lv.toN L (Prod.fst (Prod.snd x))) (Lv.toN L (Lv.cast L (Lv.slen L s)))))))))
 (Prod.fst x_2))
 (Lv.llen L Lt
 (Prod.fst
 (LexF.rScan F
 (Lv.scat L (Lv.scat L (Lv.ext L s (Lv.toN L (Lv.cast L 0)) (Lv.toN L (Prod.fst x))) (Prod.snd (Prod.snd x)))
 (Lv.ext L s (Lv.toN L (Prod.fst (Prod.snd x))) (Lv.toN L (Lv.cast L (Lv.slen L s)))))))))
 (VC.obl
 (Lv.room L
 (Lv.add L (Lv.llen L Lt [])
 (Lv.llen L Lt
 (Lv.drop L Lt
 (Lv.take L Lt
 (Prod.fst
 (LexF.rScan F
 (Lv.scat L (Lv.scat L (Lv.ext L s (Lv.toN L (Lv.cast L 0)) (Lv.toN L (Prod.fst x))) (Prod.snd (Prod.snd x)))
 (Lv.ext L s (Lv.toN L (Prod.fst (Prod.snd x))) (Lv.toN L (Lv.cast L (Lv.slen L s)))))))
 (Lv.toN L
 (Lv.ar L BinOp.sub IntKind.i64
 (Lv.cast L
 (Lv.llen L Lt
 (Prod.fst
 (LexF.rScan F
 (Lv.scat L (Lv.scat L (Lv.ext L s (Lv.toN L (Lv.cast L 0)) (Lv.toN L (Prod.fst x))) (Prod.snd (Prod.snd x)))
 (Lv.ext L s (Lv.toN L (Prod.fst (Prod.snd x))) (Lv.toN L (Lv.cast L (Lv.slen L s)))))))))
 (Prod.fst x_2))))
 (Lv.toN L (Prod.fst x_1)))))
 32)
 (VC.ok
 (((Prod.fst x_1, Prod.fst x_2,
 Lv.take L Lt
 (Lv.app L Lt []
 (Lv.drop L Lt
 (Lv.take L Lt
 (Prod.fst
 (LexF.rScan F
 (Lv.scat L (Lv.scat L (Lv.ext L s (Lv.toN L (Lv.cast L 0)) (Lv.toN L (Prod.fst x))) (Prod.snd (Prod.snd x)))
 (Lv.ext L s (Lv.toN L (Prod.fst (Prod.snd x))) (Lv.toN L (Lv.cast L (Lv.slen L s)))))))
 (Lv.toN L
 (Lv.ar L BinOp.sub IntKind.i64
 (Lv.cast L
 (Lv.llen L Lt
 (Prod.fst
 (LexF.rScan F
 (Lv.scat L (Lv.scat L (Lv.ext L s (Lv.toN L (Lv.cast L 0)) (Lv.toN L (Prod.fst x))) (Prod.snd (Prod.snd x)))
 (Lv.ext L s (Lv.toN L (Prod.fst (Prod.snd x))) (Lv.toN L (Lv.cast L (Lv.slen L s)))))))))
 (Prod.fst x_2))))
 (Lv.toN L (Prod.fst x_1))))
 (Lv.add L (Lv.llen L Lt [])
 (Lv.llen L Lt
 (Lv.drop L Lt
 (Lv.take L Lt
 (Prod.fst
 (LexF.rScan F
 (Lv.scat L (Lv.scat L (Lv.ext L s (Lv.toN L (Lv.cast L 0)) (Lv.toN L (Prod.fst x))) (Prod.snd (Prod.snd x)))
 (Lv.ext L s (Lv.toN L (Prod.fst (Prod.snd x))) (Lv.toN L (Lv.cast L (Lv.slen L s)))))))
 (Lv.toN L
 (Lv.ar L BinOp.sub IntKind.i64
 (Lv.cast L
 (Lv.llen L Lt
 (Prod.fst
 (LexF.rScan F
 (Lv.scat L (Lv.scat L (Lv.ext L s (Lv.toN L (Lv.cast L 0)) (Lv.toN L (Prod.fst x))) (Prod.snd (Prod.snd x)))
 (Lv.ext L s (Lv.toN L (Prod.fst (Prod.snd x))) (Lv.toN L (Lv.cast L (Lv.slen L s)))))))))
 (Prod.fst x_2))))
 (Lv.toN L (Prod.fst x_1)))))),
 0, 0, ()) =
 (Prod.fst (LexF.rRescan F s x), Prod.fst (Prod.snd (LexF.rRescan F s x)), Prod.snd (Prod.snd (LexF.rRescan F s x)), ()))))))
 (VC.obl
 (Lv.le3 L (Prod.fst x_1)
 (Lv.ar L BinOp.sub IntKind.i64
 (Lv.cast L
 (Lv.llen L Lt
 (Prod.fst
 (LexF.rScan F
 (Lv.scat L (Lv.scat L (Lv.ext L s (Lv.toN L (Lv.cast L 0)) (Lv.toN L (Prod.fst x))) (Prod.snd (Prod.snd x)))
 (Lv.ext L s (Lv.toN L (Prod.fst (Prod.snd x))) (Lv.toN L (Lv.cast L (Lv.slen L s)))))))))
 (Prod.fst x_2))
 (Lv.llen L Lt
 (Prod.fst
 (LexF.rScan F
 (Lv.scat L (Lv.scat L (Lv.ext L s (Lv.toN L (Lv.cast L 0)) (Lv.toN L (Prod.fst x))) (Prod.snd (Prod.snd x)))
 (Lv.ext L s (Lv.toN L (Prod.fst (Prod.snd x))) (Lv.toN L (Lv.cast L (Lv.slen L s)))))))))
 (VC.obl
 (Lv.room L
 (Lv.add L (Lv.llen L Lt [])
 (Lv.llen L Lt
 (Lv.drop L Lt
 (Lv.take L Lt
 (Prod.fst
 (LexF.rScan F
 (Lv.scat L (Lv.scat L (Lv.ext L s (Lv.toN L (Lv.cast L 0)) (Lv.toN L (Prod.fst x))) (Prod.snd (Prod.snd x)))
 (Lv.ext L s (Lv.toN L (Prod.fst (Prod.snd x))) (Lv.toN L (Lv.cast L (Lv.slen L s)))))))
 (Lv.toN L
 (Lv.ar L BinOp.sub IntKind.i64
 (Lv.cast L
 (Lv.llen L Lt
 (Prod.fst
 (LexF.rScan F
 (Lv.scat L (Lv.scat L (Lv.ext L s (Lv.toN L (Lv.cast L 0)) (Lv.toN L (Prod.fst x))) (Prod.snd (Prod.snd x)))
 (Lv.ext L s (Lv.toN L (Prod.fst (Prod.snd x))) (Lv.toN L (Lv.cast L (Lv.slen L s)))))))))
 (Prod.fst x_2))))
 (Lv.toN L (Prod.fst x_1)))))
 32)
 (VC.ok
 (((Prod.fst x_1, Prod.fst x_2,
 Lv.take L Lt
 (Lv.app L Lt []
 (Lv.drop L Lt
 (Lv.take L Lt
 (Prod.fst
 (LexF.rScan F
 (Lv.scat L (Lv.scat L (Lv.ext L s (Lv.toN L (Lv.cast L 0)) (Lv.toN L (Prod.fst x))) (Prod.snd (Prod.snd x)))
 (Lv.ext L s (Lv.toN L (Prod.fst (Prod.snd x))) (Lv.toN L (Lv.cast L (Lv.slen L s)))))))
 (Lv.toN L
 (Lv.ar L BinOp.sub IntKind.i64
 (Lv.cast L
 (Lv.llen L Lt
 (Prod.fst
 (LexF.rScan F
 (Lv.scat L (Lv.scat L (Lv.ext L s (Lv.toN L (Lv.cast L 0)) (Lv.toN L (Prod.fst x))) (Prod.snd (Prod.snd x)))
 (Lv.ext L s (Lv.toN L (Prod.fst (Prod.snd x))) (Lv.toN L (Lv.cast L (Lv.slen L s)))))))))
 (Prod.fst x_2))))
 (Lv.toN L (Prod.fst x_1))))
 (Lv.add L (Lv.llen L Lt [])
 (Lv.llen L Lt
 (Lv.drop L Lt
 (Lv.take L Lt
 (Prod.fst
 (LexF.rScan F
 (Lv.scat L (Lv.scat L (Lv.ext L s (Lv.toN L (Lv.cast L 0)) (Lv.toN L (Prod.fst x))) (Prod.snd (Prod.snd x)))
 (Lv.ext L s (Lv.toN L (Prod.fst (Prod.snd x))) (Lv.toN L (Lv.cast L (Lv.slen L s)))))))
 (Lv.toN L
 (Lv.ar L BinOp.sub IntKind.i64
 (Lv.cast L
 (Lv.llen L Lt
 (Prod.fst
 (LexF.rScan F
 (Lv.scat L (Lv.scat L (Lv.ext L s (Lv.toN L (Lv.cast L 0)) (Lv.toN L (Prod.fst x))) (Prod.snd (Prod.snd x)))
 (Lv.ext L s (Lv.toN L (Prod.fst (Prod.snd x))) (Lv.toN L (Lv.cast L (Lv.slen L s)))))))))
 (Prod.fst x_2))))
 (Lv.toN L (Prod.fst x_1)))))),
 0, 0, ()) =
 (Prod.fst (LexF.rRescan F s x), Prod.fst (Prod.snd (LexF.rRescan F s x)), Prod.snd (Prod.snd (LexF.rRescan F s x)), ())))))))))))
 (VC.obl
 (St.mk 174
 [(0, V.c (C.str s)), (3, V.c (C.ptr 1 0)), (4, V.c (C.ptr 2 0)),
 (7, V.c (C.sl Lt (Prod.fst (LexF.rScan F s)))),
 (10,
 V.c
 (C.str
 (Lv.scat L (Lv.scat L (Lv.ext L s (Lv.toN L (Lv.cast L 0)) (Lv.toN L (Prod.fst x))) (Prod.snd (Prod.snd x)))
 (Lv.ext L s (Lv.toN L (Prod.fst (Prod.snd x))) (Lv.toN L (Lv.cast L (Lv.slen L s))))))),
 (11,
 V.c
 (C.sl Lt
 (Prod.fst
 (LexF.rScan F
 (Lv.scat L (Lv.scat L (Lv.ext L s (Lv.toN L (Lv.cast L 0)) (Lv.toN L (Prod.fst x))) (Prod.snd (Prod.snd x)))
 (Lv.ext L s (Lv.toN L (Prod.fst (Prod.snd x))) (Lv.toN L (Lv.cast L (Lv.slen L s))))))))),
 (12, V.c (C.ptr 3 0))]
 [(0, Ob.amb), (1, Ob.box 35 [C.int IntKind.i64 (Prod.fst x), C.int IntKind.i64 (Prod.fst (Prod.snd x)), C.str (Prod.snd (Prod.snd x))]),
 (2, Ob.box 40 [C.int IntKind.i64 0, C.int IntKind.i64 0, C.nils]), (3, Ob.box 40 [C.int IntKind.i64 (Prod.fst x_1), C.int IntKind.i64 0, C.nils])]
 4 =
 St.mk 174
 [(0, V.c (C.str s)), (3, V.c (C.ptr 1 0)), (4, V.c (C.ptr 2 0)),
 (7, V.c (C.sl Lt (Prod.fst (LexF.rScan F s)))),
 (10,
 V.c
 (C.str
 (Lv.scat L (Lv.scat L (Lv.ext L s (Lv.toN L (Lv.cast L 0)) (Lv.toN L (Prod.fst x))) (Prod.snd (Prod.snd x)))
 (Lv.ext L s (Lv.toN L (Prod.fst (Prod.snd x))) (Lv.toN L (Lv.cast L (Lv.slen L s))))))),
 (11,
 V.c
 (C.sl Lt
 (Prod.fst
 (LexF.rScan F
 (Lv.scat L (Lv.scat L (Lv.ext L s (Lv.toN L (Lv.cast L 0)) (Lv.toN L (Prod.fst x))) (Prod.snd (Prod.snd x)))
 (Lv.ext L s (Lv.toN L (Prod.fst (Prod.snd x))) (Lv.toN L (Lv.cast L (Lv.slen L s))))))))),
 (12, V.c (C.ptr 3 0))]
 [(0, Ob.amb), (1, Ob.box 35 [C.int IntKind.i64 (Prod.fst x), C.int IntKind.i64 (Prod.fst (Prod.snd x)), C.str (Prod.snd (Prod.snd x))]),
 (2, Ob.box 40 [C.int IntKind.i64 0, C.int IntKind.i64 0, C.nils]), (3, Ob.box 40 [C.int IntKind.i64 (Prod.fst x_1), C.int IntKind.i64 0, C.nils])]
 4)
 (VC.obl (J (0, ()))
 (VC.all (Int × Unit) fun (x_2 : Int × Unit) =>
 VC.imp (J x_2)
 (VC.br
 (Lv.cmp L BinOp.lss (Prod.fst x_2) (Lv.cast L (Lv.llen L Lt (Prod.fst (LexF.rScan F s)))))
 (VC.br
 (Lv.cmp L BinOp.lss (Prod.fst x_2)
 (Lv.cast L
 (Lv.llen L Lt
 (Prod.fst
 (LexF.rScan F
 (Lv.scat L (Lv.scat L (Lv.ext L s (Lv.toN L (Lv.cast L 0)) (Lv.toN L (Prod.fst x))) (Prod.snd (Prod.snd x)))
 (Lv.ext L s (Lv.toN L (Prod.fst (Prod.snd x))) (Lv.toN L (Lv.cast L (Lv.slen L s))))))))))
 (VC.obl
 (Lv.inR L
 (Lv.ar L BinOp.sub IntKind.i64
 (Lv.ar L BinOp.sub IntKind.i64 (Lv.cast L (Lv.llen L Lt (Prod.fst (LexF.rScan F s))))
 1)
 (Prod.fst x_2))
 (Lv.llen L Lt (Prod.fst (LexF.rScan F s))))
 (VC.obl
 (Lv.inR L
 (Lv.ar L BinOp.sub IntKind.i64
 (Lv.ar L BinOp.sub IntKind.i64
 (Lv.cast L
 (Lv.llen L Lt
 (Prod.fst
 (LexF.rScan F
 (Lv.scat L (Lv.scat L (Lv.ext L s (Lv.toN L (Lv.cast L 0)) (Lv.toN L (Prod.fst x))) (Prod.snd (Prod.snd x)))
 (Lv.ext L s (Lv.toN L (Prod.fst (Prod.snd x))) (Lv.toN L (Lv.cast L (Lv.slen L s)))))))))
 1)
 (Prod.fst x_2))
 (Lv.llen L Lt
 (Prod.fst
 (LexF.rScan F
 (Lv.scat L (Lv.scat L (Lv.ext L s (Lv.toN L (Lv.cast L 0)) (Lv.toN L (Prod.fst x))) (Prod.snd (Prod.snd x)))
 (Lv.ext L s (Lv.toN L (Prod.fst (Prod.snd x))) (Lv.toN L (Lv.cast L (Lv.slen L s)))))))))
 (VC.br
 (Lv.cmp L BinOp.lss
 (Prod.snd
 (Prod.snd
 (Lv.get L Lt (Prod.fst (LexF.rScan F s))
 (Lv.toN L
 (Lv.ar L BinOp.sub IntKind.i64
 (Lv.ar L BinOp.sub IntKind.i64
 (Lv.cast L (Lv.llen L Lt (Prod.fst (LexF.rScan F s)))) 1)
 (Prod.fst x_2))))))
 (Prod.fst (Prod.snd x)))
 (VC.obl
 (Lv.le3 L (Prod.fst x_1)
 (Lv.ar L BinOp.sub IntKind.i64
 (Lv.cast L
 (Lv.llen L Lt
 (Prod.fst
 (LexF.rScan F
 (Lv.scat L (Lv.scat L (Lv.ext L s (Lv.toN L (Lv.cast L 0)) (Lv.toN L (Prod.fst x))) (Prod.snd (Prod.snd x)))
 (Lv.ext L s (Lv.toN L (Prod.fst (Prod.snd x))) (Lv.toN L (Lv.cast L (Lv.slen L s)))))))))
 (Prod.fst x_2))
 (Lv.llen L Lt
 (Prod.fst
 (LexF.rScan F
 (Lv.scat L (Lv.scat L (Lv.ext L s (Lv.toN L (Lv.cast L 0)) (Lv.toN L (Prod.fst x))) (Prod.snd (Prod.snd x)))
 (Lv.ext L s (Lv.toN L (Prod.fst (Prod.snd x))) (Lv.toN L (Lv.cast L (Lv.slen L s)))))))))
 (VC.obl
 (Lv.room L
 (Lv.add L (Lv.llen L Lt [])
 (Lv.llen L Lt
 (Lv.drop L Lt
 (Lv.take L Lt
 (Prod.fst
 (LexF.rScan F
 (Lv.scat L (Lv.scat L (Lv.ext L s (Lv.toN L (Lv.cast L 0)) (Lv.toN L (Prod.fst x))) (Prod.snd (Prod.snd x)))
 (Lv.ext L s (Lv.toN L (Prod.fst (Prod.snd x))) (Lv.toN L (Lv.cast L (Lv.slen L s)))))))
 (Lv.toN L
 (Lv.ar L BinOp.sub IntKind.i64
 (Lv.cast L
 (Lv.llen L Lt
 (Prod.fst
 (LexF.rScan F
 (Lv.scat L (Lv.scat L (Lv.ext L s (Lv.toN L (Lv.cast L 0)) (Lv.toN L (Prod.fst x))) (Prod.snd (Prod.snd x)))
 (Lv.ext L s (Lv.toN L (Prod.fst (Prod.snd x))) (Lv.toN L (Lv.cast L (Lv.slen L s)))))))))
 (Prod.fst x_2))))
 (Lv.toN L (Prod.fst x_1)))))
 32)
 (VC.ok
 (((Prod.fst x_1, Prod.fst x_2,
 Lv.take L Lt
 (Lv.app L Lt []
 (Lv.drop L Lt
 (Lv.take L Lt
 (Prod.fst
 (LexF.rScan F
 (Lv.scat L (Lv.scat L (Lv.ext L s (Lv.toN L (Lv.cast L 0)) (Lv.toN L (Prod.fst x))) (Prod.snd (Prod.snd x)))
 (Lv.ext L s (Lv.toN L (Prod.fst (Prod.snd x))) (Lv.toN L (Lv.cast L (Lv.slen L s)))))))
 (Lv.toN L
 (Lv.ar L BinOp.sub IntKind.i64
 (Lv.cast L
 (Lv.llen L Lt
 (Prod.fst
 (LexF.rScan F
 (Lv.scat L (Lv.scat L (Lv.ext L s (Lv.toN L (Lv.cast L 0)) (Lv.toN L (Prod.fst x))) (Prod.snd (Prod.snd x)))
 (Lv.ext L s (Lv.toN L (Prod.fst (Prod.snd x))) (Lv.toN L (Lv.cast L (Lv.slen L s)))))))))
 (Prod.fst x_2))))
 (Lv.toN L (Prod.fst x_1))))
 (Lv.add L (Lv.llen L Lt [])
 (Lv.llen L Lt
 (Lv.drop L Lt
 (Lv.take L Lt
 (Prod.fst
 (LexF.rScan F
 (Lv.scat L (Lv.scat L (Lv.ext L s (Lv.toN L (Lv.cast L 0)) (Lv.toN L (Prod.fst x))) (Prod.snd (Prod.snd x)))
 (Lv.ext L s (Lv.toN L (Prod.fst (Prod.snd x))) (Lv.toN L (Lv.cast L (Lv.slen L s)))))))
 (Lv.toN L
 (Lv.ar L BinOp.sub IntKind.i64
 (Lv.cast L
 (Lv.llen L Lt
 (Prod.fst
 (LexF.rScan F
 (Lv.scat L (Lv.scat L (Lv.ext L s (Lv.toN L (Lv.cast L 0)) (Lv.toN L (Prod.fst x))) (Prod.snd (Prod.snd x)))
 (Lv.ext L s (Lv.toN L (Prod.fst (Prod.snd x))) (Lv.toN L (Lv.cast L (Lv.slen L s)))))))))
 (Prod.fst x_2))))
 (Lv.toN L (Prod.fst x_1)))))),
 0, 0, ()) =
 (Prod.fst (LexF.rRescan F s x), Prod.fst (Prod.snd (LexF.rRescan F s x)), Prod.snd (Prod.snd (LexF.rRescan F s x)), ())))))
 (VC.br
 (Lv.cmp L BinOp.neq
 (Prod.fst
 (Lv.get L Lt (Prod.fst (LexF.rScan F s))
 (Lv.toN L
 (Lv.ar L BinOp.sub IntKind.i64
 (Lv.ar L BinOp.sub IntKind.i64
 (Lv.cast L (Lv.llen L Lt (Prod.fst (LexF.rScan F s)))) 1)
 (Prod.fst x_2)))))
 (Prod.fst
 (Lv.get L Lt
 (Prod.fst
 (LexF.rScan F
 (Lv.scat L (Lv.scat L (Lv.ext L s (Lv.toN L (Lv.cast L 0)) (Lv.toN L (Prod.fst x))) (Prod.snd (Prod.snd x)))
 (Lv.ext L s (Lv.toN L (Prod.fst (Prod.snd x))) (Lv.toN L (Lv.cast L (Lv.slen L s)))))))
 (Lv.toN L
 (Lv.ar L BinOp.sub IntKind.i64
 (Lv.ar L BinOp.sub IntKind.i64
 (Lv.cast L
 (Lv.llen L Lt
 (Prod.fst
 (LexF.rScan F
 (Lv.scat L (Lv.scat L (Lv.ext L s (Lv.toN L (Lv.cast L 0)) (Lv.toN L (Prod.fst x))) (Prod.snd (Prod.snd x)))
 (Lv.ext L s (Lv.toN L (Prod.fst (Prod.snd x))) (Lv.toN L (Lv.cast L (Lv.slen L s)))))))))
 1)
 (Prod.fst x_2))))))
 (VC.obl
 (Lv.le3 L (Prod.fst x_1)
 (Lv.ar L BinOp.sub IntKind.i64
 (Lv.cast L
 (Lv.llen L Lt
 (Prod.fst
 (LexF.rScan F
 (Lv.scat L (Lv.scat L (Lv.ext L s (Lv.toN L (Lv.cast L 0)) (Lv.toN L (Prod.fst x))) (Prod.snd (Prod.snd x)))
 (Lv.ext L s (Lv.toN L (Prod.fst (Prod.snd x))) (Lv.toN L (Lv.cast L (Lv.slen L s)))))))))
 (Prod.fst x_2))
 (Lv.llen L Lt
 (Prod.fst
 (LexF.rScan F
 (Lv.scat L (Lv.scat L (Lv.ext L s (Lv.toN L (Lv.cast L 0)) (Lv.toN L (Prod.fst x))) (Prod.snd (Prod.snd x)))
 (Lv.ext L s (Lv.toN L (Prod.fst (Prod.snd x))) (Lv.toN L (Lv.cast L (Lv.slen L s)))))))))
 (VC.obl
 (Lv.room L
 (Lv.add L (Lv.llen L Lt [])
 (Lv.llen L Lt
 (Lv.drop L Lt
 (Lv.take L Lt
 (Prod.fst
 (LexF.rScan F
 (Lv.scat L (Lv.scat L (Lv.ext L s (Lv.toN L (Lv.cast L 0)) (Lv.toN L (Prod.fst x))) (Prod.snd (Prod.snd x)))
 (Lv.ext L s (Lv.toN L (Prod.fst (Prod.snd x))) (Lv.toN L (Lv.cast L (Lv.slen L s)))))))
 (Lv.toN L
 (Lv.ar L BinOp.sub IntKind.i64
 (Lv.cast L
 (Lv.llen L Lt
 (Prod.fst
 (LexF.rScan F
 (Lv.scat L (Lv.scat L (Lv.ext L s (Lv.toN L (Lv.cast L 0)) (Lv.toN L (Prod.fst x))) (Prod.snd (Prod.snd x)))
 (Lv.ext L s (Lv.toN L (Prod.fst (Prod.snd x))) (Lv.toN L (Lv.cast L (Lv.slen L s)))))))))
 (Prod.fst x_2))))
 (Lv.toN L (Prod.fst x_1)))))
 32)
 (VC.ok
 (((Prod.fst x_1, Prod.fst x_2,
 Lv.take L Lt
 (Lv.app L Lt []
 (Lv.drop L Lt
 (Lv.take L Lt
 (Prod.fst
 (LexF.rScan F
 (Lv.scat L (Lv.scat L (Lv.ext L s (Lv.toN L (Lv.cast L 0)) (Lv.toN L (Prod.fst x))) (Prod.snd (Prod.snd x)))
 (Lv.ext L s (Lv.toN L (Prod.fst (Prod.snd x))) (Lv.toN L (Lv.cast L (Lv.slen L s)))))))
 (Lv.toN L
 (Lv.ar L BinOp.sub IntKind.i64
 (Lv.cast L
 (Lv.llen L Lt
 (Prod.fst
 (LexF.rScan F
 (Lv.scat L (Lv.scat L (Lv.ext L s (Lv.toN L (Lv.cast L 0)) (Lv.toN L (Prod.fst x))) (Prod.snd (Prod.snd x)))
 (Lv.ext L s (Lv.toN L (Prod.fst (Prod.snd x))) (Lv.toN L (Lv.cast L (Lv.slen L s)))))))))
 (Prod.fst x_2))))
 (Lv.toN L (Prod.fst x_1))))
 (Lv.add L (Lv.llen L Lt [])
 (Lv.llen L Lt
 (Lv.drop L Lt
 (Lv.take L Lt
 (Prod.fst
 (LexF.rScan F
 (Lv.scat L (Lv.scat L (Lv.ext L s (Lv.toN L (Lv.cast L 0)) (Lv.toN L (Prod.fst x))) (Prod.snd (Prod.snd x)))
 (Lv.ext L s (Lv.toN L (Prod.fst (Prod.snd x))) (Lv.toN L (Lv.cast L (Lv.slen L s)))))))
 (Lv.toN L
 (Lv.ar L BinOp.sub IntKind.i64
 (Lv.cast L
 (Lv.llen L Lt
 (Prod.fst
 (LexF.rScan F
 (Lv.scat L (Lv.scat L (Lv.ext L s (Lv.toN L (Lv.cast L 0)) (Lv.toN L (Prod.fst x))) (Prod.snd (Prod.snd x)))
 (Lv.ext L s (Lv.toN L (Prod.fst (Prod.snd x))) (Lv.toN L (Lv.cast L (Lv.slen L s)))))))))
 (Prod.fst x_2))))
 (Lv.toN L (Prod.fst x_1)))))),
 0, 0, ()) =
 (Prod.fst (LexF.rRescan F s x), Prod.fst (Prod.snd (LexF.rRescan F s x)), Prod.snd (Prod.snd (LexF.rRescan F s x)), ())))))
 (VC.br
 (Lv.scmp L BinOp.neq
 (Prod.fst
 (Prod.snd
 (Lv.get L Lt (Prod.fst (LexF.rScan F s))
 (Lv.toN L
 (Lv.ar L BinOp.sub IntKind.i64
 (Lv.ar L BinOp.sub IntKind.i64
 (Lv.cast L (Lv.llen L Lt (Prod.fst (LexF.rScan F s)))) 1)
 (Prod.fst x_2))))))
 (Prod.fst
 (Prod.snd
 (Lv.get L Lt
 (Prod.fst
 (LexF.rScan F
 (Lv.scat L (Lv.scat L (Lv.ext L s (Lv.toN L (Lv.cast L 0)) (Lv.toN L (Prod.fst x))) (Prod.snd (Prod.snd x)))
 (Lv.ext L s (Lv.toN L (Prod.fst (Prod.snd x))) (Lv.toN L (Lv.cast L (Lv.slen L s)))))))
 (Lv.toN L
 (Lv.ar L BinOp.sub IntKind.i64
 (Lv.ar L BinOp.sub IntKind.i64
 (Lv.cast L
 (Lv.llen L Lt
 (Prod.fst
 (LexF.rScan F
 (Lv.scat L (Lv.scat L (Lv.ext L s (Lv.toN L (Lv.cast L 0)) (Lv.toN L (Prod.fst x))) (Prod.snd (Prod.snd x)))
 (Lv.ext L s (Lv.toN L (Prod.fst (Prod.snd x))) (Lv.toN L (Lv.cast L (Lv.slen L s)))))))))
 1)
 (Prod.fst x_2)))))))
 (VC.obl
 (Lv.le3 L (Prod.fst x_1)
 (Lv.ar L BinOp.sub IntKind.i64
 (Lv.cast L
 (Lv.llen L Lt
 (Prod.fst
 (LexF.rScan F
 (Lv.scat L (Lv.scat L (Lv.ext L s (Lv.toN L (Lv.cast L 0)) (Lv.toN L (Prod.fst x))) (Prod.snd (Prod.snd x)))
 (Lv.ext L s (Lv.toN L (Prod.fst (Prod.snd x))) (Lv.toN L (Lv.cast L (Lv.slen L s)))))))))
 (Prod.fst x_2))
 (Lv.llen L Lt
 (Prod.fst
 (LexF.rScan F
 (Lv.scat L (Lv.scat L (Lv.ext L s (Lv.toN L (Lv.cast L 0)) (Lv.toN L (Prod.fst x))) (Prod.snd (Prod.snd x)))
 (Lv.ext L s (Lv.toN L (Prod.fst (Prod.snd x))) (Lv.toN L (Lv.cast L (Lv.slen L s)))))))))
 (VC.obl
 (Lv.room L
 (Lv.add L (Lv.llen L Lt [])
 (Lv.llen L Lt
 (Lv.drop L Lt
 (Lv.take L Lt
 (Prod.fst
 (LexF.rScan F
 (Lv.scat L (Lv.scat L (Lv.ext L s (Lv.toN L (Lv.cast L 0)) (Lv.toN L (Prod.fst x))) (Prod.snd (Prod.snd x)))
 (Lv.ext L s (Lv.toN L (Prod.fst (Prod.snd x))) (Lv.toN L (Lv.cast L (Lv.slen L s)))))))
 (Lv.toN L
 (Lv.ar L BinOp.sub IntKind.i64
 (Lv.cast L
 (Lv.llen L Lt
 (Prod.fst
 (LexF.rScan F
 (Lv.scat L (Lv.scat L (Lv.ext L s (Lv.toN L (Lv.cast L 0)) (Lv.toN L (Prod.fst x))) (Prod.snd (Prod.snd x)))
 (Lv.ext L s (Lv.toN L (Prod.fst (Prod.snd x))) (Lv.toN L (Lv.cast L (Lv.slen L s)))))))))
 (Prod.fst x_2))))
 (Lv.toN L (Prod.fst x_1)))))
 32)
 (VC.ok
 (((Prod.fst x_1, Prod.fst x_2,
 Lv.take L Lt
 (Lv.app L Lt []
 (Lv.drop L Lt
 (Lv.take L Lt
 (Prod.fst
 (LexF.rScan F
 (Lv.scat L (Lv.scat L (Lv.ext L s (Lv.toN L (Lv.cast L 0)) (Lv.toN L (Prod.fst x))) (Prod.snd (Prod.snd x)))
 (Lv.ext L s (Lv.toN L (Prod.fst (Prod.snd x))) (Lv.toN L (Lv.cast L (Lv.slen L s)))))))
 (Lv.toN L
 (Lv.ar L BinOp.sub IntKind.i64
 (Lv.cast L
 (Lv.llen L Lt
 (Prod.fst
 (LexF.rScan F
 (Lv.scat L (Lv.scat L (Lv.ext L s (Lv.toN L (Lv.cast L 0)) (Lv.toN L (Prod.fst x))) (Prod.snd (Prod.snd x)))
 (Lv.ext L s (Lv.toN L (Prod.fst (Prod.snd x))) (Lv.toN L (Lv.cast L (Lv.slen L s)))))))))
 (Prod.fst x_2))))
 (Lv.toN L (Prod.fst x_1))))
 (Lv.add L (Lv.llen L Lt [])
 (Lv.llen L Lt
 (Lv.drop L Lt
 (Lv.take L Lt
 (Prod.fst
 (LexF.rScan F
 (Lv.scat L (Lv.scat L (Lv.ext L s (Lv.toN L (Lv.cast L 0)) (Lv.toN L (Prod.fst x))) (Prod.snd (Prod.snd x)))
 (Lv.ext L s (Lv.toN L (Prod.fst (Prod.snd x))) (Lv.toN L (Lv.cast L (Lv.slen L s)))))))
 (Lv.toN L
 (Lv.ar L BinOp.sub IntKind.i64
 (Lv.cast L
 (Lv.llen L Lt
 (Prod.fst
 (LexF.rScan F
 (Lv.scat L (Lv.scat L (Lv.ext L s (Lv.toN L (Lv.cast L 0)) (Lv.toN L (Prod.fst x))) (Prod.snd (Prod.snd x)))
 (Lv.ext L s (Lv.toN L (Prod.fst (Prod.snd x))) (Lv.toN L (Lv.cast L (Lv.slen L s)))))))))
 (Prod.fst x_2))))
 (Lv.toN L (Prod.fst x_1)))))),
 0, 0, ()) =
 (Prod.fst (LexF.rRescan F s x), Prod.fst (Prod.snd (LexF.rRescan F s x)), Prod.snd (Prod.snd (LexF.rRescan F s x)), ())))))
 (VC.br
 (Lv.cmp L BinOp.neq
 (Lv.ar L BinOp.sub IntKind.i64
 (Prod.snd
 (Prod.snd
 (Lv.get L Lt
 (Prod.fst
 (LexF.rScan F
 (Lv.scat L (Lv.scat L (Lv.ext L s (Lv.toN L (Lv.cast L 0)) (Lv.toN L (Prod.fst x))) (Prod.snd (Prod.snd x)))
 (Lv.ext L s (Lv.toN L (Prod.fst (Prod.snd x))) (Lv.toN L (Lv.cast L (Lv.slen L s)))))))
 (Lv.toN L
 (Lv.ar L BinOp.sub IntKind.i64
 (Lv.ar L BinOp.sub IntKind.i64
 (Lv.cast L
 (Lv.llen L Lt
 (Prod.fst
 (LexF.rScan F
 (Lv.scat L (Lv.scat L (Lv.ext L s (Lv.toN L (Lv.cast L 0)) (Lv.toN L (Prod.fst x))) (Prod.snd (Prod.snd x)))
 (Lv.ext L s (Lv.toN L (Prod.fst (Prod.snd x))) (Lv.toN L (Lv.cast L (Lv.slen L s)))))))))
 1)
 (Prod.fst x_2))))))
 (Prod.snd
 (Prod.snd
 (Lv.get L Lt (Prod.fst (LexF.rScan F s))
 (Lv.toN L
 (Lv.ar L BinOp.sub IntKind.i64
 (Lv.ar L BinOp.sub IntKind.i64
 (Lv.cast L (Lv.llen L Lt (Prod.fst (LexF.rScan F s)))) 1)
 (Prod.fst x_2)))))))
 (Lv.ar L BinOp.sub IntKind.i64
 (Lv.cast L
 (Lv.slen L
 (Lv.scat L (Lv.scat L (Lv.ext L s (Lv.toN L (Lv.cast L 0)) (Lv.toN L (Prod.fst x))) (Prod.snd (Prod.snd x)))
 (Lv.ext L s (Lv.toN L (Prod.fst (Prod.snd x))) (Lv.toN L (Lv.cast L (Lv.slen L s)))))))
 (Lv.cast L (Lv.slen L s))))
 (VC.obl
 (Lv.le3 L (Prod.fst x_1)
 (Lv.ar L BinOp.sub IntKind.i64
 (Lv.cast L
 (Lv.llen L Lt
 (Prod.fst
 (LexF.rScan F
 (Lv.scat L (Lv.scat L (Lv.ext L s (Lv.toN L (Lv.cast L 0)) (Lv.toN L (Prod.fst x))) (Prod.snd (Prod.snd x)))
 (Lv.ext L s (Lv.toN L (Prod.fst (Prod.snd x))) (Lv.toN L (Lv.cast L (Lv.slen L s)))))))))
 (Prod.fst x_2))
 (Lv.llen L Lt
 (Prod.fst
 (LexF.rScan F
 (Lv.scat L (Lv.scat L (Lv.ext L s (Lv.toN L (Lv.cast L 0)) (Lv.toN L (Prod.fst x))) (Prod.snd (Prod.snd x)))
 (Lv.ext L s (Lv.toN L (Prod.fst (Prod.snd x))) (Lv.toN L (Lv.cast L (Lv.slen L s)))))))))
 (VC.obl
 (Lv.room L
 (Lv.add L (Lv.llen L Lt [])
 (Lv.llen L Lt
 (Lv.drop L Lt
 (Lv.take L Lt
 (Prod.fst
 (LexF.rScan F
 (Lv.scat L (Lv.scat L (Lv.ext L s (Lv.toN L (Lv.cast L 0)) (Lv.toN L (Prod.fst x))) (Prod.snd (Prod.snd x)))
 (Lv.ext L s (Lv.toN L (Prod.fst (Prod.snd x))) (Lv.toN L (Lv.cast L (Lv.slen L s)))))))
 (Lv.toN L
 (Lv.ar L BinOp.sub IntKind.i64
 (Lv.cast L
 (Lv.llen L Lt
 (Prod.fst
 (LexF.rScan F
 (Lv.scat L (Lv.scat L (Lv.ext L s (Lv.toN L (Lv.cast L 0)) (Lv.toN L (Prod.fst x))) (Prod.snd (Prod.snd x)))
 (Lv.ext L s (Lv.toN L (Prod.fst (Prod.snd x))) (Lv.toN L (Lv.cast L (Lv.slen L s)))))))))
 (Prod.fst x_2))))
 (Lv.toN L (Prod.fst x_1)))))
 32)
 (VC.ok
 (((Prod.fst x_1, Prod.fst x_2,
 Lv.take L Lt
 (Lv.app L Lt []
 (Lv.drop L Lt
 (Lv.take L Lt
 (Prod.fst
 (LexF.rScan F
 (Lv.scat L (Lv.scat L (Lv.ext L s (Lv.toN L (Lv.cast L 0)) (Lv.toN L (Prod.fst x))) (Prod.snd (Prod.snd x)))
 (Lv.ext L s (Lv.toN L (Prod.fst (Prod.snd x))) (Lv.toN L (Lv.cast L (Lv.slen L s)))))))
 (Lv.toN L
 (Lv.ar L BinOp.sub IntKind.i64
 (Lv.cast L
 (Lv.llen L Lt
 (Prod.fst
 (LexF.rScan F
 (Lv.scat L (Lv.scat L (Lv.ext L s (Lv.toN L (Lv.cast L 0)) (Lv.toN L (Prod.fst x))) (Prod.snd (Prod.snd x)))
 (Lv.ext L s (Lv.toN L (Prod.fst (Prod.snd x))) (Lv.toN L (Lv.cast L (Lv.slen L s)))))))))
 (Prod.fst x_2))))
 (Lv.toN L (Prod.fst x_1))))
 (Lv.add L (Lv.llen L Lt [])
 (Lv.llen L Lt
 (Lv.drop L Lt
 (Lv.take L Lt
 (Prod.fst
 (LexF.rScan F
 (Lv.scat L (Lv.scat L (Lv.ext L s (Lv.toN L (Lv.cast L 0)) (Lv.toN L (Prod.fst x))) (Prod.snd (Prod.snd x)))
 (Lv.ext L s (Lv.toN L (Prod.fst (Prod.snd x))) (Lv.toN L (Lv.cast L (Lv.slen L s)))))))
 (Lv.toN L
 (Lv.ar L BinOp.sub IntKind.i64
 (Lv.cast L
 (Lv.llen L Lt
 (Prod.fst
 (LexF.rScan F
 (Lv.scat L (Lv.scat L (Lv.ext L s (Lv.toN L (Lv.cast L 0)) (Lv.toN L (Prod.fst x))) (Prod.snd (Prod.snd x)))
 (Lv.ext L s (Lv.toN L (Prod.fst (Prod.snd x))) (Lv.toN L (Lv.cast L (Lv.slen L s)))))))))
 (Prod.fst x_2))))
 (Lv.toN L (Prod.fst x_1)))))),
 0, 0, ()) =
 (Prod.fst (LexF.rRescan F s x), Prod.fst (Prod.snd (LexF.rRescan F s x)), Prod.snd (Prod.snd (LexF.rRescan F s x)), ())))))
 (VC.ok
 (St.mk 174
 [(0, V.c (C.str s)), (3, V.c (C.ptr 1 0)), (4, V.c (C.ptr 2 0)),
 (7, V.c (C.sl Lt (Prod.fst (LexF.rScan F s)))),
 (10,
 V.c
 (C.str
 (Lv.scat L (Lv.scat L (Lv.ext L s (Lv.toN L (Lv.cast L 0)) (Lv.toN L (Prod.fst x))) (Prod.snd (Prod.snd x)))
 (Lv.ext L s (Lv.toN L (Prod.fst (Prod.snd x))) (Lv.toN L (Lv.cast L (Lv.slen L s))))))),
 (11,
 V.c
 (C.sl Lt
 (Prod.fst
 (LexF.rScan F
 (Lv.scat L (Lv.scat L (Lv.ext L s (Lv.toN L (Lv.cast L 0)) (Lv.toN L (Prod.fst x))) (Prod.snd (Prod.snd x)))
 (Lv.ext L s (Lv.toN L (Prod.fst (Prod.snd x))) (Lv.toN L (Lv.cast L (Lv.slen L s))))))))),
 (12, V.c (C.ptr 3 0))]
 [(0, Ob.amb), (1, Ob.box 35 [C.int IntKind.i64 (Prod.fst x), C.int IntKind.i64 (Prod.fst (Prod.snd x)), C.str (Prod.snd (Prod.snd x))]),
 (2, Ob.box 40 [C.int IntKind.i64 0, C.int IntKind.i64 0, C.nils]),
 (3, Ob.box 40 [C.int IntKind.i64 (Prod.fst x_1), C.int IntKind.i64 (Lv.ar L BinOp.add IntKind.i64 (Prod.fst x_2) 1), C.nils])]
 4 =
 St.mk 174
 [(0, V.c (C.str s)), (3, V.c (C.ptr 1 0)), (4, V.c (C.ptr 2 0)),
 (7, V.c (C.sl Lt (Prod.fst (LexF.rScan F s)))),
 (10,
 V.c
 (C.str
 (Lv.scat L (Lv.scat L (Lv.ext L s (Lv.toN L (Lv.cast L 0)) (Lv.toN L (Prod.fst x))) (Prod.snd (Prod.snd x)))
 (Lv.ext L s (Lv.toN L (Prod.fst (Prod.snd x))) (Lv.toN L (Lv.cast L (Lv.slen L s))))))),
 (11,
 V.c
 (C.sl Lt
 (Prod.fst
 (LexF.rScan F
 (Lv.scat L (Lv.scat L (Lv.ext L s (Lv.toN L (Lv.cast L 0)) (Lv.toN L (Prod.fst x))) (Prod.snd (Prod.snd x)))
 (Lv.ext L s (Lv.toN L (Prod.fst (Prod.snd x))) (Lv.toN L (Lv.cast L (Lv.slen L s))))))))),
 (12, V.c (C.ptr 3 0))]
 [(0, Ob.amb), (1, Ob.box 35 [C.int IntKind.i64 (Prod.fst x), C.int IntKind.i64 (Prod.fst (Prod.snd x)), C.str (Prod.snd (Prod.snd x))]),
 (2, Ob.box 40 [C.int IntKind.i64 0, C.int IntKind.i64 0, C.nils]),
 (3, Ob.box 40 [C.int IntKind.i64 (Prod.fst x_1), C.int IntKind.i64 (Lv.ar L BinOp.add IntKind.i64 (Prod.fst x_2) 1), C.nils])]
 4 ∧
 J (Lv.ar L BinOp.add IntKind.i64 (Prod.fst x_2) 1, ()) ∧
 nu (Lv.ar L BinOp.add IntKind.i64 (Prod.fst x_2) 1, ()) < nu x_2))))))))
 (VC.obl
 (Lv.le3 L (Prod.fst x_1)
 (Lv.ar L BinOp.sub IntKind.i64
 (Lv.cast L
 (Lv.llen L Lt
 (Prod.fst
 (LexF.rScan F
 (Lv.scat L (Lv.scat L (Lv.ext L s (Lv.toN L (Lv.cast L 0)) (Lv.toN L (Prod.fst x))) (Prod.snd (Prod.snd x)))
 (Lv.ext L s (Lv.toN L (Prod.fst (Prod.snd x))) (Lv.toN L (Lv.cast L (Lv.slen L s)))))))))
 (Prod.fst x_2))
 (Lv.llen L Lt
 (Prod.fst
 (LexF.rScan F
 (Lv.scat L (Lv.scat L (Lv.ext L s (Lv.toN L (Lv.cast L 0)) (Lv.toN L (Prod.fst x))) (Prod.snd (Prod.snd x)))
 (Lv.ext L s (Lv.toN L (Prod.fst (Prod.snd x))) (Lv.toN L (Lv.cast L (Lv.slen L s)))))))))
 (VC.obl
 (Lv.room L
 (Lv.add L (Lv.llen L Lt [])
 (Lv.llen L Lt
 (Lv.drop L Lt
 (Lv.take L Lt
 (Prod.fst
 (LexF.rScan F
 (Lv.scat L (Lv.scat L (Lv.ext L s (Lv.toN L (Lv.cast L 0)) (Lv.toN L (Prod.fst x))) (Prod.snd (Prod.snd x)))
 (Lv.ext L s (Lv.toN L (Prod.fst (Prod.snd x))) (Lv.toN L (Lv.cast L (Lv.slen L s)))))))
 (Lv.toN L
 (Lv.ar L BinOp.sub IntKind.i64
 (Lv.cast L
 (Lv.llen L Lt
 (Prod.fst
 (LexF.rScan F
 (Lv.scat L (Lv.scat L (Lv.ext L s (Lv.toN L (Lv.cast L 0)) (Lv.toN L (Prod.fst x))) (Prod.snd (Prod.snd x)))
 (Lv.ext L s (Lv.toN L (Prod.fst (Prod.snd x))) (Lv.toN L (Lv.cast L (Lv.slen L s)))))))))
 (Prod.fst x_2))))
 (Lv.toN L (Prod.fst x_1)))))
 32)
 (VC.ok
 (((Prod.fst x_1, Prod.fst x_2,
 Lv.take L Lt
 (Lv.app L Lt []
 (Lv.drop L Lt
 (Lv.take L Lt
 (Prod.fst
 (LexF.rScan F
 (Lv.scat L (Lv.scat L (Lv.ext L s (Lv.toN L (Lv.cast L 0)) (Lv.toN L (Prod.fst x))) (Prod.snd (Prod.snd x)))
 (Lv.ext L s (Lv.toN L (Prod.fst (Prod.snd x))) (Lv.toN L (Lv.cast L (Lv.slen L s)))))))
 (Lv.toN L
 (Lv.ar L BinOp.sub IntKind.i64
 (Lv.cast L
 (Lv.llen L Lt
 (Prod.fst
 (LexF.rScan F
 (Lv.scat L (Lv.scat L (Lv.ext L s (Lv.toN L (Lv.cast L 0)) (Lv.toN L (Prod.fst x))) (Prod.snd (Prod.snd x)))
 (Lv.ext L s (Lv.toN L (Prod.fst (Prod.snd x))) (Lv.toN L (Lv.cast L (Lv.slen L s)))))))))
 (Prod.fst x_2))))
 (Lv.toN L (Prod.fst x_1))))
 (Lv.add L (Lv.llen L Lt [])
 (Lv.llen L Lt
 (Lv.drop L Lt
 (Lv.take L Lt
 (Prod.fst
 (LexF.rScan F
 (Lv.scat L (Lv.scat L (Lv.ext L s (Lv.toN L (Lv.cast L 0)) (Lv.toN L (Prod.fst x))) (Prod.snd (Prod.snd x)))
 (Lv.ext L s (Lv.toN L (Prod.fst (Prod.snd x))) (Lv.toN L (Lv.cast L (Lv.slen L s)))))))
 (Lv.toN L
 (Lv.ar L BinOp.sub IntKind.i64
 (Lv.cast L
 (Lv.llen L Lt
 (Prod.fst
 (LexF.rScan F
 (Lv.scat L (Lv.scat L (Lv.ext L s (Lv.toN L (Lv.cast L 0)) (Lv.toN L (Prod.fst x))) (Prod.snd (Prod.snd x)))
 (Lv.ext L s (Lv.toN L (Prod.fst (Prod.snd x))) (Lv.toN L (Lv.cast L (Lv.slen L s)))))))))
 (Prod.fst x_2))))
 (Lv.toN L (Prod.fst x_1)))))),
 0, 0, ()) =
 (Prod.fst (LexF.rRescan F s x), Prod.fst (Prod.snd (LexF.rRescan F s x)), Prod.snd (Prod.snd (LexF.rRescan F s x)), ()))))))
 (VC.obl
 (Lv.le3 L (Prod.fst x_1)
 (Lv.ar L BinOp.sub IntKind.i64
 (Lv.cast L
 (Lv.llen L Lt
 (Prod.fst
 (LexF.rScan F
 (Lv.scat L (Lv.scat L (Lv.ext L s (Lv.toN L (Lv.cast L 0)) (Lv.toN L (Prod.fst x))) (Prod.snd (Prod.snd x)))
 (Lv.ext L s (Lv.toN L (Prod.fst (Prod.snd x))) (Lv.toN L (Lv.cast L (Lv.slen L s)))))))))
 (Prod.fst x_2))
 (Lv.llen L Lt
 (Prod.fst
 (LexF.rScan F
 (Lv.scat L (Lv.scat L (Lv.ext L s (Lv.toN L (Lv.cast L 0)) (Lv.toN L (Prod.fst x))) (Prod.snd (Prod.snd x)))
 (Lv.ext L s (Lv.toN L (Prod.fst (Prod.snd x))) (Lv.toN L (Lv.cast L (Lv.slen L s)))))))))
 (VC.obl
 (Lv.room L
 (Lv.add L (Lv.llen L Lt [])
 (Lv.llen L Lt
 (Lv.drop L Lt
 (Lv.take L Lt
 (Prod.fst
 (LexF.rScan F
 (Lv.scat L (Lv.scat L (Lv.ext L s (Lv.toN L (Lv.cast L 0)) (Lv.toN L (Prod.fst x))) (Prod.snd (Prod.snd x)))
 (Lv.ext L s (Lv.toN L (Prod.fst (Prod.snd x))) (Lv.toN L (Lv.cast L (Lv.slen L s)))))))
 (Lv.toN L
 (Lv.ar L BinOp.sub IntKind.i64
 (Lv.cast L
 (Lv.llen L Lt
 (Prod.fst
 (LexF.rScan F
 (Lv.scat L (Lv.scat L (Lv.ext L s (Lv.toN L (Lv.cast L 0)) (Lv.toN L (Prod.fst x))) (Prod.snd (Prod.snd x)))
 (Lv.ext L s (Lv.toN L (Prod.fst (Prod.snd x))) (Lv.toN L (Lv.cast L (Lv.slen L s)))))))))
 (Prod.fst x_2))))
 (Lv.toN L (Prod.fst x_1)))))
 32)
 (VC.ok
 (((Prod.fst x_1, Prod.fst x_2,
 Lv.take L Lt
 (Lv.app L Lt []
 (Lv.drop L Lt
 (Lv.take L Lt
 (Prod.fst
 (LexF.rScan F
 (Lv.scat L (Lv.scat L (Lv.ext L s (Lv.toN L (Lv.cast L 0)) (Lv.toN L (Prod.fst x))) (Prod.snd (Prod.snd x)))
 (Lv.ext L s (Lv.toN L (Prod.fst (Prod.snd x))) (Lv.toN L (Lv.cast L (Lv.slen L s)))))))
 (Lv.toN L
 (Lv.ar L BinOp.sub IntKind.i64
 (Lv.cast L
 (Lv.llen L Lt
 (Prod.fst
 (LexF.rScan F
 (Lv.scat L (Lv.scat L (Lv.ext L s (Lv.toN L (Lv.cast L 0)) (Lv.toN L (Prod.fst x))) (Prod.snd (Prod.snd x)))
 (Lv.ext L s (Lv.toN L (Prod.fst (Prod.snd x))) (Lv.toN L (Lv.cast L (Lv.slen L s)))))))))
 (Prod.fst x_2))))
 (Lv.toN L (Prod.fst x_1))))
 (Lv.add L (Lv.llen L Lt [])
 (Lv.llen L Lt
 (Lv.drop L Lt
 (Lv.take L Lt
 (Prod.fst
 (LexF.rScan F
 (Lv.scat L (Lv.scat L (Lv.ext L s (Lv.toN L (Lv.cast L 0)) (Lv.toN L (Prod.fst x))) (Prod.snd (Prod.snd x)))
 (Lv.ext L s (Lv.toN L (Prod.fst (Prod.snd x))) (Lv.toN L (Lv.cast L (Lv.slen L s)))))))
 (Lv.toN L
 (Lv.ar L BinOp.sub IntKind.i64
 (Lv.cast L
 (Lv.llen L Lt
 (Prod.fst
 (LexF.rScan F
 (Lv.scat L (Lv.scat L (Lv.ext L s (Lv.toN L (Lv.cast L 0)) (Lv.toN L (Prod.fst x))) (Prod.snd (Prod.snd x)))
 (Lv.ext L s (Lv.toN L (Prod.fst (Prod.snd x))) (Lv.toN L (Lv.cast L (Lv.slen L s)))))))))
 (Prod.fst x_2))))
 (Lv.toN L (Prod.fst x_1)))))),
 0, 0, ()) =
 (Prod.fst (LexF.rRescan F s x), Prod.fst (Prod.snd (LexF.rRescan F s x)), Prod.snd (Prod.snd (LexF.rRescan F s x)), ()))))))))))
 (VC.obl
 (St.mk 174
 [(0, V.c (C.str s)), (3, V.c (C.ptr 1 0)), (4, V.c (C.ptr 2 0)),
 (7, V.c (C.sl Lt (Prod.fst (LexF.rScan F s)))),
 (10,
 V.c
 (C.str
 (Lv.scat L (Lv.scat L (Lv.ext L s (Lv.toN L (Lv.cast L 0)) (Lv.toN L (Prod.fst x))) (Prod.snd (Prod.snd x)))
 (Lv.ext L s (Lv.toN L (Prod.fst (Prod.snd x))) (Lv.toN L (Lv.cast L (Lv.slen L s))))))),
 (11,
 V.c
 (C.sl Lt
 (Prod.fst
 (LexF.rScan F
 (Lv.scat L (Lv.scat L (Lv.ext L s (Lv.toN L (Lv.cast L 0)) (Lv.toN L (Prod.fst x))) (Prod.snd (Prod.snd x)))
 (Lv.ext L s (Lv.toN L (Prod.fst (Prod.snd x))) (Lv.toN L (Lv.cast L (Lv.slen L s))))))))),
 (12, V.c (C.ptr 3 0))]
 [(0, Ob.amb), (1, Ob.box 35 [C.int IntKind.i64 (Prod.fst x), C.int IntKind.i64 (Prod.fst (Prod.snd x)), C.str (Prod.snd (Prod.snd x))]),
 (2, Ob.box 40 [C.int IntKind.i64 0, C.int IntKind.i64 0, C.nils]), (3, Ob.box 40 [C.int IntKind.i64 (Prod.fst x_1), C.int IntKind.i64 0, C.nils])]
 4 =
 St.mk 174
 [(0, V.c (C.str s)), (3, V.c (C.ptr 1 0)), (4, V.c (C.ptr 2 0)),
 (7, V.c (C.sl Lt (Prod.fst (LexF.rScan F s)))),
 (10,
 V.c
 (C.str
 (Lv.scat L (Lv.scat L (Lv.ext L s (Lv.toN L (Lv.cast L 0)) (Lv.toN L (Prod.fst x))) (Prod.snd (Prod.snd x)))
 (Lv.ext L s (Lv.toN L (Prod.fst (Prod.snd x))) (Lv.toN L (Lv.cast L (Lv.slen L s))))))),
 (11,
 V.c
 (C.sl Lt
 (Prod.fst
 (LexF.rScan F
 (Lv.scat L (Lv.scat L (Lv.ext L s (Lv.toN L (Lv.cast L 0)) (Lv.toN L (Prod.fst x))) (Prod.snd (Prod.snd x)))
 (Lv.ext L s (Lv.toN L (Prod.fst (Prod.snd x))) (Lv.toN L (Lv.cast L (Lv.slen L s))))))))),
 (12, V.c (C.ptr 3 0))]
 [(0, Ob.amb), (1, Ob.box 35 [C.int IntKind.i64 (Prod.fst x), C.int IntKind.i64 (Prod.fst (Prod.snd x)), C.str (Prod.snd (Prod.snd x))]),
 (2, Ob.box 40 [C.int IntKind.i64 0, C.int IntKind.i64 0, C.nils]), (3, Ob.box 40 [C.int IntKind.i64 (Prod.fst x_1), C.int IntKind.i64 0, C.nils])]
 4)
 (VC.obl (J (0, ()))
 (VC.all (Int × Unit) fun (x_2 : Int × Unit) =>
 VC.imp (J x_2)
 (VC.br (Lv.cmp L BinOp.lss (Prod.fst x_2) (Lv.cast L (Lv.llen L Lt (Prod.fst (LexF.rScan F s)))))
 (VC.br
 (Lv.cmp L BinOp.lss (Prod.fst x_2)
 (Lv.cast L
 (Lv.llen L Lt
 (Prod.fst
 (LexF.rScan F
 (Lv.scat L (Lv.scat L (Lv.ext L s (Lv.toN L (Lv.cast L 0)) (Lv.toN L (Prod.fst x))) (Prod.snd (Prod.snd x)))
 (Lv.ext L s (Lv.toN L (Prod.fst (Prod.snd x))) (Lv.toN L (Lv.cast L (Lv.slen L s))))))))))
 (VC.obl
 (Lv.inR L
 (Lv.ar L BinOp.sub IntKind.i64
 (Lv.ar L BinOp.sub IntKind.i64 (Lv.cast L (Lv.llen L Lt (Prod.fst (LexF.rScan F s))))
 1)
 (Prod.fst x_2))
 (Lv.llen L Lt (Prod.fst (LexF.rScan F s))))
 (VC.obl
 (Lv.inR L
 (Lv.ar L BinOp.sub IntKind.i64
 (Lv.ar L BinOp.sub IntKind.i64
 (Lv.cast L
 (Lv.llen L Lt
 (Prod.fst
 (LexF.rScan F
 (Lv.scat L (Lv.scat L (Lv.ext L s (Lv.toN L (Lv.cast L 0)) (Lv.toN L (Prod.fst x))) (Prod.snd (Prod.snd x)))
 (Lv.ext L s (Lv.toN L (Prod.fst (Prod.snd x))) (Lv.toN L (Lv.cast L (Lv.slen L s)))))))))
 1)
 (Prod.fst x_2))
 (Lv.llen L Lt
 (Prod.fst
 (LexF.rScan F
 (Lv.scat L (Lv.scat L (Lv.ext L s (Lv.toN L (Lv.cast L 0)) (Lv.toN L (Prod.fst x))) (Prod.snd (Prod.snd x)))
 (Lv.ext L s (Lv.toN L (Prod.fst (Prod.snd x))) (Lv.toN L (Lv.cast L (Lv.slen L s)))))))))
 (VC.br
 (Lv.cmp L BinOp.lss
 (Prod.snd
 (Prod.snd
 (Lv.get L Lt (Prod.fst (LexF.rScan F s))
 (Lv.toN L
 (Lv.ar L BinOp.sub IntKind.i64
 (Lv.ar L BinOp.sub IntKind.i64
 (Lv.cast L (Lv.llen L Lt (Prod.fst (LexF.rScan F s)))) 1)
 (Prod.fst x_2))))))
 (Prod.fst (Prod.snd x)))
 (VC.obl
 (Lv.le3 L (Prod.fst x_1)
 (Lv.ar L BinOp.sub IntKind.i64
 (Lv.cast L
 (Lv.llen L Lt
 (Prod.fst
 (LexF.rScan F
 (Lv.scat L (Lv.scat L (Lv.ext L s (Lv.toN L (Lv.cast L 0)) (Lv.toN L (Prod.fst x))) (Prod.snd (Prod.snd x)))
 (Lv.ext L s (Lv.toN L (Prod.fst (Prod.snd x))) (Lv.toN L (Lv.cast L (Lv.slen L s)))))))))
 (Prod.fst x_2))
 (Lv.llen L Lt
 (Prod.fst
 (LexF.rScan F
 (Lv.scat L (Lv.scat L (Lv.ext L s (Lv.toN L (Lv.cast L 0)) (Lv.toN L (Prod.fst x))) (Prod.snd (Prod.snd x)))
 (Lv.ext L s (Lv.toN L (Prod.fst (Prod.snd x))) (Lv.toN L (Lv.cast L (Lv.slen L s)))))))))
 (VC.obl
 (Lv.room L
 (Lv.add L (Lv.llen L Lt [])
 (Lv.llen L Lt
 (Lv.drop L Lt
 (Lv.take L Lt
 (Prod.fst
 (LexF.rScan F
 (Lv.scat L (Lv.scat L (Lv.ext L s (Lv.toN L (Lv.cast L 0)) (Lv.toN L (Prod.fst x))) (Prod.snd (Prod.snd x)))
 (Lv.ext L s (Lv.toN L (Prod.fst (Prod.snd x))) (Lv.toN L (Lv.cast L (Lv.slen L s)))))))
 (Lv.toN L
 (Lv.ar L BinOp.sub IntKind.i64
 (Lv.cast L
 (Lv.llen L Lt
 (Prod.fst
 (LexF.rScan F
 (Lv.scat L (Lv.scat L (Lv.ext L s (Lv.toN L (Lv.cast L 0)) (Lv.toN L (Prod.fst x))) (Prod.snd (Prod.snd x)))
 (Lv.ext L s (Lv.toN L (Prod.fst (Prod.snd x))) (Lv.toN L (Lv.cast L (Lv.slen L s)))))))))
 (Prod.fst x_2))))
 (Lv.toN L (Prod.fst x_1)))))
 32)
 (VC.ok
 (((Prod.fst x_1, Prod.fst x_2,
 Lv.take L Lt
 (Lv.app L Lt []
 (Lv.drop L Lt
 (Lv.take L Lt
 (Prod.fst
 (LexF.rScan F
 (Lv.scat L (Lv.scat L (Lv.ext L s (Lv.toN L (Lv.cast L 0)) (Lv.toN L (Prod.fst x))) (Prod.snd (Prod.snd x)))
 (Lv.ext L s (Lv.toN L (Prod.fst (Prod.snd x))) (Lv.toN L (Lv.cast L (Lv.slen L s)))))))
 (Lv.toN L
 (Lv.ar L BinOp.sub IntKind.i64
 (Lv.cast L
 (Lv.llen L Lt
 (Prod.fst
 (LexF.rScan F
 (Lv.scat L (Lv.scat L (Lv.ext L s (Lv.toN L (Lv.cast L 0)) (Lv.toN L (Prod.fst x))) (Prod.snd (Prod.snd x)))
 (Lv.ext L s (Lv.toN L (Prod.fst (Prod.snd x))) (Lv.toN L (Lv.cast L (Lv.slen L s)))))))))
 (Prod.fst x_2))))
 (Lv.toN L (Prod.fst x_1))))
 (Lv.add L (Lv.llen L Lt [])
 (Lv.llen L Lt
 (Lv.drop L Lt
 (Lv.take L Lt
 (Prod.fst
 (LexF.rScan F
 (Lv.scat L (Lv.scat L (Lv.ext L s (Lv.toN L (Lv.cast L 0)) (Lv.toN L (Prod.fst x))) (Prod.snd (Prod.snd x)))
 (Lv.ext L s (Lv.toN L (Prod.fst (Prod.snd x))) (Lv.toN L (Lv.cast L (Lv.slen L s)))))))
 (Lv.toN L
 (Lv.ar L BinOp.sub IntKind.i64
 (Lv.cast L
 (Lv.llen L Lt
 (Prod.fst
 (LexF.rScan F
 (Lv.scat L (Lv.scat L (Lv.ext L s (Lv.toN L (Lv.cast L 0)) (Lv.toN L (Prod.fst x))) (Prod.snd (Prod.snd x)))
 (Lv.ext L s (Lv.toN L (Prod.fst (Prod.snd x))) (Lv.toN L (Lv.cast L (Lv.slen L s)))))))))
 (Prod.fst x_2))))
 (Lv.toN L (Prod.fst x_1)))))),
 0, 0, ()) =
 (Prod.fst (LexF.rRescan F s x), Prod.fst (Prod.snd (LexF.rRescan F s x)), Prod.snd (Prod.snd (LexF.rRescan F s x)), ())))))
 (VC.br
 (Lv.cmp L BinOp.neq
 (Prod.fst
 (Lv.get L Lt (Prod.fst (LexF.rScan F s))
 (Lv.toN L
 (Lv.ar L BinOp.sub IntKind.i64
 (Lv.ar L BinOp.sub IntKind.i64
 (Lv.cast L (Lv.llen L Lt (Prod.fst (LexF.rScan F s)))) 1)
 (Prod.fst x_2)))))
 (Prod.fst
 (Lv.get L Lt
 (Prod.fst
 (LexF.rScan F
 (Lv.scat L (Lv.scat L (Lv.ext L s (Lv.toN L (Lv.cast L 0)) (Lv.toN L (Prod.fst x))) (Prod.snd (Prod.snd x)))
 (Lv.ext L s (Lv.toN L (Prod.fst (Prod.snd x))) (Lv.toN L (Lv.cast L (Lv.slen L s)))))))
 (Lv.toN L
 (Lv.ar L BinOp.sub IntKind.i64
 (Lv.ar L BinOp.sub IntKind.i64
 (Lv.cast L
 (Lv.llen L Lt
 (Prod.fst
 (LexF.rScan F
 (Lv.scat L (Lv.scat L (Lv.ext L s (Lv.toN L (Lv.cast L 0)) (Lv.toN L (Prod.fst x))) (Prod.snd (Prod.snd x)))
 (Lv.ext L s (Lv.toN L (Prod.fst (Prod.snd x))) (Lv.toN L (Lv.cast L (Lv.slen L s)))))))))
 1)
 (Prod.fst x_2))))))
 (VC.obl
 (Lv.le3 L (Prod.fst x_1)
 (Lv.ar L BinOp.sub IntKind.i64
 (Lv.cast L
 (Lv.llen L Lt
 (Prod.fst
 (LexF.rScan F
 (Lv.scat L (Lv.scat L (Lv.ext L s (Lv.toN L (Lv.cast L 0)) (Lv.toN L (Prod.fst x))) (Prod.snd (Prod.snd x)))
 (Lv.ext L s (Lv.toN L (Prod.fst (Prod.snd x))) (Lv.toN L (Lv.cast L (Lv.slen L s)))))))))
 (Prod.fst x_2))
 (Lv.llen L Lt
 (Prod.fst
 (LexF.rScan F
 (Lv.scat L (Lv.scat L (Lv.ext L s (Lv.toN L (Lv.cast L 0)) (Lv.toN L (Prod.fst x))) (Prod.snd (Prod.snd x)))
 (Lv.ext L s (Lv.toN L (Prod.fst (Prod.snd x))) (Lv.toN L (Lv.cast L (Lv.slen L s)))))))))
 (VC.obl
 (Lv.room L
 (Lv.add L (Lv.llen L Lt [])
 (Lv.llen L Lt
 (Lv.drop L Lt
 (Lv.take L Lt
 (Prod.fst
 (LexF.rScan F
 (Lv.scat L (Lv.scat L (Lv.ext L s (Lv.toN L (Lv.cast L 0)) (Lv.toN L (Prod.fst x))) (Prod.snd (Prod.snd x)))
 (Lv.ext L s (Lv.toN L (Prod.fst (Prod.snd x))) (Lv.toN L (Lv.cast L (Lv.slen L s)))))))
 (Lv.toN L
 (Lv.ar L BinOp.sub IntKind.i64
 (Lv.cast L
 (Lv.llen L Lt
 (Prod.fst
 (LexF.rScan F
 (Lv.scat L (Lv.scat L (Lv.ext L s (Lv.toN L (Lv.cast L 0)) (Lv.toN L (Prod.fst x))) (Prod.snd (Prod.snd x)))
 (Lv.ext L s (Lv.toN L (Prod.fst (Prod.snd x))) (Lv.toN L (Lv.cast L (Lv.slen L s)))))))))
 (Prod.fst x_2))))
 (Lv.toN L (Prod.fst x_1)))))
 32)
 (VC.ok
 (((Prod.fst x_1, Prod.fst x_2,
 Lv.take L Lt
 (Lv.app L Lt []
 (Lv.drop L Lt
 (Lv.take L Lt
 (Prod.fst
 (LexF.rScan F
 (Lv.scat L (Lv.scat L (Lv.ext L s (Lv.toN L (Lv.cast L 0)) (Lv.toN L (Prod.fst x))) (Prod.snd (Prod.snd x)))
 (Lv.ext L s (Lv.toN L (Prod.fst (Prod.snd x))) (Lv.toN L (Lv.cast L (Lv.slen L s)))))))
 (Lv.toN L
 (Lv.ar L BinOp.sub IntKind.i64
 (Lv.cast L
 (Lv.llen L Lt
 (Prod.fst
 (LexF.rScan F
 (Lv.scat L (Lv.scat L (Lv.ext L s (Lv.toN L (Lv.cast L 0)) (Lv.toN L (Prod.fst x))) (Prod.snd (Prod.snd x)))
 (Lv.ext L s (Lv.toN L (Prod.fst (Prod.snd x))) (Lv.toN L (Lv.cast L (Lv.slen L s)))))))))
 (Prod.fst x_2))))
 (Lv.toN L (Prod.fst x_1))))
 (Lv.add L (Lv.llen L Lt [])
 (Lv.llen L Lt
 (Lv.drop L Lt
 (Lv.take L Lt
 (Prod.fst
 (LexF.rScan F
 (Lv.scat L (Lv.scat L (Lv.ext L s (Lv.toN L (Lv.cast L 0)) (Lv.toN L (Prod.fst x))) (Prod.snd (Prod.snd x)))
 (Lv.ext L s (Lv.toN L (Prod.fst (Prod.snd x))) (Lv.toN L (Lv.cast L (Lv.slen L s)))))))
 (Lv.toN L
 (Lv.ar L BinOp.sub IntKind.i64
 (Lv.cast L
 (Lv.llen L Lt
 (Prod.fst
 (LexF.rScan F
 (Lv.scat L (Lv.scat L (Lv.ext L s (Lv.toN L (Lv.cast L 0)) (Lv.toN L (Prod.fst x))) (Prod.snd (Prod.snd x)))
 (Lv.ext L s (Lv.toN L (Prod.fst (Prod.snd x))) (Lv.toN L (Lv.cast L (Lv.slen L s)))))))))
 (Prod.fst x_2))))
 (Lv.toN L (Prod.fst x_1)))))),
 0, 0, ()) =
 (Prod.fst (LexF.rRescan F s x), Prod.fst (Prod.snd (LexF.rRescan F s x)), Prod.snd (Prod.snd (LexF.rRescan F s x)), ())))))
 (VC.br
 (Lv.scmp L BinOp.neq
 (Prod.fst
 (Prod.snd
 (Lv.get L Lt (Prod.fst (LexF.rScan F s))
 (Lv.toN L
 (Lv.ar L BinOp.sub IntKind.i64
 (Lv.ar L BinOp.sub IntKind.i64
 (Lv.cast L (Lv.llen L Lt (Prod.fst (LexF.rScan F s)))) 1)
 (Prod.fst x_2))))))
 (Prod.fst
 (Prod.snd
 (Lv.get L Lt
 (Prod.fst
 (LexF.rScan F
 (Lv.scat L (Lv.scat L (Lv.ext L s (Lv.toN L (Lv.cast L 0)) (Lv.toN L (Prod.fst x))) (Prod.snd (Prod.snd x)))
 (Lv.ext L s (Lv.toN L (Prod.fst (Prod.snd x))) (Lv.toN L (Lv.cast L (Lv.slen L s)))))))
 (Lv.toN L
 (Lv.ar L BinOp.sub IntKind.i64
 (Lv.ar L BinOp.sub IntKind.i64
 (Lv.cast L
 (Lv.llen L Lt
 (Prod.fst
 (LexF.rScan F
 (Lv.scat L (Lv.scat L (Lv.ext L s (Lv.toN L (Lv.cast L 0)) (Lv.toN L (Prod.fst x))) (Prod.snd (Prod.snd x)))
 (Lv.ext L s (Lv.toN L (Prod.fst (Prod.snd x))) (Lv.toN L (Lv.cast L (Lv.slen L s)))))))))
 1)
 (Prod.fst x_2)))))))
 (VC.obl
 (Lv.le3 L (Prod.fst x_1)
 (Lv.ar L BinOp.sub IntKind.i64
 (Lv.cast L
 (Lv.llen L Lt
 (Prod.fst
 (LexF.rScan F
 (Lv.scat L (Lv.scat L (Lv.ext L s (Lv.toN L (Lv.cast L 0)) (Lv.toN L (Prod.fst x))) (Prod.snd (Prod.snd x)))
 (Lv.ext L s (Lv.toN L (Prod.fst (Prod.snd x))) (Lv.toN L (Lv.cast L (Lv.slen L s)))))))))
 (Prod.fst x_2))
 (Lv.llen L Lt
 (Prod.fst
 (LexF.rScan F
 (Lv.scat L (Lv.scat L (Lv.ext L s (Lv.toN L (Lv.cast L 0)) (Lv.toN L (Prod.fst x))) (Prod.snd (Prod.snd x)))
 (Lv.ext L s (Lv.toN L (Prod.fst (Prod.snd x))) (Lv.toN L (Lv.cast L (Lv.slen L s)))))))))
 (VC.obl
 (Lv.room L
 (Lv.add L (Lv.llen L Lt [])
 (Lv.llen L Lt
 (Lv.drop L Lt
 (Lv.take L Lt
 (Prod.fst
 (LexF.rScan F
 (Lv.scat L (Lv.scat L (Lv.ext L s (Lv.toN L (Lv.cast L 0)) (Lv.toN L (Prod.fst x))) (Prod.snd (Prod.snd x)))
 (Lv.ext L s (Lv.toN L (Prod.fst (Prod.snd x))) (Lv.toN L (Lv.cast L (Lv.slen L s)))))))
 (Lv.toN L
 (Lv.ar L BinOp.sub IntKind.i64
 (Lv.cast L
 (Lv.llen L Lt
 (Prod.fst
 (LexF.rScan F
 (Lv.scat L (Lv.scat L (Lv.ext L s (Lv.toN L (Lv.cast L 0)) (Lv.toN L (Prod.fst x))) (Prod.snd (Prod.snd x)))
 (Lv.ext L s (Lv.toN L (Prod.fst (Prod.snd x))) (Lv.toN L (Lv.cast L (Lv.slen L s)))))))))
 (Prod.fst x_2))))
 (Lv.toN L (Prod.fst x_1)))))
 32)
 (VC.ok
 (((Prod.fst x_1, Prod.fst x_2,
 Lv.take L Lt
 (Lv.app L Lt []
 (Lv.drop L Lt
 (Lv.take L Lt
 (Prod.fst
 (LexF.rScan F
 (Lv.scat L (Lv.scat L (Lv.ext L s (Lv.toN L (Lv.cast L 0)) (Lv.toN L (Prod.fst x))) (Prod.snd (Prod.snd x)))
 (Lv.ext L s (Lv.toN L (Prod.fst (Prod.snd x))) (Lv.toN L (Lv.cast L (Lv.slen L s)))))))
 (Lv.toN L
 (Lv.ar L BinOp.sub IntKind.i64
 (Lv.cast L
 (Lv.llen L Lt
 (Prod.fst
 (LexF.rScan F
 (Lv.scat L (Lv.scat L (Lv.ext L s (Lv.toN L (Lv.cast L 0)) (Lv.toN L (Prod.fst x))) (Prod.snd (Prod.snd x)))
 (Lv.ext L s (Lv.toN L (Prod.fst (Prod.snd x))) (Lv.toN L (Lv.cast L (Lv.slen L s)))))))))
 (Prod.fst x_2))))
 (Lv.toN L (Prod.fst x_1))))
 (Lv.add L (Lv.llen L Lt [])
 (Lv.llen L Lt
 (Lv.drop L Lt
 (Lv.take L Lt
 (Prod.fst
 (LexF.rScan F
 (Lv.scat L (Lv.scat L (Lv.ext L s (Lv.toN L (Lv.cast L 0)) (Lv.toN L (Prod.fst x))) (Prod.snd (Prod.snd x)))
 (Lv.ext L s (Lv.toN L (Prod.fst (Prod.snd x))) (Lv.toN L (Lv.cast L (Lv.slen L s)))))))
 (Lv.toN L
 (Lv.ar L BinOp.sub IntKind.i64
 (Lv.cast L
 (Lv.llen L Lt
 (Prod.fst
 (LexF.rScan F
 (Lv.scat L (Lv.scat L (Lv.ext L s (Lv.toN L (Lv.cast L 0)) (Lv.toN L (Prod.fst x))) (Prod.snd (Prod.snd x)))
 (Lv.ext L s (Lv.toN L (Prod.fst (Prod.snd x))) (Lv.toN L (Lv.cast L (Lv.slen L s)))))))))
 (Prod.fst x_2))))
 (Lv.toN L (Prod.fst x_1)))))),
 0, 0, ()) =
 (Prod.fst (LexF.rRescan F s x), Prod.fst (Prod.snd (LexF.rRescan F s x)), Prod.snd (Prod.snd (LexF.rRescan F s x)), ())))))
 (VC.br
 (Lv.cmp L BinOp.neq
 (Lv.ar L BinOp.sub IntKind.i64
 (Prod.snd
 (Prod.snd
 (Lv.get L Lt
 (Prod.fst
 (LexF.rScan F
 (Lv.scat L (Lv.scat L (Lv.ext L s (Lv.toN L (Lv.cast L 0)) (Lv.toN L (Prod.fst x))) (Prod.snd (Prod.snd x)))
 (Lv.ext L s (Lv.toN L (Prod.fst (Prod.snd x))) (Lv.toN L (Lv.cast L (Lv.slen L s)))))))
 (Lv.toN L
 (Lv.ar L BinOp.sub IntKind.i64
 (Lv.ar L BinOp.sub IntKind.i64
 (Lv.cast L
 (Lv.llen L Lt
 (Prod.fst
 (LexF.rScan F
 (Lv.scat L (Lv.scat L (Lv.ext L s (Lv.toN L (Lv.cast L 0)) (Lv.toN L (Prod.fst x))) (Prod.snd (Prod.snd x)))
 (Lv.ext L s (Lv.toN L (Prod.fst (Prod.snd x))) (Lv.toN L (Lv.cast L (Lv.slen L s)))))))))
 1)
 (Prod.fst x_2))))))
 (Prod.snd
 (Prod.snd
 (Lv.get L Lt (Prod.fst (LexF.rScan F s))
 (Lv.toN L
 (Lv.ar L BinOp.sub IntKind.i64
 (Lv.ar L BinOp.sub IntKind.i64
 (Lv.cast L (Lv.llen L Lt (Prod.fst (LexF.rScan F s)))) 1)
 (Prod.fst x_2)))))))
 (Lv.ar L BinOp.sub IntKind.i64
 (Lv.cast L
 (Lv.slen L
 (Lv.scat L (Lv.scat L (Lv.ext L s (Lv.toN L (Lv.cast L 0)) (Lv.toN L (Prod.fst x))) (Prod.snd (Prod.snd x)))
 (Lv.ext L s (Lv.toN L (Prod.fst (Prod.snd x))) (Lv.toN L (Lv.cast L (Lv.slen L s)))))))
 (Lv.cast L (Lv.slen L s))))
 (VC.obl
 (Lv.le3 L (Prod.fst x_1)
 (Lv.ar L BinOp.sub IntKind.i64
 (Lv.cast L
 (Lv.llen L Lt
 (Prod.fst
 (LexF.rScan F
 (Lv.scat L (Lv.scat L (Lv.ext L s (Lv.toN L (Lv.cast L 0)) (Lv.toN L (Prod.fst x))) (Prod.snd (Prod.snd x)))
 (Lv.ext L s (Lv.toN L (Prod.fst (Prod.snd x))) (Lv.toN L (Lv.cast L (Lv.slen L s)))))))))
 (Prod.fst x_2))
 (Lv.llen L Lt
 (Prod.fst
 (LexF.rScan F
 (Lv.scat L (Lv.scat L (Lv.ext L s (Lv.toN L (Lv.cast L 0)) (Lv.toN L (Prod.fst x))) (Prod.snd (Prod.snd x)))
 (Lv.ext L s (Lv.toN L (Prod.fst (Prod.snd x))) (Lv.toN L (Lv.cast L (Lv.slen L s)))))))))
 (VC.obl
 (Lv.room L
 (Lv.add L (Lv.llen L Lt [])
 (Lv.llen L Lt
 (Lv.drop L Lt
 (Lv.take L Lt
 (Prod.fst
 (LexF.rScan F
 (Lv.scat L (Lv.scat L (Lv.ext L s (Lv.toN L (Lv.cast L 0)) (Lv.toN L (Prod.fst x))) (Prod.snd (Prod.snd x)))
 (Lv.ext L s (Lv.toN L (Prod.fst (Prod.snd x))) (Lv.toN L (Lv.cast L (Lv.slen L s)))))))
 (Lv.toN L
 (Lv.ar L BinOp.sub IntKind.i64
 (Lv.cast L
 (Lv.llen L Lt
 (Prod.fst
 (LexF.rScan F
 (Lv.scat L (Lv.scat L (Lv.ext L s (Lv.toN L (Lv.cast L 0)) (Lv.toN L (Prod.fst x))) (Prod.snd (Prod.snd x)))
 (Lv.ext L s (Lv.toN L (Prod.fst (Prod.snd x))) (Lv.toN L (Lv.cast L (Lv.slen L s)))))))))
 (Prod.fst x_2))))
 (Lv.toN L (Prod.fst x_1)))))
 32)
 (VC.ok
 (((Prod.fst x_1, Prod.fst x_2,
 Lv.take L Lt
 (Lv.app L Lt []
 (Lv.drop L Lt
 (Lv.take L Lt
 (Prod.fst
 (LexF.rScan F
 (Lv.scat L (Lv.scat L (Lv.ext L s (Lv.toN L (Lv.cast L 0)) (Lv.toN L (Prod.fst x))) (Prod.snd (Prod.snd x)))
 (Lv.ext L s (Lv.toN L (Prod.fst (Prod.snd x))) (Lv.toN L (Lv.cast L (Lv.slen L s)))))))
 (Lv.toN L
 (Lv.ar L BinOp.sub IntKind.i64
 (Lv.cast L
 (Lv.llen L Lt
 (Prod.fst
 (LexF.rScan F
 (Lv.scat L (Lv.scat L (Lv.ext L s (Lv.toN L (Lv.cast L 0)) (Lv.toN L (Prod.fst x))) (Prod.snd (Prod.snd x)))
 (Lv.ext L s (Lv.toN L (Prod.fst (Prod.snd x))) (Lv.toN L (Lv.cast L (Lv.slen L s)))))))))
 (Prod.fst x_2))))
 (Lv.toN L (Prod.fst x_1))))
 (Lv.add L (Lv.llen L Lt [])
 (Lv.llen L Lt
 (Lv.drop L Lt
 (Lv.take L Lt
 (Prod.fst
 (LexF.rScan F
 (Lv.scat L (Lv.scat L (Lv.ext L s (Lv.toN L (Lv.cast L 0)) (Lv.toN L (Prod.fst x))) (Prod.snd (Prod.snd x)))
 (Lv.ext L s (Lv.toN L (Prod.fst (Prod.snd x))) (Lv.toN L (Lv.cast L (Lv.slen L s)))))))
 (Lv.toN L
 (Lv.ar L BinOp.sub IntKind.i64
 (Lv.cast L
 (Lv.llen L Lt
 (Prod.fst
 (LexF.rScan F
 (Lv.scat L (Lv.scat L (Lv.ext L s (Lv.toN L (Lv.cast L 0)) (Lv.toN L (Prod.fst x))) (Prod.snd (Prod.snd x)))
 (Lv.ext L s (Lv.toN L (Prod.fst (Prod.snd x))) (Lv.toN L (Lv.cast L (Lv.slen L s)))))))))
 (Prod.fst x_2))))
 (Lv.toN L (Prod.fst x_1)))))),
 0, 0, ()) =
 (Prod.fst (LexF.rRescan F s x), Prod.fst (Prod.snd (LexF.rRescan F s x)), Prod.snd (Prod.snd (LexF.rRescan F s x)), ())))))
 (VC.ok
 (St.mk 174
 [(0, V.c (C.str s)), (3, V.c (C.ptr 1 0)), (4, V.c (C.ptr 2 0)),
 (7, V.c (C.sl Lt (Prod.fst (LexF.rScan F s)))),
 (10,
 V.c
 (C.str
 (Lv.scat L (Lv.scat L (Lv.ext L s (Lv.toN L (Lv.cast L 0)) (Lv.toN L (Prod.fst x))) (Prod.snd (Prod.snd x)))
 (Lv.ext L s (Lv.toN L (Prod.fst (Prod.snd x))) (Lv.toN L (Lv.cast L (Lv.slen L s))))))),
 (11,
 V.c
 (C.sl Lt
 (Prod.fst
 (LexF.rScan F
 (Lv.scat L (Lv.scat L (Lv.ext L s (Lv.toN L (Lv.cast L 0)) (Lv.toN L (Prod.fst x))) (Prod.snd (Prod.snd x)))
 (Lv.ext L s (Lv.toN L (Prod.fst (Prod.snd x))) (Lv.toN L (Lv.cast L (Lv.slen L s))))))))),
 (12, V.c (C.ptr 3 0))]
 [(0, Ob.amb), (1, Ob.box 35 [C.int IntKind.i64 (Prod.fst x), C.int IntKind.i64 (Prod.fst (Prod.snd x)), C.str (Prod.snd (Prod.snd x))]),
 (2, Ob.box 40 [C.int IntKind.i64 0, C.int IntKind.i64 0, C.nils]),
 (3, Ob.box 40 [C.int IntKind.i64 (Prod.fst x_1), C.int IntKind.i64 (Lv.ar L BinOp.add IntKind.i64 (Prod.fst x_2) 1), C.nils])]
 4 =
 St.mk 174
 [(0, V.c (C.str s)), (3, V.c (C.ptr 1 0)), (4, V.c (C.ptr 2 0)),
 (7, V.c (C.sl Lt (Prod.fst (LexF.rScan F s)))),
 (10,
 V.c
 (C.str
 (Lv.scat L (Lv.scat L (Lv.ext L s (Lv.toN L (Lv.cast L 0)) (Lv.toN L (Prod.fst x))) (Prod.snd (Prod.snd x)))
 (Lv.ext L s (Lv.toN L (Prod.fst (Prod.snd x))) (Lv.toN L (Lv.cast L (Lv.slen L s))))))),
 (11,
 V.c
 (C.sl Lt
 (Prod.fst
 (LexF.rScan F
 (Lv.scat L (Lv.scat L (Lv.ext L s (Lv.toN L (Lv.cast L 0)) (Lv.toN L (Prod.fst x))) (Prod.snd (Prod.snd x)))
 (Lv.ext L s (Lv.toN L (Prod.fst (Prod.snd x))) (Lv.toN L (Lv.cast L (Lv.slen L s))))))))),
 (12, V.c (C.ptr 3 0))]
 [(0, Ob.amb), (1, Ob.box 35 [C.int IntKind.i64 (Prod.fst x), C.int IntKind.i64 (Prod.fst (Prod.snd x)), C.str (Prod.snd (Prod.snd x))]),
 (2, Ob.box 40 [C.int IntKind.i64 0, C.int IntKind.i64 0, C.nils]),
 (3, Ob.box 40 [C.int IntKind.i64 (Prod.fst x_1), C.int IntKind.i64 (Lv.ar L BinOp.add IntKind.i64 (Prod.fst x_2) 1), C.nils])]
 4 ∧
 J (Lv.ar L BinOp.add IntKind.i64 (Prod.fst x_2) 1, ()) ∧
 nu (Lv.ar L BinOp.add IntKind.i64 (Prod.fst x_2) 1, ()) < nu x_2))))))))
 (VC.obl
 (Lv.le3 L (Prod.fst x_1)
 (Lv.ar L BinOp.sub IntKind.i64
 (Lv.cast L
 (Lv.llen L Lt
 (Prod.fst
 (LexF.rScan F
 (Lv.scat L (Lv.scat L (Lv.ext L s (Lv.toN L (Lv.cast L 0)) (Lv.toN L (Prod.fst x))) (Prod.snd (Prod.snd x)))
 (Lv.ext L s (Lv.toN L (Prod.fst (Prod.snd x))) (Lv.toN L (Lv.cast L (Lv.slen L s)))))))))
 (Prod.fst x_2))
 (Lv.llen L Lt
 (Prod.fst
 (LexF.rScan F
 (Lv.scat L (Lv.scat L (Lv.ext L s (Lv.toN L (Lv.cast L 0)) (Lv.toN L (Prod.fst x))) (Prod.snd (Prod.snd x)))
 (Lv.ext L s (Lv.toN L (Prod.fst (Prod.snd x))) (Lv.toN L (Lv.cast L (Lv.slen L s)))))))))
 (VC.obl
 (Lv.room L
 (Lv.add L (Lv.llen L Lt [])
 (Lv.llen L Lt
 (Lv.drop L Lt
 (Lv.take L Lt
 (Prod.fst
 (LexF.rScan F
 (Lv.scat L (Lv.scat L (Lv.ext L s (Lv.toN L (Lv.cast L 0)) (Lv.toN L (Prod.fst x))) (Prod.snd (Prod.snd x)))
 (Lv.ext L s (Lv.toN L (Prod.fst (Prod.snd x))) (Lv.toN L (Lv.cast L (Lv.slen L s)))))))
 (Lv.toN L
 (Lv.ar L BinOp.sub IntKind.i64
 (Lv.cast L
 (Lv.llen L Lt
 (Prod.fst
 (LexF.rScan F
 (Lv.scat L (Lv.scat L (Lv.ext L s (Lv.toN L (Lv.cast L 0)) (Lv.toN L (Prod.fst x))) (Prod.snd (Prod.snd x)))
 (Lv.ext L s (Lv.toN L (Prod.fst (Prod.snd x))) (Lv.toN L (Lv.cast L (Lv.slen L s)))))))))
 (Prod.fst x_2))))
 (Lv.toN L (Prod.fst x_1)))))
 32)
 (VC.ok
 (((Prod.fst x_1, Prod.fst x_2,
 Lv.take L Lt
 (Lv.app L Lt []
 (Lv.drop L Lt
 (Lv.take L Lt
 (Prod.fst
 (LexF.rScan F
 (Lv.scat L (Lv.scat L (Lv.ext L s (Lv.toN L (Lv.cast L 0)) (Lv.toN L (Prod.fst x))) (Prod.snd (Prod.snd x)))
 (Lv.ext L s (Lv.toN L (Prod.fst (Prod.snd x))) (Lv.toN L (Lv.cast L (Lv.slen L s)))))))
 (Lv.toN L
 (Lv.ar L BinOp.sub IntKind.i64
 (Lv.cast L
 (Lv.llen L Lt
 (Prod.fst
 (LexF.rScan F
 (Lv.scat L (Lv.scat L (Lv.ext L s (Lv.toN L (Lv.cast L 0)) (Lv.toN L (Prod.fst x))) (Prod.snd (Prod.snd x)))
 (Lv.ext L s (Lv.toN L (Prod.fst (Prod.snd x))) (Lv.toN L (Lv.cast L (Lv.slen L s)))))))))
 (Prod.fst x_2))))
 (Lv.toN L (Prod.fst x_1))))
 (Lv.add L (Lv.llen L Lt [])
 (Lv.llen L Lt
 (Lv.drop L Lt
 (Lv.take L Lt
 (Prod.fst
 (LexF.rScan F
 (Lv.scat L (Lv.scat L (Lv.ext L s (Lv.toN L (Lv.cast L 0)) (Lv.toN L (Prod.fst x))) (Prod.snd (Prod.snd x)))
 (Lv.ext L s (Lv.toN L (Prod.fst (Prod.snd x))) (Lv.toN L (Lv.cast L (Lv.slen L s)))))))
 (Lv.toN L
 (Lv.ar L BinOp.sub IntKind.i64
 (Lv.cast L
 (Lv.llen L Lt
 (Prod.fst
 (LexF.rScan F
 (Lv.scat L (Lv.scat L (Lv.ext L s (Lv.toN L (Lv.cast L 0)) (Lv.toN L (Prod.fst x))) (Prod.snd (Prod.snd x)))
 (Lv.ext L s (Lv.toN L (Prod.fst (Prod.snd x))) (Lv.toN L (Lv.cast L (Lv.slen L s)))))))))
 (Prod.fst x_2))))
 (Lv.toN L (Prod.fst x_1)))))),
 0, 0, ()) =
 (Prod.fst (LexF.rRescan F s x), Prod.fst (Prod.snd (LexF.rRescan F s x)), Prod.snd (Prod.snd (LexF.rRescan F s x)), ()))))))
 (VC.obl
 (Lv.le3 L (Prod.fst x_1)
 (Lv.ar L BinOp.sub IntKind.i64
 (Lv.cast L
 (Lv.llen L Lt
 (Prod.fst
 (LexF.rScan F
 (Lv.scat L (Lv.scat L (Lv.ext L s (Lv.toN L (Lv.cast L 0)) (Lv.toN L (Prod.fst x))) (Prod.snd (Prod.snd x)))
 (Lv.ext L s (Lv.toN L (Prod.fst (Prod.snd x))) (Lv.toN L (Lv.cast L (Lv.slen L s)))))))))
 (Prod.fst x_2))
 (Lv.llen L Lt
 (Prod.fst
 (LexF.rScan F
 (Lv.scat L (Lv.scat L (Lv.ext L s (Lv.toN L (Lv.cast L 0)) (Lv.toN L (Prod.fst x))) (Prod.snd (Prod.snd x)))
 (Lv.ext L s (Lv.toN L (Prod.fst (Prod.snd x))) (Lv.toN L (Lv.cast L (Lv.slen L s)))))))))
 (VC.obl
 (Lv.room L
 (Lv.add L (Lv.llen L Lt [])
 (Lv.llen L Lt
 (Lv.drop L Lt
 (Lv.take L Lt
 (Prod.fst
 (LexF.rScan F
 (Lv.scat L (Lv.scat L (Lv.ext L s (Lv.toN L (Lv.cast L 0)) (Lv.toN L (Prod.fst x))) (Prod.snd (Prod.snd x)))
 (Lv.ext L s (Lv.toN L (Prod.fst (Prod.snd x))) (Lv.toN L (Lv.cast L (Lv.slen L s)))))))
 (Lv.toN L
 (Lv.ar L BinOp.sub IntKind.i64
 (Lv.cast L
 (Lv.llen L Lt
 (Prod.fst
 (LexF.rScan F
 (Lv.scat L (Lv.scat L (Lv.ext L s (Lv.toN L (Lv.cast L 0)) (Lv.toN L (Prod.fst x))) (Prod.snd (Prod.snd x)))
 (Lv.ext L s (Lv.toN L (Prod.fst (Prod.snd x))) (Lv.toN L (Lv.cast L (Lv.slen L s)))))))))
 (Prod.fst x_2))))
 (Lv.toN L (Prod.fst x_1)))))
 32)
 (VC.ok
 (((Prod.fst x_1, Prod.fst x_2,
 Lv.take L Lt
 (Lv.app L Lt []
 (Lv.drop L Lt
 (Lv.take L Lt
 (Prod.fst
 (LexF.rScan F
 (Lv.scat L (Lv.scat L (Lv.ext L s (Lv.toN L (Lv.cast L 0)) (Lv.toN L (Prod.fst x))) (Prod.snd (Prod.snd x)))
 (Lv.ext L s (Lv.toN L (Prod.fst (Prod.snd x))) (Lv.toN L (Lv.cast L (Lv.slen L s)))))))
 (Lv.toN L
 (Lv.ar L BinOp.sub IntKind.i64
 (Lv.cast L
 (Lv.llen L Lt
 (Prod.fst
 (LexF.rScan F
 (Lv.scat L (Lv.scat L (Lv.ext L s (Lv.toN L (Lv.cast L 0)) (Lv.toN L (Prod.fst x))) (Prod.snd (Prod.snd x)))
 (Lv.ext L s (Lv.toN L (Prod.fst (Prod.snd x))) (Lv.toN L (Lv.cast L (Lv.slen L s)))))))))
 (Prod.fst x_2))))
 (Lv.toN L (Prod.fst x_1))))
 (Lv.add L (Lv.llen L Lt [])
 (Lv.llen L Lt
 (Lv.drop L Lt
 (Lv.take L Lt
 (Prod.fst
 (LexF.rScan F
 (Lv.scat L (Lv.scat L (Lv.ext L s (Lv.toN L (Lv.cast L 0)) (Lv.toN L (Prod.fst x))) (Prod.snd (Prod.snd x)))
 (Lv.ext L s (Lv.toN L (Prod.fst (Prod.snd x))) (Lv.toN L (Lv.cast L (Lv.slen L s)))))))
 (Lv.toN L
 (Lv.ar L BinOp.sub IntKind.i64
 (Lv.cast L
 (Lv.llen L Lt
 (Prod.fst
 (LexF.rScan F
 (Lv.scat L (Lv.scat L (Lv.ext L s (Lv.toN L (Lv.cast L 0)) (Lv.toN L (Prod.fst x))) (Prod.snd (Prod.snd x)))
 (Lv.ext L s (Lv.toN L (Prod.fst (Prod.snd x))) (Lv.toN L (Lv.cast L (Lv.slen L s)))))))))
 (Prod.fst x_2))))
 (Lv.toN L (Prod.fst x_1)))))),
 0, 0, ()) =
 (Prod.fst (LexF.rRescan F s x), Prod.fst (Prod.snd (LexF.rRescan F s x)), Prod.snd (Prod.snd (LexF.rRescan F s x)), ())))))))))))))))))))
 (VC.ok (((0, 0, []), 0, 3, ()) = (Prod.fst (LexF.rRescan F s x), Prod.fst (Prod.snd (LexF.rRescan F s x)), Prod.snd (Prod.snd (LexF.rRescan F s x)), ()))))))
theorem n34_eq (L : Lv) (F : LexF) (I : Ds [It] → Prop) (mu : Ds [It] → Nat) (J : Ds [It] → Prop) (nu : Ds [It] → Nat) (s : ByteArray) (x : Ed) : vcO L F [24, 71] (D34 (a34 L I mu J nu)) (S34 F) (s, x, ()) = n34 L F I mu J nu s x := by kernel_rfl
theorem n34_go (L : Lv) (F : LexF) (I : Ds [It] → Prop) (mu : Ds [It] → Nat) (J : Ds [It] → Prop) (nu : Ds [It] → Nat) (s : ByteArray) (x : Ed) (h : VC.holds (n34 L F I mu J nu s x)) : Holds (vcO L F [24, 71] (D34 (a34 L I mu J nu)) (S34 F) (s, x, ())) := Holds.of_eq (n34_eq L F I mu J nu s x) h

set_option maxHeartbeats 4000000 in
theorem ok34 (F : LexF) (hs : F.pB = fun s => s.size ≤ 281474976710656) (h : F.rRescan = rescanF) (hsc : F.rScan = scanF) (hed : F.rIsEdit = isEditF) (k1 : SpecOk prog 24 (S24 F)) (k2 : SpecOk prog 71 (S71 F)) : SpecOk prog 34 (S34 F) := by
  refine contract_by hm hE D34 fnok34 _ fun (z : ByteArray × Ed × Unit) hpre => ?_
  obtain ⟨s, x, ⟨⟩⟩ := z
  have hpre' : F.pB x.2.2 := hpre
  rw [hs] at hpre'
  obtain ⟨l, hl⟩ : ∃ l, l = (scanF s).1 := ⟨_, rfl⟩
  obtain ⟨m, hmm⟩ : ∃ m, m = (scanF (nowF s x)).1 := ⟨_, rfl⟩
  let I : Int × Unit → Prop := fun z => 0 ≤ z.1 ∧ z.1 ≤ (min l.length m.length : Nat) ∧ z.1.toNat + hdT x.1 (l.drop z.1.toNat) (m.drop z.1.toNat) = hdT x.1 l m
  let mu : Int × Unit → Nat := fun z => (((min l.length m.length : Nat) : Int) - z.1).toNat
  let J : Int × Unit → Prop := fun z => 0 ≤ z.1 ∧ z.1 ≤ (min l.length m.length : Nat) ∧ z.1.toNat + tlT x.2.1 ((x.2.2.size : Int) - (x.2.1 - x.1)) (l.reverse.drop z.1.toNat) (m.reverse.drop z.1.toNat) = tlT x.2.1 ((x.2.2.size : Int) - (x.2.1 - x.1)) l.reverse m.reverse
  let nu : Int × Unit → Nat := fun z => (((min l.length m.length : Nat) : Int) - z.1).toNat
  refine pack _ 0 (a34 Lv.std I mu J nu) (only_ok (F := F) (l := [24, 71]) (by simp only [List.forall_mem_cons]; exact ⟨at_ok k1 (by kernel_rfl), at_ok k2 (by kernel_rfl), fun _ h => by cases h⟩)) ?_
  refine n34_go Lv.std F I mu J nu s x ?_
  have hnow : s.extract (0 : Int).toNat x.1.toNat ++ x.2.2 ++ s.extract x.2.1.toNat s.size = nowF s x := rfl
  simp only [n34, VC.holds, std_cmp, std_scmp, std_ar_add, std_ar_sub, std_ar_mul, std_ar, std_dv, std_shf, std_conv, std_mn, std_mx, std_beq, std_bnot, std_band, std_scat, std_byte, std_ext, std_slen, std_strOf, std_bytes, std_llen, std_get, std_setl, std_app, std_take, std_drop, std_rep, std_mhas, std_mval, std_mput, std_cast, std_toN, std_sub, std_add, std_inR, std_le3, std_leN, std_ltN, std_ne0, std_nonneg, std_catOk, std_room, std_mkOk, cmp_lss_t, cmp_lss_f, cmp_leq_t, cmp_leq_f, cmp_gtr_t, cmp_gtr_f, cmp_geq_t, cmp_geq_f, cmp_eql_t, cmp_eql_f, cmp_neq_t, cmp_neq_f, scmp_eql_t, scmp_eql_f, scmp_neq_t, scmp_neq_f, dflt_int, dflt_bool, dflt_str, dflt_sl, dflt_pair, h, hsc, hed, nc0, Int.toNat_natCast, hnow, ← hl, ← hmm, Prod.mk.injEq, and_true, true_and]
  obtain ⟨H, hH⟩ : ∃ H, H = hdT x.1 l m := ⟨_, rfl⟩
  obtain ⟨T, hT⟩ : ∃ T, T = tlT x.2.1 ((x.2.2.size : Int) - (x.2.1 - x.1)) l.reverse m.reverse := ⟨_, rfl⟩
  have mkI : ∀ k : Nat, k ≤ min l.length m.length → k + hdT x.1 (l.drop k) (m.drop k) = H → I ((k : Int), ()) := fun k h1 h2 =>
    ⟨by show (0 : Int) ≤ (k : Int); omega, by show (k : Int) ≤ (min l.length m.length : Nat); omega, by show (k : Int).toNat + hdT x.1 (l.drop (k : Int).toNat) (m.drop (k : Int).toNat) = _; rw [Int.toNat_natCast, h2, hH]⟩
  have mkJ : ∀ k : Nat, k ≤ min l.length m.length → k + tlT x.2.1 ((x.2.2.size : Int) - (x.2.1 - x.1)) (l.reverse.drop k) (m.reverse.drop k) = T → J ((k : Int), ()) := fun k h1 h2 =>
    ⟨by show (0 : Int) ≤ (k : Int); omega, by show (k : Int) ≤ (min l.length m.length : Nat); omega, by show (k : Int).toNat + tlT _ _ (l.reverse.drop (k : Int).toNat) (m.reverse.drop (k : Int).toNat) = _; rw [Int.toNat_natCast, h2, hT]⟩
  have I0 : I (0, ()) := mkI 0 (Nat.zero_le _) (by rw [List.drop_zero, List.drop_zero, Nat.zero_add, hH])
  refine ⟨fun e1 => ?_, fun e1 => ⟨fun hed => ?_, fun hed => ?_⟩⟩
  · rw [resc_e1 e1]; exact ⟨rfl, rfl, rfl⟩
  rotate_left
  · rw [resc_e2 e1 hed]; exact ⟨rfl, rfl, rfl⟩
  obtain ⟨e2, e3, e4⟩ : 0 ≤ x.1 ∧ x.1 ≤ x.2.1 ∧ x.2.1 ≤ s.size := by
    have hed' := hed
    unfold isEditF at hed'
    simp only [Bool.and_eq_true, decide_eq_true_eq] at hed'
    exact ⟨hed'.1.1, hed'.1.2, hed'.2⟩
  obtain ⟨z1, z2, z3⟩ := scan_facts e1
  have y1 := ext_size s (0 : Int).toNat x.1.toNat
  have y2 := ext_size s x.2.1.toNat s.size
  refine ⟨⟨Int.le_refl 0, e2, by omega⟩, by omega, ⟨by omega, e4, Int.le_refl _⟩, by rw [app_size]; omega, fun e5 => ?_, fun e5 => ⟨I0, ?_⟩⟩
  · rw [resc_e3 e1 hed e5]; exact ⟨rfl, rfl, rfl⟩
  obtain ⟨v1, v2, v3⟩ := scan_facts e5
  have hok := resc_ok e1 hed e5
  rw [← hl, ← hmm, ← hH, ← hT] at hok
  rw [← hl] at z2 z3
  rw [← hmm] at v2 v3
  have hHle := hdT_le x.1 l m
  have hTle := tlT_sum x.1 x.2.1 x.2.2.size e3 l m
  rw [← hH] at hHle
  rw [← hH, ← hT] at hTle
  have hno := no_overlap x.1 x.2.1 x.2.2.size e3 l m
  rw [← hH] at hno
  have J0 : J (0, ()) := mkJ 0 (Nat.zero_le _) (by rw [List.drop_zero, List.drop_zero, Nat.zero_add, hT])
  have unJ : ∀ z, J z → 0 ≤ z.1 ∧ z.1 ≤ (min l.length m.length : Nat) ∧ z.1.toNat + tlT x.2.1 ((x.2.2.size : Int) - (x.2.1 - x.1)) (l.reverse.drop z.1.toNat) (m.reverse.drop z.1.toNat) = T := fun z hz => by
    obtain ⟨a1, a2, a3⟩ := hz
    rw [← hT] at a3
    exact ⟨a1, a2, a3⟩
  have hstep := hdT_drop x.1 l m
  have hend := hdT_end x.1 l m
  have tstep := tlT_drop x.2.1 ((x.2.2.size : Int) - (x.2.1 - x.1)) l m
  have tend := tlT_end x.2.1 ((x.2.2.size : Int) - (x.2.1 - x.1)) l m
  have hfin : ∀ j : Int, j = T → (0 ≤ (H : Int) ∧ (H : Int) ≤ IntKind.i64.wrap ((m.length : Int) - j) ∧ IntKind.i64.wrap ((m.length : Int) - j) ≤ m.length) ∧
      ((([] : List Lx).length + (List.drop H (List.take (IntKind.i64.wrap ((m.length : Int) - j)).toNat m)).length ≤ 140737488355328 ∧ (([] : List Lx).length + (List.drop H (List.take (IntKind.i64.wrap ((m.length : Int) - j)).toNat m)).length) * 32 ≤ 140737488355328) ∧
      ((H : Int), j, List.take (([] : List Lx).length + (List.drop H (List.take (IntKind.i64.wrap ((m.length : Int) - j)).toNat m)).length) (([] : List Lx) ++ List.drop H (List.take (IntKind.i64.wrap ((m.length : Int) - j)).toNat m))) = (rescanF s x).1 ∧ 0 = (rescanF s x).2.1 ∧ 0 = (rescanF s x).2.2) := fun j hj => by
    subst hj
    have ew : IntKind.i64.wrap ((m.length : Int) - T) = (m.length : Int) - T := wrap_i64 (by omega) (by omega)
    rw [ew, show ((m.length : Int) - T).toNat = m.length - T by omega, hok]
    have hlen : (List.drop H (List.take (m.length - T) m)).length ≤ 900 := by rw [List.length_drop, List.length_take]; omega
    refine ⟨⟨by omega, by omega, by omega⟩, ⟨by simp only [List.length_nil]; omega, by simp only [List.length_nil]; omega⟩, ?_, rfl, rfl⟩
    rw [List.nil_append, List.length_nil, Nat.zero_add, List.take_length]
  clear hok
  rintro ⟨i, _⟩ ⟨i0, i1, i2⟩
  simp only at i0 i1 i2 ⊢
  rw [← hH] at i2
  obtain ⟨k, rfl⟩ : ∃ k : Nat, i = k := ⟨i.toNat, by omega⟩
  rw [Int.toNat_natCast] at i2
  have ewi : IntKind.i64.wrap ((k : Int) + 1) = (k : Int) + 1 := wrap_i64 (by omega) (by omega)
  simp only [ewi, Int.toNat_natCast]
  clear hH hT hpre hl hmm I0
  refine ⟨fun hlt => ⟨fun hlt2 => ⟨⟨by omega, by omega⟩, fun hat => ⟨⟨by omega, by omega⟩, ⟨by omega, by omega⟩, fun heq => ?_, fun hne => ?_⟩, fun hat => ?_⟩, fun hge => ?_⟩, fun hge => ?_⟩
  · have hk1 : k < l.length := by omega
    have hk2 : k < m.length := by omega
    simp only [List.getElem?_eq_getElem hk1, List.getElem?_eq_getElem hk2, Option.getD_some, Bool.and_eq_true, cmp_eql_t, scmp_eql_t, and_true] at heq hat
    have e := hstep k hk1 hk2
    rw [if_pos ⟨hat, (lx_eq _ _).2 heq⟩] at e
    refine ⟨?_, by show (((min l.length m.length : Nat) : Int) - ((k : Int) + 1)).toNat < (((min l.length m.length : Nat) : Int) - k).toNat; omega⟩
    rw [show (k : Int) + 1 = ((k + 1 : Nat) : Int) from rfl]
    exact mkI (k + 1) (by omega) (by omega)
  all_goals
    have hkH : k = H := by
      first
        | (have hk1 : k < l.length := by omega
           have hk2 : k < m.length := by omega
           simp only [List.getElem?_eq_getElem hk1, List.getElem?_eq_getElem hk2, Option.getD_some] at hne
           have e := hstep k hk1 hk2
           rw [if_neg (fun hc => by
             have hc2 := (lx_eq _ _).1 hc.2
             have : (VM.compare BinOp.eql l[k].1 m[k].1 && (scompare BinOp.eql l[k].2.1 m[k].2.1 && (VM.compare BinOp.eql l[k].2.2 m[k].2.2 && true))) = true := by simp only [Bool.and_eq_true, cmp_eql_t, scmp_eql_t, and_true]; exact hc2
             rw [this] at hne; cases hne)] at e
           omega)
        | (have hk1 : k < l.length := by omega
           have hk2 : k < m.length := by omega
           simp only [List.getElem?_eq_getElem hk1, Option.getD_some] at hat
           have e := hstep k hk1 hk2
           rw [if_neg (fun hc => by have := hc.1; omega)] at e
           omega)
        | (have e := hend k (by omega)
           omega)
    subst hkH
    refine ⟨J0, ?_⟩
    clear J0 i2 hstep hend
    rintro ⟨j, _⟩ hJ
    obtain ⟨j0, j1, j2⟩ := unJ _ hJ
    clear hJ
    simp only at j0 j1 j2 ⊢
    obtain ⟨n, rfl⟩ : ∃ n : Nat, j = n := ⟨j.toNat, by omega⟩
    rw [Int.toNat_natCast] at j2
    have e2 : IntKind.i64.wrap ((l.length : Int) - 1) = (l.length : Int) - 1 := wrap_i64 (by omega) (by omega)
    have e3 : IntKind.i64.wrap ((m.length : Int) - 1) = (m.length : Int) - 1 := wrap_i64 (by omega) (by omega)
    have e4 : IntKind.i64.wrap ((l.length : Int) - 1 - n) = (l.length : Int) - 1 - n := wrap_i64 (by omega) (by omega)
    have e5 : IntKind.i64.wrap ((m.length : Int) - 1 - n) = (m.length : Int) - 1 - n := wrap_i64 (by omega) (by omega)
    have e6 : IntKind.i64.wrap (x.2.1 - x.1) = x.2.1 - x.1 := wrap_i64 (by omega) (by omega)
    have e7 : IntKind.i64.wrap ((x.2.2.size : Int) - (x.2.1 - x.1)) = (x.2.2.size : Int) - (x.2.1 - x.1) := wrap_i64 (by omega) (by omega)
    have e8 : IntKind.i64.wrap ((n : Int) + 1) = (n : Int) + 1 := wrap_i64 (by omega) (by omega)
    simp only [e2, e3, e4, e5, e8]
    clear e2 e3 e4 e5 e6 e7 e8
    refine ⟨fun l1 => ⟨fun l2 => ?_, fun g2 => ?_⟩, fun g1 => ?_⟩
    · have hn1 : n < l.length := by omega
      have hn2 : n < m.length := by omega
      have t1 : ((l.length : Int) - 1 - n).toNat = l.length - 1 - n := by omega
      have t2 : ((m.length : Int) - 1 - n).toNat = m.length - 1 - n := by omega
      have hi1 : l.length - 1 - n < l.length := by omega
      have hi2 : m.length - 1 - n < m.length := by omega
      simp only [t1, t2, List.getElem?_eq_getElem hi1, List.getElem?_eq_getElem hi2, Option.getD_some]
      have e := tstep n hn1 hn2
      have hb := z3 _ (List.getElem_mem hi1)
      have hb2 := v3 _ (List.getElem_mem hi2)
      have hns : ((nowF s x).size : Int) = x.1 + x.2.2.size + (s.size - x.2.1) := by unfold nowF; rw [app_size, app_size, ext_size, ext_size]; omega
      have ea : IntKind.i64.wrap (m[m.length - 1 - n].2.2 - l[l.length - 1 - n].2.2) = m[m.length - 1 - n].2.2 - l[l.length - 1 - n].2.2 := wrap_i64 (by omega) (by omega)
      have eb : IntKind.i64.wrap (((nowF s x).size : Int) - s.size) = ((nowF s x).size : Int) - s.size := wrap_i64 (by omega) (by omega)
      simp only [ea, eb]
      refine ⟨⟨by omega, by omega⟩, ⟨by omega, by omega⟩, fun hto => ?_, fun hto => ⟨fun hk => ?_, fun hk => ⟨fun hx => ?_, fun hx => ⟨fun hp => ?_, fun hp => ?_⟩⟩⟩⟩
      · rw [if_neg (fun hc => by have := hc.1; omega)] at e
        exact hfin n (by omega)
      · rw [if_neg (fun hc => hk hc.2.1)] at e
        exact hfin n (by omega)
      · rw [if_neg (fun hc => hx hc.2.2.1)] at e
        exact hfin n (by omega)
      · rw [if_neg (fun hc => by have := hc.2.2.2; omega)] at e
        exact hfin n (by omega)
      · rw [if_pos ⟨hto, hk, hx, by omega⟩] at e
        refine ⟨?_, by show (((min l.length m.length : Nat) : Int) - ((n : Int) + 1)).toNat < (((min l.length m.length : Nat) : Int) - n).toNat; omega⟩
        rw [show (n : Int) + 1 = ((n + 1 : Nat) : Int) from rfl]
        exact mkJ (n + 1) (by omega) (by omega)
    · have e := tend n (by omega)
      exact hfin n (by omega)
    · have e := tend n (by omega)
      exact hfin n (by omega)
end Go.Proofs.Tryd
set_option autoImplicit false
set_option linter.all false
namespace Go.Proofs.Tryd
open Go Go.VM
set_option maxRecDepth 100000
def law1 : VM.Spec := ⟨[.str], [.bool], fun _ => True, fun _ => (true, ())⟩
def lawL : VM.Spec := ⟨[.sl Lt], [.bool], fun _ => True, fun _ => (true, ())⟩
def law2 : VM.Spec := ⟨[.str, .str], [.bool], fun _ => True, fun _ => (true, ())⟩
def lawE : VM.Spec := ⟨[.str, Et], [.bool], fun _ => True, fun _ => (true, ())⟩
def n22 (L : Lv) (F : LexF)  : VC :=
 VC.obl True
 (VC.obl
 (LexF.pL F
 (Lv.take L Lt
 [(1, ByteArray.mk #[97], 0), (1, ByteArray.mk #[98], 0), (4, ByteArray.mk #[60], 0), (4, ByteArray.mk #[61], 0), (2, ByteArray.mk #[49], 0), (2, ByteArray.mk #[50], 0)] 6))
 (VC.obl True
 (VC.obl (LexF.pB F (Prod.snd (Prod.snd (Prod.fst (Prod.snd (ByteArray.mk #[97, 32, 98, 32, 99], (3, 3, ByteArray.mk #[100]), ()))))))
 (VC.br (Lv.cmp L BinOp.neq (Prod.snd (Prod.snd (LexF.scan F (Prod.fst (ByteArray.mk #[112, 117, 116, 32, 120, 32, 123, 49, 125, 59, 37, 32, 111, 110, 101], ()))))) 0)
 (VC.ok ((false, ()) = (LexF.awake F, ())))
 (VC.br
 (Lv.cmp L BinOp.neq
 (Prod.snd
 (LexF.join F
 (Lv.take L Lt
 [(1, ByteArray.mk #[97], 0), (1, ByteArray.mk #[98], 0), (4, ByteArray.mk #[60], 0), (4, ByteArray.mk #[61], 0), (2, ByteArray.mk #[49], 0), (2, ByteArray.mk #[50], 0)] 6)))
 0)
 (VC.ok ((false, ()) = (LexF.awake F, ())))
 (VC.br
 (Lv.cmp L BinOp.neq
 (Prod.snd
 (LexF.diff F (Prod.fst (ByteArray.mk #[108, 101, 116, 32, 97, 32, 61, 32, 49, 59], ByteArray.mk #[108, 101, 116, 32, 97, 98, 32, 61, 32, 49, 59], ()))
 (Prod.fst (Prod.snd (ByteArray.mk #[108, 101, 116, 32, 97, 32, 61, 32, 49, 59], ByteArray.mk #[108, 101, 116, 32, 97, 98, 32, 61, 32, 49, 59], ())))))
 0)
 (VC.ok ((false, ()) = (LexF.awake F, ())))
 (VC.br (Lv.cmp L BinOp.neq (Prod.snd (Prod.snd (LexF.rescan F (Prod.fst (ByteArray.mk #[97, 32, 98, 32, 99], (3, 3, ByteArray.mk #[100]), ())) (3, 3, ByteArray.mk #[100])))) 0)
 (VC.ok ((false, ()) = (LexF.awake F, ())))
 (VC.br (Lv.cmp L BinOp.neq (Prod.fst (Prod.snd (LexF.scan F (Prod.fst (ByteArray.mk #[112, 117, 116, 32, 120, 32, 123, 49, 125, 59, 37, 32, 111, 110, 101], ()))))) 0)
 (VC.ok ((false, ()) = (LexF.awake F, ())))
 (VC.br
 (Lv.cmp L BinOp.neq
 (Lv.cast L
 (Lv.llen L Lt
 (Prod.fst (LexF.scan F (Prod.fst (ByteArray.mk #[112, 117, 116, 32, 120, 32, 123, 49, 125, 59, 37, 32, 111, 110, 101], ()))))))
 6)
 (VC.ok ((false, ()) = (LexF.awake F, ())))
 (VC.obl
 (Lv.inR L 4
 (Lv.llen L Lt
 (Prod.fst (LexF.scan F (Prod.fst (ByteArray.mk #[112, 117, 116, 32, 120, 32, 123, 49, 125, 59, 37, 32, 111, 110, 101], ()))))))
 (VC.br
 (Lv.bnot L
 (Lv.band L
 (Lv.cmp L BinOp.eql
 (Prod.fst
 (Lv.get L Lt
 (Prod.fst (LexF.scan F (Prod.fst (ByteArray.mk #[112, 117, 116, 32, 120, 32, 123, 49, 125, 59, 37, 32, 111, 110, 101], ())))) (Lv.toN L 4)))
 4)
 (Lv.band L
 (Lv.scmp L BinOp.eql
 (Prod.fst
 (Prod.snd
 (Lv.get L Lt
 (Prod.fst (LexF.scan F (Prod.fst (ByteArray.mk #[112, 117, 116, 32, 120, 32, 123, 49, 125, 59, 37, 32, 111, 110, 101], ())))) (Lv.toN L 4))))
 (ByteArray.mk #[125]))
 (Lv.band L
 (Lv.cmp L BinOp.eql
 (Prod.snd
 (Prod.snd
 (Lv.get L Lt
 (Prod.fst (LexF.scan F (Prod.fst (ByteArray.mk #[112, 117, 116, 32, 120, 32, 123, 49, 125, 59, 37, 32, 111, 110, 101], ())))) (Lv.toN L 4))))
 8)
 true))))
 (VC.ok ((false, ()) = (LexF.awake F, ())))
 (VC.br
 (Lv.scmp L BinOp.eql
 (Prod.fst
 (LexF.join F
 (Lv.take L Lt
 [(1, ByteArray.mk #[97], 0), (1, ByteArray.mk #[98], 0), (4, ByteArray.mk #[60], 0), (4, ByteArray.mk #[61], 0), (2, ByteArray.mk #[49], 0),
 (2, ByteArray.mk #[50], 0)]
 6)))
 (ByteArray.mk #[97, 32, 98, 60, 32, 61, 49, 32, 50]))
 (VC.br
 (Lv.band L
 (Lv.cmp L BinOp.eql
 (Prod.fst
 (Prod.fst
 (LexF.diff F (Prod.fst (ByteArray.mk #[108, 101, 116, 32, 97, 32, 61, 32, 49, 59], ByteArray.mk #[108, 101, 116, 32, 97, 98, 32, 61, 32, 49, 59], ()))
 (Prod.fst (Prod.snd (ByteArray.mk #[108, 101, 116, 32, 97, 32, 61, 32, 49, 59], ByteArray.mk #[108, 101, 116, 32, 97, 98, 32, 61, 32, 49, 59], ()))))))
 5)
 (Lv.band L
 (Lv.cmp L BinOp.eql
 (Prod.fst
 (Prod.snd
 (Prod.fst
 (LexF.diff F (Prod.fst (ByteArray.mk #[108, 101, 116, 32, 97, 32, 61, 32, 49, 59], ByteArray.mk #[108, 101, 116, 32, 97, 98, 32, 61, 32, 49, 59], ()))
 (Prod.fst (Prod.snd (ByteArray.mk #[108, 101, 116, 32, 97, 32, 61, 32, 49, 59], ByteArray.mk #[108, 101, 116, 32, 97, 98, 32, 61, 32, 49, 59], ())))))))
 5)
 (Lv.band L
 (Lv.scmp L BinOp.eql
 (Prod.snd
 (Prod.snd
 (Prod.fst
 (LexF.diff F (Prod.fst (ByteArray.mk #[108, 101, 116, 32, 97, 32, 61, 32, 49, 59], ByteArray.mk #[108, 101, 116, 32, 97, 98, 32, 61, 32, 49, 59], ()))
 (Prod.fst (Prod.snd (ByteArray.mk #[108, 101, 116, 32, 97, 32, 61, 32, 49, 59], ByteArray.mk #[108, 101, 116, 32, 97, 98, 32, 61, 32, 49, 59], ())))))))
 (ByteArray.mk #[98]))
 true)))
 (VC.br
 (Lv.cmp L BinOp.eql (Prod.fst (Prod.fst (LexF.rescan F (Prod.fst (ByteArray.mk #[97, 32, 98, 32, 99], (3, 3, ByteArray.mk #[100]), ())) (3, 3, ByteArray.mk #[100])))) 1)
 (VC.br
 (Lv.cmp L BinOp.eql
 (Prod.fst (Prod.snd (Prod.fst (LexF.rescan F (Prod.fst (ByteArray.mk #[97, 32, 98, 32, 99], (3, 3, ByteArray.mk #[100]), ())) (3, 3, ByteArray.mk #[100]))))) 1)
 (VC.obl
 (LexF.pL F
 (Prod.snd (Prod.snd (Prod.fst (LexF.rescan F (Prod.fst (ByteArray.mk #[97, 32, 98, 32, 99], (3, 3, ByteArray.mk #[100]), ())) (3, 3, ByteArray.mk #[100]))))))
 (VC.br
 (LexF.same F
 (Prod.snd (Prod.snd (Prod.fst (LexF.rescan F (Prod.fst (ByteArray.mk #[97, 32, 98, 32, 99], (3, 3, ByteArray.mk #[100]), ())) (3, 3, ByteArray.mk #[100])))))
 (Lv.take L Lt [(1, ByteArray.mk #[98, 100], 2)] 1))
 (VC.ok ((true, ()) = (LexF.awake F, ()))) (VC.ok ((false, ()) = (LexF.awake F, ())))))
 (VC.ok ((false, ()) = (LexF.awake F, ()))))
 (VC.ok ((false, ()) = (LexF.awake F, ()))))
 (VC.ok ((false, ()) = (LexF.awake F, ()))))
 (VC.ok ((false, ()) = (LexF.awake F, ())))))))))))))))
theorem n22_eq (L : Lv) (F : LexF) : vcO L F [23, 25, 29, 31, 33] (D22 a0) (S22 F) () = n22 L F := by kernel_rfl
theorem n22_go (L : Lv) (F : LexF) (h : VC.holds (n22 L F)) : Holds (vcO L F [23, 25, 29, 31, 33] (D22 a0) (S22 F) ()) := Holds.of_eq (n22_eq L F) h
def n3 (L : Lv) (F : LexF) (s : ByteArray)  : VC :=
 VC.obl True
 (VC.br (LexF.short F s)
 (VC.obl True
 (VC.obl True
 (VC.obl (LexF.pL F (Prod.fst (LexF.scan F s)))
 (VC.br (LexF.same F (Prod.fst (LexF.scan F s)) (Prod.fst (LexF.rScan F s)))
 (VC.br (Lv.cmp L BinOp.eql (Prod.fst (Prod.snd (LexF.scan F s))) (Prod.fst (Prod.snd (LexF.rScan F s))))
 (VC.br (Lv.cmp L BinOp.eql (Prod.snd (Prod.snd (LexF.scan F s))) (Prod.snd (Prod.snd (LexF.rScan F s))))
 (VC.obl True (VC.br (LexF.awake F) (VC.ok ((true, ()) = (true, ()))) (VC.ok ((false, ()) = (true, ())))))
 (VC.ok ((false, ()) = (true, ()))))
 (VC.ok ((false, ()) = (true, ()))))
 (VC.ok ((false, ()) = (true, ())))))))
 (VC.obl True (VC.br (LexF.awake F) (VC.ok ((true, ()) = (true, ()))) (VC.ok ((false, ()) = (true, ()))))))
theorem n3_eq (L : Lv) (F : LexF) (s : ByteArray) : vcO L F [21, 22, 23, 24, 25] (D3 a0) law1 (s, ()) = n3 L F s := by kernel_rfl
theorem n3_go (L : Lv) (F : LexF) (s : ByteArray) (h : VC.holds (n3 L F s)) : Holds (vcO L F [21, 22, 23, 24, 25] (D3 a0) law1 (s, ())) := Holds.of_eq (n3_eq L F s) h
def n4 (L : Lv) (F : LexF) (s : ByteArray)  : VC :=
 VC.obl True
 (VC.br (LexF.short F s)
 (VC.obl (LexF.pS F s)
 (VC.obl (LexF.pS F s)
 (VC.br (Lv.cmp L BinOp.eql (Prod.fst (LexF.kind F s)) (Prod.fst (LexF.rKind F s)))
 (VC.br (Lv.cmp L BinOp.eql (Prod.snd (LexF.kind F s)) (Prod.snd (LexF.rKind F s)))
 (VC.obl True (VC.br (LexF.awake F) (VC.ok ((true, ()) = (true, ()))) (VC.ok ((false, ()) = (true, ())))))
 (VC.ok ((false, ()) = (true, ()))))
 (VC.ok ((false, ()) = (true, ()))))))
 (VC.obl True (VC.br (LexF.awake F) (VC.ok ((true, ()) = (true, ()))) (VC.ok ((false, ()) = (true, ()))))))
theorem n4_eq (L : Lv) (F : LexF) (s : ByteArray) : vcO L F [21, 22, 26, 27] (D4 a0) law1 (s, ()) = n4 L F s := by kernel_rfl
theorem n4_go (L : Lv) (F : LexF) (s : ByteArray) (h : VC.holds (n4 L F s)) : Holds (vcO L F [21, 22, 26, 27] (D4 a0) law1 (s, ())) := Holds.of_eq (n4_eq L F s) h
def n5 (L : Lv) (F : LexF) (l : List Lx)  : VC :=
 VC.obl True
 (VC.br (LexF.thin F l)
 (VC.obl
 (Lv.room L (Lv.add L (Lv.llen L Lt []) (Lv.llen L Lt l)) 32)
 (VC.obl
 (LexF.pL F
 (Lv.take L Lt (Lv.app L Lt [] l)
 (Lv.add L (Lv.llen L Lt []) (Lv.llen L Lt l))))
 (VC.obl (LexF.pL F l)
 (VC.br
 (Lv.scmp L BinOp.eql
 (Prod.fst
 (LexF.join F
 (Lv.take L Lt (Lv.app L Lt [] l)
 (Lv.add L (Lv.llen L Lt []) (Lv.llen L Lt l)))))
 (Prod.fst (LexF.rJoin F l)))
 (VC.br
 (Lv.cmp L BinOp.eql
 (Prod.snd
 (LexF.join F
 (Lv.take L Lt (Lv.app L Lt [] l)
 (Lv.add L (Lv.llen L Lt []) (Lv.llen L Lt l)))))
 (Prod.snd (LexF.rJoin F l)))
 (VC.obl
 (LexF.pL F
 (Lv.take L Lt (Lv.app L Lt [] l)
 (Lv.add L (Lv.llen L Lt []) (Lv.llen L Lt l))))
 (VC.br
 (LexF.same F
 (Lv.take L Lt (Lv.app L Lt [] l)
 (Lv.add L (Lv.llen L Lt []) (Lv.llen L Lt l)))
 l)
 (VC.obl True (VC.br (LexF.awake F) (VC.ok ((true, ()) = (true, ()))) (VC.ok ((false, ()) = (true, ())))))
 (VC.ok ((false, ()) = (true, ())))))
 (VC.ok ((false, ()) = (true, ()))))
 (VC.ok ((false, ()) = (true, ())))))))
 (VC.obl True (VC.br (LexF.awake F) (VC.ok ((true, ()) = (true, ()))) (VC.ok ((false, ()) = (true, ()))))))
theorem n5_eq (L : Lv) (F : LexF) (l : List Lx) : vcO L F [28, 22, 29, 30, 25] (D5 a0) lawL (l, ()) = n5 L F l := by kernel_rfl
theorem n5_go (L : Lv) (F : LexF) (l : List Lx) (h : VC.holds (n5 L F l)) : Holds (vcO L F [28, 22, 29, 30, 25] (D5 a0) lawL (l, ())) := Holds.of_eq (n5_eq L F l) h
def n6 (L : Lv) (F : LexF) (s t : ByteArray)  : VC :=
 VC.obl True
 (VC.br (LexF.short F s)
 (VC.obl True
 (VC.br (LexF.short F t)
 (VC.obl True
 (VC.obl True
 (VC.br
 (Lv.band L (Lv.cmp L BinOp.eql (Prod.fst (Prod.fst (LexF.diff F s t))) (Prod.fst (Prod.fst (LexF.rDiff F s t))))
 (Lv.band L (Lv.cmp L BinOp.eql (Prod.fst (Prod.snd (Prod.fst (LexF.diff F s t)))) (Prod.fst (Prod.snd (Prod.fst (LexF.rDiff F s t)))))
 (Lv.band L (Lv.scmp L BinOp.eql (Prod.snd (Prod.snd (Prod.fst (LexF.diff F s t)))) (Prod.snd (Prod.snd (Prod.fst (LexF.rDiff F s t))))) true)))
 (VC.br (Lv.cmp L BinOp.eql (Prod.snd (LexF.diff F s t)) (Prod.snd (LexF.rDiff F s t)))
 (VC.obl True (VC.br (LexF.awake F) (VC.ok ((true, ()) = (true, ()))) (VC.ok ((false, ()) = (true, ())))))
 (VC.ok ((false, ()) = (true, ()))))
 (VC.ok ((false, ()) = (true, ()))))))
 (VC.obl True (VC.br (LexF.awake F) (VC.ok ((true, ()) = (true, ()))) (VC.ok ((false, ()) = (true, ())))))))
 (VC.obl True (VC.br (LexF.awake F) (VC.ok ((true, ()) = (true, ()))) (VC.ok ((false, ()) = (true, ()))))))
theorem n6_eq (L : Lv) (F : LexF) (s t : ByteArray) : vcO L F [21, 22, 31, 32] (D6 a0) law2 (s, t, ()) = n6 L F s t := by kernel_rfl
theorem n6_go (L : Lv) (F : LexF) (s t : ByteArray) (h : VC.holds (n6 L F s t)) : Holds (vcO L F [21, 22, 31, 32] (D6 a0) law2 (s, t, ())) := Holds.of_eq (n6_eq L F s t) h
def n7 (L : Lv) (F : LexF) (s : ByteArray) (x : Ed)  : VC :=
 VC.obl True
 (VC.br (LexF.short F s)
 (VC.obl True
 (VC.br (LexF.short F (Prod.snd (Prod.snd x)))
 (VC.obl (LexF.pB F (Prod.snd (Prod.snd x)))
 (VC.obl (LexF.pB F (Prod.snd (Prod.snd x)))
 (VC.obl (LexF.pL F (Prod.snd (Prod.snd (Prod.fst (LexF.rescan F s (Prod.fst x, Prod.fst (Prod.snd x), Prod.snd (Prod.snd x)))))))
 (VC.br
 (LexF.sameChange F
 (Prod.fst (Prod.fst (LexF.rescan F s (Prod.fst x, Prod.fst (Prod.snd x), Prod.snd (Prod.snd x)))),
 Prod.fst (Prod.snd (Prod.fst (LexF.rescan F s (Prod.fst x, Prod.fst (Prod.snd x), Prod.snd (Prod.snd x))))),
 Prod.snd (Prod.snd (Prod.fst (LexF.rescan F s (Prod.fst x, Prod.fst (Prod.snd x), Prod.snd (Prod.snd x))))))
 (Prod.fst (Prod.fst (LexF.rRescan F s (Prod.fst x, Prod.fst (Prod.snd x), Prod.snd (Prod.snd x)))),
 Prod.fst (Prod.snd (Prod.fst (LexF.rRescan F s (Prod.fst x, Prod.fst (Prod.snd x), Prod.snd (Prod.snd x))))),
 Prod.snd (Prod.snd (Prod.fst (LexF.rRescan F s (Prod.fst x, Prod.fst (Prod.snd x), Prod.snd (Prod.snd x)))))))
 (VC.br
 (Lv.cmp L BinOp.eql (Prod.fst (Prod.snd (LexF.rescan F s (Prod.fst x, Prod.fst (Prod.snd x), Prod.snd (Prod.snd x)))))
 (Prod.fst (Prod.snd (LexF.rRescan F s (Prod.fst x, Prod.fst (Prod.snd x), Prod.snd (Prod.snd x))))))
 (VC.br
 (Lv.cmp L BinOp.eql (Prod.snd (Prod.snd (LexF.rescan F s (Prod.fst x, Prod.fst (Prod.snd x), Prod.snd (Prod.snd x)))))
 (Prod.snd (Prod.snd (LexF.rRescan F s (Prod.fst x, Prod.fst (Prod.snd x), Prod.snd (Prod.snd x))))))
 (VC.obl True (VC.br (LexF.awake F) (VC.ok ((true, ()) = (true, ()))) (VC.ok ((false, ()) = (true, ())))))
 (VC.ok ((false, ()) = (true, ()))))
 (VC.ok ((false, ()) = (true, ()))))
 (VC.ok ((false, ()) = (true, ())))))))
 (VC.obl True (VC.br (LexF.awake F) (VC.ok ((true, ()) = (true, ()))) (VC.ok ((false, ()) = (true, ())))))))
 (VC.obl True (VC.br (LexF.awake F) (VC.ok ((true, ()) = (true, ()))) (VC.ok ((false, ()) = (true, ()))))))
theorem n7_eq (L : Lv) (F : LexF) (s : ByteArray) (x : Ed) : vcO L F [21, 22, 33, 34, 35] (D7 a0) lawE (s, x, ()) = n7 L F s x := by kernel_rfl
theorem n7_go (L : Lv) (F : LexF) (s : ByteArray) (x : Ed) (h : VC.holds (n7 L F s x)) : Holds (vcO L F [21, 22, 33, 34, 35] (D7 a0) lawE (s, x, ())) := Holds.of_eq (n7_eq L F s x) h

theorem aw1 : scanF (ByteArray.mk #[112, 117, 116, 32, 120, 32, 123, 49, 125, 59, 37, 32, 111, 110, 101]) = ([(3, bs [112, 117, 116], 0), (1, bs [120], 4), (4, bs [123], 6), (2, bs [49], 7), (4, bs [125], 8), (4, bs [59], 9)], 0, 0) := by kernel_rfl
theorem aw2 : joinF [(1, ByteArray.mk #[97], 0), (1, ByteArray.mk #[98], 0), (4, ByteArray.mk #[60], 0), (4, ByteArray.mk #[61], 0), (2, ByteArray.mk #[49], 0), (2, ByteArray.mk #[50], 0)] = (ByteArray.mk #[97, 32, 98, 60, 32, 61, 49, 32, 50], 0) := by kernel_rfl
theorem aw3 : diffF (ByteArray.mk #[108, 101, 116, 32, 97, 32, 61, 32, 49, 59]) (ByteArray.mk #[108, 101, 116, 32, 97, 98, 32, 61, 32, 49, 59]) = ((5, 5, ByteArray.mk #[98]), 0) := by kernel_rfl
theorem aw4 : rescanF (ByteArray.mk #[97, 32, 98, 32, 99]) (3, 3, ByteArray.mk #[100]) = ((1, 1, [(1, ByteArray.mk #[98, 100], 2)]), 0, 0) := by kernel_rfl
theorem aw5 : List.take (α := Lx) 6 [(1, ByteArray.mk #[97], 0), (1, ByteArray.mk #[98], 0), (4, ByteArray.mk #[60], 0), (4, ByteArray.mk #[61], 0), (2, ByteArray.mk #[49], 0), (2, ByteArray.mk #[50], 0)] = [(1, ByteArray.mk #[97], 0), (1, ByteArray.mk #[98], 0), (4, ByteArray.mk #[60], 0), (4, ByteArray.mk #[61], 0), (2, ByteArray.mk #[49], 0), (2, ByteArray.mk #[50], 0)] := rfl
theorem pL_aw : pLF [(1, ByteArray.mk #[97], 0), (1, ByteArray.mk #[98], 0), (4, ByteArray.mk #[60], 0), (4, ByteArray.mk #[61], 0), (2, ByteArray.mk #[49], 0), (2, ByteArray.mk #[50], 0)] := by
  refine ⟨by decide, fun x hx => ?_⟩
  simp only [List.mem_cons, List.not_mem_nil, or_false] at hx
  rcases hx with rfl | rfl | rfl | rfl | rfl | rfl <;> decide
theorem pL_aw2 : pLF [(1, ByteArray.mk #[98, 100], 2)] := by
  refine ⟨by decide, fun x hx => ?_⟩
  simp only [List.mem_cons, List.not_mem_nil, or_false] at hx
  rcases hx with rfl
  decide
theorem ok22 (F : LexF) (hs : F.pB = fun s => s.size ≤ 281474976710656) (hpl : F.pL = pLF) (h : F.awake = true) (h1 : F.scan = scanF) (h2 : F.same = sameF) (h3 : F.join = joinF) (h4 : F.diff = diffF) (h5 : F.rescan = rescanF)
    (k1 : SpecOk prog 23 (S23 F)) (k2 : SpecOk prog 25 (S25 F)) (k3 : SpecOk prog 29 (S29 F)) (k4 : SpecOk prog 31 (S31 F)) (k5 : SpecOk prog 33 (S33 F)) : SpecOk prog 22 (S22 F) := by
  refine contract_by hm hE D22 fnok22 _ fun (z : Unit) hpre => ?_
  refine pack _ 0 a0 (only_ok (F := F) (l := [23, 25, 29, 31, 33]) (by simp only [List.forall_mem_cons]; exact ⟨at_ok k1 (by kernel_rfl), at_ok k2 (by kernel_rfl), at_ok k3 (by kernel_rfl), at_ok k4 (by kernel_rfl), at_ok k5 (by kernel_rfl), fun _ h => by cases h⟩)) ?_
  refine n22_go Lv.std F ?_
  simp only [n22, VC.holds, std_cmp, std_scmp, std_ar_add, std_ar_sub, std_ar_mul, std_ar, std_dv, std_shf, std_conv, std_mn, std_mx, std_beq, std_bnot, std_band, std_scat, std_byte, std_ext, std_slen, std_strOf, std_bytes, std_llen, std_get, std_setl, std_app, std_take, std_drop, std_rep, std_mhas, std_mval, std_mput, std_cast, std_toN, std_sub, std_add, std_inR, std_le3, std_leN, std_ltN, std_ne0, std_nonneg, std_catOk, std_room, std_mkOk, cmp_lss_t, cmp_lss_f, cmp_leq_t, cmp_leq_f, cmp_gtr_t, cmp_gtr_f, cmp_geq_t, cmp_geq_f, cmp_eql_t, cmp_eql_f, cmp_neq_t, cmp_neq_f, scmp_eql_t, scmp_eql_f, scmp_neq_t, scmp_neq_f, dflt_int, dflt_bool, dflt_str, dflt_sl, dflt_pair, h, h1, h2, h3, h4, h5, hs, hpl, Prod.mk.injEq, and_true, true_and, aw5]
  simp only [aw1, aw2, aw3, aw4]
  refine ⟨pL_aw, by decide, fun h => absurd rfl h, fun _ => ⟨fun h => absurd rfl h, fun _ => ⟨fun h => absurd rfl h, fun _ => ⟨fun h => absurd rfl h, fun _ => ⟨fun h => absurd rfl h, fun _ => ⟨fun h => absurd rfl h, fun _ => ⟨by decide, fun h => Bool.noConfusion (h.symm.trans (by kernel_rfl) : true = false), fun _ => ?_⟩⟩⟩⟩⟩⟩⟩
  refine ⟨fun _ => ⟨fun _ => ⟨fun _ => ⟨fun _ => ⟨pL_aw2, fun _ => trivial, fun h => Bool.noConfusion (h.symm.trans (by kernel_rfl) : false = true)⟩, fun h => absurd rfl h⟩, fun h => absurd rfl h⟩, fun h => Bool.noConfusion (h.symm.trans (by kernel_rfl) : false = true)⟩, fun h => absurd rfl h⟩
theorem scan_pL (s : ByteArray) : pLF (scanF s).1 := by
  by_cases h : (scanF s).2.2 = 0
  · obtain ⟨a, b, c⟩ := scan_facts h
    exact ⟨by omega, fun x hx => by have := c x hx; omega⟩
  · have he : (scanF s).1 = [] := by
      unfold scanF at h ⊢
      simp only at h ⊢
      split
      · rfl
      · rename_i hc
        rw [if_neg hc] at h
        have hgo : ∀ (n : Nat) (i : Int) (acc : List Lx), (scanGo s n i acc).2.2 ≠ 0 → (scanGo s n i acc).1 = [] := by
          intro n
          induction n with
          | zero => intro i acc hh; exact absurd rfl hh
          | succ n ih =>
            intro i acc hh
            simp only [scanGo] at hh ⊢
            split
            · rename_i hl
              rw [if_pos hl] at hh
              split
              · rfl
              · rename_i h2
                rw [if_neg h2] at hh
                split
                · rfl
                · rename_i h3
                  rw [if_neg h3] at hh
                  exact ih _ _ hh
            · rename_i hl
              rw [if_neg hl] at hh
              exact absurd rfl hh
        exact hgo _ _ _ h
    rw [he]
    exact ⟨by simp, fun x hx => by cases hx⟩
theorem same_refl (l : List Lx) : sameF l l = true := by unfold sameF; simp
theorem ok3 (F : LexF) (hpl : F.pL = pLF) (h : F.awake = true) (h1 : F.scan = scanF) (h2 : F.rScan = scanF) (h3 : F.same = sameF)
    (k0 : SpecOk prog 21 (S21 F)) (k1 : SpecOk prog 22 (S22 F)) (k2 : SpecOk prog 23 (S23 F)) (k3 : SpecOk prog 24 (S24 F)) (k4 : SpecOk prog 25 (S25 F)) : SpecOk prog 3 law1 := by
  refine contract_by hm hE D3 fnok3 _ fun (z : ByteArray × Unit) hpre => ?_
  obtain ⟨s, ⟨⟩⟩ := z
  refine pack _ 0 a0 (only_ok (F := F) (l := [21, 22, 23, 24, 25]) (by simp only [List.forall_mem_cons]; exact ⟨at_ok k0 (by kernel_rfl), at_ok k1 (by kernel_rfl), at_ok k2 (by kernel_rfl), at_ok k3 (by kernel_rfl), at_ok k4 (by kernel_rfl), fun _ h => by cases h⟩)) ?_
  refine n3_go Lv.std F s ?_
  simp only [n3, VC.holds, std_cmp, std_scmp, std_ar_add, std_ar_sub, std_ar_mul, std_ar, std_dv, std_shf, std_conv, std_mn, std_mx, std_beq, std_bnot, std_band, std_scat, std_byte, std_ext, std_slen, std_strOf, std_bytes, std_llen, std_get, std_setl, std_app, std_take, std_drop, std_rep, std_mhas, std_mval, std_mput, std_cast, std_toN, std_sub, std_add, std_inR, std_le3, std_leN, std_ltN, std_ne0, std_nonneg, std_catOk, std_room, std_mkOk, cmp_lss_t, cmp_lss_f, cmp_leq_t, cmp_leq_f, cmp_gtr_t, cmp_gtr_f, cmp_geq_t, cmp_geq_f, cmp_eql_t, cmp_eql_f, cmp_neq_t, cmp_neq_f, scmp_eql_t, scmp_eql_f, scmp_neq_t, scmp_neq_f, dflt_int, dflt_bool, dflt_str, dflt_sl, dflt_pair, h, h1, h2, h3, hpl, same_refl, Prod.mk.injEq, and_true, true_and]
  simp [scan_pL s]
theorem resc_pL (s : ByteArray) (x : Ed) : pLF (rescanF s x).1.2.2 := by
  unfold rescanF
  simp only
  split
  · exact ⟨by simp, fun x hx => by cases hx⟩
  · split
    · exact ⟨by simp, fun x hx => by cases hx⟩
    · split
      · exact ⟨by simp, fun x hx => by cases hx⟩
      · obtain ⟨h1, h2⟩ := scan_pL (nowF s x)
        exact ⟨by simp only [List.length_drop, List.length_take]; omega, fun y hy => h2 y (List.mem_of_mem_take (List.mem_of_mem_drop hy))⟩
theorem thin_pL {l : List Lx} (h : thinF l = true) : pLF l := by
  unfold thinF at h
  simp only [Bool.and_eq_true, decide_eq_true_eq, List.all_eq_true] at h
  exact ⟨h.1, fun x hx => by have := h.2 x hx; unfold shortF at this; simpa using this⟩
theorem short_pS {s : ByteArray} (h : shortF s = true) : s.size ≤ 1000000 := by
  unfold shortF at h
  simp only [decide_eq_true_eq] at h
  omega
theorem short_pB {s : ByteArray} (h : shortF s = true) : s.size ≤ 281474976710656 := Nat.le_trans (short_pS h) (by decide)
theorem ok4 (F : LexF) (hs : F.pS = fun s => s.size ≤ 1000000) (h : F.awake = true) (h0 : F.short = shortF) (h1 : F.kind = kindF) (h2 : F.rKind = kindF)
    (k0 : SpecOk prog 21 (S21 F)) (k1 : SpecOk prog 22 (S22 F)) (k2 : SpecOk prog 26 (S26 F)) (k3 : SpecOk prog 27 (S27 F)) : SpecOk prog 4 law1 := by
  refine contract_by hm hE D4 fnok4 _ fun (z : ByteArray × Unit) hpre => ?_
  obtain ⟨s, ⟨⟩⟩ := z
  refine pack _ 0 a0 (only_ok (F := F) (l := [21, 22, 26, 27]) (by simp only [List.forall_mem_cons]; exact ⟨at_ok k0 (by kernel_rfl), at_ok k1 (by kernel_rfl), at_ok k2 (by kernel_rfl), at_ok k3 (by kernel_rfl), fun _ h => by cases h⟩)) ?_
  refine n4_go Lv.std F s ?_
  simp only [n4, VC.holds, std_cmp, std_scmp, std_ar_add, std_ar_sub, std_ar_mul, std_ar, std_dv, std_shf, std_conv, std_mn, std_mx, std_beq, std_bnot, std_band, std_scat, std_byte, std_ext, std_slen, std_strOf, std_bytes, std_llen, std_get, std_setl, std_app, std_take, std_drop, std_rep, std_mhas, std_mval, std_mput, std_cast, std_toN, std_sub, std_add, std_inR, std_le3, std_leN, std_ltN, std_ne0, std_nonneg, std_catOk, std_room, std_mkOk, cmp_lss_t, cmp_lss_f, cmp_leq_t, cmp_leq_f, cmp_gtr_t, cmp_gtr_f, cmp_geq_t, cmp_geq_f, cmp_eql_t, cmp_eql_f, cmp_neq_t, cmp_neq_f, scmp_eql_t, scmp_eql_f, scmp_neq_t, scmp_neq_f, dflt_int, dflt_bool, dflt_str, dflt_sl, dflt_pair, h, h0, h1, h2, hs, Prod.mk.injEq, and_true, true_and]
  simp
  exact short_pS
theorem ok5 (F : LexF) (hpl : F.pL = pLF) (h : F.awake = true) (h0 : F.thin = thinF) (h1 : F.join = joinF) (h2 : F.rJoin = joinF) (h3 : F.same = sameF)
    (k0 : SpecOk prog 28 (S28 F)) (k1 : SpecOk prog 22 (S22 F)) (k2 : SpecOk prog 29 (S29 F)) (k3 : SpecOk prog 30 (S30 F)) (k4 : SpecOk prog 25 (S25 F)) : SpecOk prog 5 lawL := by
  refine contract_by hm hE D5 fnok5 _ fun (z : List Lx × Unit) hpre => ?_
  obtain ⟨l, ⟨⟩⟩ := z
  refine pack _ 0 a0 (only_ok (F := F) (l := [28, 22, 29, 30, 25]) (by simp only [List.forall_mem_cons]; exact ⟨at_ok k0 (by kernel_rfl), at_ok k1 (by kernel_rfl), at_ok k2 (by kernel_rfl), at_ok k3 (by kernel_rfl), at_ok k4 (by kernel_rfl), fun _ h => by cases h⟩)) ?_
  refine n5_go Lv.std F l ?_
  simp only [n5, VC.holds, std_cmp, std_scmp, std_ar_add, std_ar_sub, std_ar_mul, std_ar, std_dv, std_shf, std_conv, std_mn, std_mx, std_beq, std_bnot, std_band, std_scat, std_byte, std_ext, std_slen, std_strOf, std_bytes, std_llen, std_get, std_setl, std_app, std_take, std_drop, std_rep, std_mhas, std_mval, std_mput, std_cast, std_toN, std_sub, std_add, std_inR, std_le3, std_leN, std_ltN, std_ne0, std_nonneg, std_catOk, std_room, std_mkOk, cmp_lss_t, cmp_lss_f, cmp_leq_t, cmp_leq_f, cmp_gtr_t, cmp_gtr_f, cmp_geq_t, cmp_geq_f, cmp_eql_t, cmp_eql_f, cmp_neq_t, cmp_neq_f, scmp_eql_t, scmp_eql_f, scmp_neq_t, scmp_neq_f, dflt_int, dflt_bool, dflt_str, dflt_sl, dflt_pair, h, h0, h1, h2, h3, hpl, List.nil_append, List.length_nil, Nat.zero_add, List.take_length, same_refl, Prod.mk.injEq, and_true, true_and]
  refine ⟨fun ht => ?_, fun ht => by simp⟩
  have hL := thin_pL ht
  have hL' := hL.1
  refine ⟨⟨by omega, by omega⟩, hL, hL, by simp [hL]⟩
theorem ok6 (F : LexF) (h : F.awake = true) (h1 : F.diff = diffF) (h2 : F.rDiff = diffF)
    (k0 : SpecOk prog 21 (S21 F)) (k1 : SpecOk prog 22 (S22 F)) (k2 : SpecOk prog 31 (S31 F)) (k3 : SpecOk prog 32 (S32 F)) : SpecOk prog 6 law2 := by
  refine contract_by hm hE D6 fnok6 _ fun (z : ByteArray × ByteArray × Unit) hpre => ?_
  obtain ⟨s, t, ⟨⟩⟩ := z
  refine pack _ 0 a0 (only_ok (F := F) (l := [21, 22, 31, 32]) (by simp only [List.forall_mem_cons]; exact ⟨at_ok k0 (by kernel_rfl), at_ok k1 (by kernel_rfl), at_ok k2 (by kernel_rfl), at_ok k3 (by kernel_rfl), fun _ h => by cases h⟩)) ?_
  refine n6_go Lv.std F s t ?_
  have hc : ∀ a : Int, VM.compare BinOp.eql a a = true := fun a => by rw [cmp_eql_t]
  have hsc : ∀ a : ByteArray, scompare BinOp.eql a a = true := fun a => by rw [scmp_eql_t]
  simp only [n6, VC.holds, std_cmp, std_scmp, std_ar_add, std_ar_sub, std_ar_mul, std_ar, std_dv, std_shf, std_conv, std_mn, std_mx, std_beq, std_bnot, std_band, std_scat, std_byte, std_ext, std_slen, std_strOf, std_bytes, std_llen, std_get, std_setl, std_app, std_take, std_drop, std_rep, std_mhas, std_mval, std_mput, std_cast, std_toN, std_sub, std_add, std_inR, std_le3, std_leN, std_ltN, std_ne0, std_nonneg, std_catOk, std_room, std_mkOk, cmp_lss_t, cmp_lss_f, cmp_leq_t, cmp_leq_f, cmp_gtr_t, cmp_gtr_f, cmp_geq_t, cmp_geq_f, cmp_eql_t, cmp_eql_f, cmp_neq_t, cmp_neq_f, scmp_eql_t, scmp_eql_f, scmp_neq_t, scmp_neq_f, dflt_int, dflt_bool, dflt_str, dflt_sl, dflt_pair, h, h1, h2, hc, hsc, Prod.mk.injEq, and_true, true_and]
  simp
theorem ok7 (F : LexF) (hs : F.pB = fun s => s.size ≤ 281474976710656) (hpl : F.pL = pLF) (h : F.awake = true) (h0 : F.short = shortF) (h1 : F.rescan = rescanF) (h2 : F.rRescan = rescanF) (h3 : F.sameChange = sameChF)
    (k0 : SpecOk prog 21 (S21 F)) (k1 : SpecOk prog 22 (S22 F)) (k2 : SpecOk prog 33 (S33 F)) (k3 : SpecOk prog 34 (S34 F)) (k4 : SpecOk prog 35 (S35 F)) : SpecOk prog 7 lawE := by
  refine contract_by hm hE D7 fnok7 _ fun (z : ByteArray × Ed × Unit) hpre => ?_
  obtain ⟨s, x, ⟨⟩⟩ := z
  refine pack _ 0 a0 (only_ok (F := F) (l := [21, 22, 33, 34, 35]) (by simp only [List.forall_mem_cons]; exact ⟨at_ok k0 (by kernel_rfl), at_ok k1 (by kernel_rfl), at_ok k2 (by kernel_rfl), at_ok k3 (by kernel_rfl), at_ok k4 (by kernel_rfl), fun _ h => by cases h⟩)) ?_
  refine n7_go Lv.std F s x ?_
  have hch : ∀ c : Ch, sameChF c c = true := fun c => by unfold sameChF; simp [same_refl]
  simp only [n7, VC.holds, std_cmp, std_scmp, std_ar_add, std_ar_sub, std_ar_mul, std_ar, std_dv, std_shf, std_conv, std_mn, std_mx, std_beq, std_bnot, std_band, std_scat, std_byte, std_ext, std_slen, std_strOf, std_bytes, std_llen, std_get, std_setl, std_app, std_take, std_drop, std_rep, std_mhas, std_mval, std_mput, std_cast, std_toN, std_sub, std_add, std_inR, std_le3, std_leN, std_ltN, std_ne0, std_nonneg, std_catOk, std_room, std_mkOk, cmp_lss_t, cmp_lss_f, cmp_leq_t, cmp_leq_f, cmp_gtr_t, cmp_gtr_f, cmp_geq_t, cmp_geq_f, cmp_eql_t, cmp_eql_f, cmp_neq_t, cmp_neq_f, scmp_eql_t, scmp_eql_f, scmp_neq_t, scmp_neq_f, dflt_int, dflt_bool, dflt_str, dflt_sl, dflt_pair, h, h0, h1, h2, h3, hs, hpl, Prod.mk.injEq, and_true, true_and]
  refine ⟨fun e1 => ⟨fun e2 => ⟨short_pB e2, short_pB e2, resc_pL s _, by simp [hch]⟩, fun e2 => by simp⟩, fun e1 => by simp⟩
end Go.Proofs.Tryd
set_option autoImplicit false
set_option linter.all false
namespace Go.Proofs.Tryd
open Go Go.VM
set_option maxRecDepth 100000
def FF : LexF where
  pS := fun s => s.size ≤ 1000000
  pB := fun s => s.size ≤ 281474976710656
  pI := fun l => l.length ≤ 1000000
  pL := pLF
  pAt := fun s i => 0 ≤ i ∧ i ≤ s.size
  pLt := fun s i => 0 ≤ i ∧ i < s.size
  pDig := pDigF
  pLx := fun x => x.2.1.size ≤ 1000000
  pLx2 := pLx2F
  pTs := pTsF
  chk := chk
  cls := cls
  index := indexL
  cont := contL
  isOf := isOfL
  indexByte := idxB
  comment := commentF
  gap := gap
  hasPrefix := hasPre
  signs := signsL
  keywords := keywordsL
  kwm := kwmL
  isNum := isNumF
  atoiOk := atoiOkF
  atoiVal := atoiValF
  itoa := itoaF
  sign := signF
  whil := whilF
  token := tokF
  scan := scanF
  kind := kindF
  isRight := isRightF
  needBlank := needF
  bare := bareF
  join := joinF
  diff := diffF
  isSame := isSameF
  rescan := rescanF
  isPlace := isPlaceF
  isPlaced := fun x => isPlaceF x.2.2
  edit := editF
  apply := applyF
  undo := undoF
  both := bothF
  patch := patchF
  rIsLetter := isLet
  rIsDigit := isDig
  rGap := gap
  rRun := runF
  rIsKeyword := isKeyF
  rIsNumber := isNumF
  rToken := rTokF
  rScan := scanF
  rKind := kindF
  rApart := apartF
  rJoin := joinF
  rDiff := diffF
  rIsEdit := isEditF
  rRescan := rescanF
  rApply := applyF
  rUndo := undoF
  rBoth := bothF
  rArePlaces := arePlacesF
  rPatch := patchF
  same := sameF
  alike := alikeF
  sameChange := sameChF
  thin := thinF
  short := shortF
  dEnd := endF
  dMore := moreF
  awake := true
theorem h85 : SpecOk prog 85 (S85 FF) := ok85 FF rfl
theorem h90 : SpecOk prog 90 (S90 FF) := ok90 FF rfl
theorem h93 : SpecOk prog 93 (S93 FF) := ok93 FF rfl
theorem h73 : SpecOk prog 73 (S73 FF) := ok73 FF rfl
theorem h74 : SpecOk prog 74 (S74 FF) := ok74 FF rfl h73
theorem h71 : SpecOk prog 71 (S71 FF) := ok71 FF rfl
theorem h70 : SpecOk prog 70 (S70 FF) := ok70 FF rfl
theorem h104 : SpecOk prog 104 (S104 FF) := ok104 FF rfl
theorem h37 : SpecOk prog 37 (S37 FF) := ok37 FF rfl
theorem h38 : SpecOk prog 38 (S38 FF) := ok38 FF rfl
theorem h56 : SpecOk prog 56 (S56 FF) := ok56 FF rfl
theorem h59 : SpecOk prog 59 (S59 FF) := ok59 FF rfl
theorem h126 : SpecOk prog 126 (S126 FF) := ok126 FF rfl rfl
theorem h114 : SpecOk prog 114 (S114 FF) := ok114 FF rfl rfl rfl h126
theorem h83 : SpecOk prog 83 (S83 FF) := ok83 FF rfl rfl rfl h85 h114
theorem h84 : SpecOk prog 84 (S84 FF) := ok84 FF rfl rfl rfl rfl h104
theorem h57 : SpecOk prog 57 (S57 FF) := ok57 FF rfl rfl rfl rfl rfl rfl h83 h84
theorem h60 : SpecOk prog 60 (S60 FF) := ok60 FF rfl rfl rfl
theorem h86 : SpecOk prog 86 (S86 FF) := ok86 FF rfl rfl rfl h83
theorem h91 : SpecOk prog 91 (S91 FF) := ok91 FF rfl rfl rfl rfl rfl h90 h93
theorem h106 : SpecOk prog 106 (S106 FF) := ok106 FF rfl
theorem h89 : SpecOk prog 89 (S89 FF) := ok89 FF rfl rfl rfl h37 h106
theorem h92 : SpecOk prog 92 (S92 FF) := ok92 FF rfl rfl h38
theorem h94 : SpecOk prog 94 (S94 FF) := ok94 FF rfl
theorem h61 : SpecOk prog 61 (S61 FF) := ok61 FF rfl rfl rfl rfl rfl rfl rfl rfl rfl rfl h37 h90 h91 h92 h93 h94
theorem h87 : XOk prog 87 (mapX .str .bool FF.kwm) := ok87 FF rfl rfl h38
theorem h88 : SpecOk prog 88 (S88 FF) := ok88 FF rfl rfl rfl rfl rfl
theorem h58 : SpecOk prog 58 (S58 FF) := ok58 FF rfl rfl whil_dig ⟨show ([4, 5] : List Int).length ≤ 1000000 by decide, show ([5] : List Int).length ≤ 1000000 by decide⟩ rfl rfl rfl rfl rfl rfl h85 h86 h87 h88 h89
theorem h23 : SpecOk prog 23 (S23 FF) := ok23 FF rfl rfl rfl rfl rfl rfl rfl h56 h57 h58
theorem h24 : SpecOk prog 24 (S24 FF) := ok24 FF rfl rfl rfl rfl rfl rfl rfl h59 h60 h61
theorem h26 : SpecOk prog 26 (S26 FF) := ok26 FF rfl rfl rfl rfl rfl rfl h57 h58
theorem h27 : SpecOk prog 27 (S27 FF) := ok27 FF rfl rfl rfl rfl h61
theorem h63 : SpecOk prog 63 (S63 FF) := ok63 FF rfl rfl rfl rfl h26
theorem h97 : SpecOk prog 97 (S97 FF) := ok97 FF rfl rfl rfl rfl rfl h58
theorem h65 : SpecOk prog 65 (S65 FF) := ok65 FF rfl rfl rfl rfl rfl h61
theorem h64 : SpecOk prog 64 (S64 FF) := ok64 FF rfl rfl rfl rfl h97
theorem h29 : SpecOk prog 29 (S29 FF) := ok29 FF rfl rfl rfl rfl rfl rfl h63 h64
theorem h30 : SpecOk prog 30 (S30 FF) := ok30 FF rfl rfl rfl rfl rfl rfl h27 h65
theorem h21 : SpecOk prog 21 (S21 FF) := ok21 FF rfl
theorem h28 : SpecOk prog 28 (S28 FF) := ok28 FF rfl rfl h21
theorem h25 : SpecOk prog 25 (S25 FF) := ok25 FF rfl rfl
theorem h35 : SpecOk prog 35 (S35 FF) := ok35 FF rfl rfl h25
theorem h31 : SpecOk prog 31 (S31 FF) := ok31 FF rfl rfl h56
theorem h32 : SpecOk prog 32 (S32 FF) := ok32 FF rfl rfl h59
theorem h33 : SpecOk prog 33 (S33 FF) := ok33 FF rfl rfl rfl rfl h23 h70
theorem h34 : SpecOk prog 34 (S34 FF) := ok34 FF rfl rfl rfl rfl h24 h71
theorem h22 : SpecOk prog 22 (S22 FF) := ok22 FF rfl rfl rfl rfl rfl rfl rfl rfl h23 h25 h29 h31 h33
theorem h3 : SpecOk prog 3 law1 := ok3 FF rfl rfl rfl rfl rfl h21 h22 h23 h24 h25
theorem h4 : SpecOk prog 4 law1 := ok4 FF rfl rfl rfl rfl rfl h21 h22 h26 h27
theorem h5 : SpecOk prog 5 lawL := ok5 FF rfl rfl rfl rfl rfl rfl h28 h22 h29 h30 h25
theorem h6 : SpecOk prog 6 law2 := ok6 FF rfl rfl rfl h21 h22 h31 h32
theorem h7 : SpecOk prog 7 lawE := ok7 FF rfl rfl rfl rfl rfl rfl rfl h21 h22 h33 h34 h35
end Go.Proofs.Tryd
