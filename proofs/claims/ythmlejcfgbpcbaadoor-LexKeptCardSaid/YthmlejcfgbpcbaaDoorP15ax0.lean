/- What some functions of the lexer compute, proved through the condition generator. No condition of ours. -/
import Derived.Test.YthmlejcfgbpcbaaDoorL2
set_option autoImplicit false
set_option linter.all false
namespace Go.Proofs.Tryd
open Go Go.VM
set_option maxRecDepth 100000
/-- As anH; the invariant may name what a slot holds when the loop begins. -/
def anHe (L : Lv) (js : List Nat) (ad : List (Nat × Option Nat × TypeId × Ty)) (hv : List Hv) (e : Hv) (I : e.ty.D → Ds (tysOf hv) → Prop) (mu : e.ty.D → Ds (tysOf hv) → Nat) : LAnn :=
  .an { js := js, ren := fun s => hvIds s hv, ad := ad, X := Ds (tysOf hv), c := hvPut L hv, ext := hvGet L hv, I := fun s x => I (e.get L s) x, mu := fun s x => mu (e.get L s) x }
def a117e (L : Lv) (I : List Lx → Ds [It] → Prop) (mu : List Lx → Ds [It] → Nat) : Nat → LAnn
  | 0 => anHe L [0, 1, 7, 8] [] [.s 8 It] (.s 0 (.sl Lt)) I mu
  | _ => .no
def a40 (L : Lv) (I : Ds [.sl Lt, It] → Prop) (mu : Ds [.sl Lt, It] → Nat) : Nat → LAnn
  | 1 => anH L [4, 8, 106, 107, 108] [] [.r 8 Lt, .s 108 It] I mu
  | _ => .no
def n40 (L : Lv) (F : LexF) (I : List Lx → Ds [It] → Prop) (mu : List Lx → Ds [It] → Nat) (J : Ds [.sl Lt, It] → Prop) (nu : Ds [.sl Lt, It] → Nat) (l : List Lx) (x : Ed) (c : Ch)  : VC :=
 VC.br (Lv.cmp L BinOp.gtr (Lv.cast L (Lv.llen L Lt l)) 900)
 (VC.ok (([], 5, ()) = (Prod.fst (LexF.patch F l x c), Prod.snd (LexF.patch F l x c), ())))
 (VC.br (Lv.cmp L BinOp.gtr (Lv.cast L (Lv.llen L Lt (Prod.snd (Prod.snd c)))) 900)
 (VC.ok (([], 5, ()) = (Prod.fst (LexF.patch F l x c), Prod.snd (LexF.patch F l x c), ())))
 (VC.br (Lv.cmp L BinOp.gtr (Lv.cast L (Lv.slen L (Prod.snd (Prod.snd x)))) 2500) (VC.ok (([], 5, ()) = (Prod.fst (LexF.patch F l x c), Prod.snd (LexF.patch F l x c), ())))
 (VC.obl True
 (VC.br (LexF.isPlace F (Prod.fst x))
 (VC.obl True
 (VC.br (LexF.isPlace F (Prod.fst (Prod.snd x)))
 (VC.br (Lv.cmp L BinOp.gtr (Prod.fst x) (Prod.fst (Prod.snd x))) (VC.ok (([], 3, ()) = (Prod.fst (LexF.patch F l x c), Prod.snd (LexF.patch F l x c), ())))
 (VC.br (Lv.cmp L BinOp.lss (Prod.fst c) 0) (VC.ok (([], 3, ()) = (Prod.fst (LexF.patch F l x c), Prod.snd (LexF.patch F l x c), ())))
 (VC.br (Lv.cmp L BinOp.lss (Prod.fst (Prod.snd c)) 0) (VC.ok (([], 3, ()) = (Prod.fst (LexF.patch F l x c), Prod.snd (LexF.patch F l x c), ())))
 (VC.br (Lv.cmp L BinOp.gtr (Prod.fst c) (Lv.cast L (Lv.llen L Lt l)))
 (VC.ok (([], 3, ()) = (Prod.fst (LexF.patch F l x c), Prod.snd (LexF.patch F l x c), ())))
 (VC.br
 (Lv.cmp L BinOp.gtr (Prod.fst (Prod.snd c))
 (Lv.ar L BinOp.sub IntKind.i64 (Lv.cast L (Lv.llen L Lt l)) (Prod.fst c)))
 (VC.ok (([], 3, ()) = (Prod.fst (LexF.patch F l x c), Prod.snd (LexF.patch F l x c), ())))
 (VC.obl
 (St.mk 19
 [(0, V.c (C.sl Lt l)), (1, V.c (C.fn 96 [3])),
 (7, V.c (C.int IntKind.i64 (Lv.cast L (Lv.llen L Lt l)))), (8, V.c (C.int IntKind.i64 0))]
 [(0, Ob.amb), (1, Ob.box 35 [C.int IntKind.i64 (Prod.fst x), C.int IntKind.i64 (Prod.fst (Prod.snd x)), C.str (Prod.snd (Prod.snd x))]),
 (2,
 Ob.box 40
 [C.int IntKind.i64 (Prod.fst c), C.int IntKind.i64 (Prod.fst (Prod.snd c)),
 C.sl Lt (Prod.snd (Prod.snd c))]),
 (3, Ob.box 75 [C.fn 74 []])]
 4 =
 St.mk 19
 [(0, V.c (C.sl Lt l)), (1, V.c (C.fn 96 [3])),
 (7, V.c (C.int IntKind.i64 (Lv.cast L (Lv.llen L Lt l)))), (8, V.c (C.int IntKind.i64 0))]
 [(0, Ob.amb), (1, Ob.box 35 [C.int IntKind.i64 (Prod.fst x), C.int IntKind.i64 (Prod.fst (Prod.snd x)), C.str (Prod.snd (Prod.snd x))]),
 (2,
 Ob.box 40
 [C.int IntKind.i64 (Prod.fst c), C.int IntKind.i64 (Prod.fst (Prod.snd c)),
 C.sl Lt (Prod.snd (Prod.snd c))]),
 (3, Ob.box 75 [C.fn 74 []])]
 4)
 (VC.obl (I l (0, ()))
 (VC.all (Int × Unit) fun (x_1 : Int × Unit) =>
 VC.imp (I l x_1)
 (VC.br (Lv.cmp L BinOp.lss (Prod.fst x_1) (Lv.cast L (Lv.llen L Lt l)))
 (VC.obl (Lv.inR L (Prod.fst x_1) (Lv.llen L Lt l))
 (VC.obl True
 (VC.br
 (LexF.isPlaced F
 (Prod.fst (Lv.get L Lt l (Lv.toN L (Prod.fst x_1))),
 Prod.fst (Prod.snd (Lv.get L Lt l (Lv.toN L (Prod.fst x_1)))),
 Prod.snd (Prod.snd (Lv.get L Lt l (Lv.toN L (Prod.fst x_1))))))
 (VC.ok
 (St.mk 19
 [(0, V.c (C.sl Lt l)), (1, V.c (C.fn 96 [3])),
 (7, V.c (C.int IntKind.i64 (Lv.cast L (Lv.llen L Lt l)))),
 (8, V.c (C.int IntKind.i64 (Lv.ar L BinOp.add IntKind.i64 (Prod.fst x_1) 1)))]
 [(0, Ob.amb), (1, Ob.box 35 [C.int IntKind.i64 (Prod.fst x), C.int IntKind.i64 (Prod.fst (Prod.snd x)), C.str (Prod.snd (Prod.snd x))]),
 (2,
 Ob.box 40
 [C.int IntKind.i64 (Prod.fst c), C.int IntKind.i64 (Prod.fst (Prod.snd c)),
 C.sl Lt (Prod.snd (Prod.snd c))]),
 (3, Ob.box 75 [C.fn 74 []])]
 4 =
 St.mk 19
 [(0, V.c (C.sl Lt l)), (1, V.c (C.fn 96 [3])),
 (7, V.c (C.int IntKind.i64 (Lv.cast L (Lv.llen L Lt l)))),
 (8, V.c (C.int IntKind.i64 (Lv.ar L BinOp.add IntKind.i64 (Prod.fst x_1) 1)))]
 [(0, Ob.amb), (1, Ob.box 35 [C.int IntKind.i64 (Prod.fst x), C.int IntKind.i64 (Prod.fst (Prod.snd x)), C.str (Prod.snd (Prod.snd x))]),
 (2,
 Ob.box 40
 [C.int IntKind.i64 (Prod.fst c), C.int IntKind.i64 (Prod.fst (Prod.snd c)),
 C.sl Lt (Prod.snd (Prod.snd c))]),
 (3, Ob.box 75 [C.fn 74 []])]
 4 ∧
 I l (Lv.ar L BinOp.add IntKind.i64 (Prod.fst x_1) 1, ()) ∧ mu l (Lv.ar L BinOp.add IntKind.i64 (Prod.fst x_1) 1, ()) < mu l x_1))
 (VC.br (Lv.cmp L BinOp.geq (Prod.fst x_1) 0) (VC.ok (([], 3, ()) = (Prod.fst (LexF.patch F l x c), Prod.snd (LexF.patch F l x c), ())))
 (VC.obl
 (St.mk 19
 [(0, V.c (C.sl Lt (Prod.snd (Prod.snd c)))), (1, V.c (C.fn 96 [5])),
 (7, V.c (C.int IntKind.i64 (Lv.cast L (Lv.llen L Lt (Prod.snd (Prod.snd c)))))),
 (8, V.c (C.int IntKind.i64 0))]
 [(0, Ob.amb), (1, Ob.box 35 [C.int IntKind.i64 (Prod.fst x), C.int IntKind.i64 (Prod.fst (Prod.snd x)), C.str (Prod.snd (Prod.snd x))]),
 (2,
 Ob.box 40
 [C.int IntKind.i64 (Prod.fst c), C.int IntKind.i64 (Prod.fst (Prod.snd c)),
 C.sl Lt (Prod.snd (Prod.snd c))]),
 (3, Ob.box 75 [C.fn 74 []]),
 (4,
 Ob.box 48
 [C.int IntKind.u8 (Prod.fst (Lv.get L Lt l (Lv.toN L (Prod.fst x_1)))),
 C.str (Prod.fst (Prod.snd (Lv.get L Lt l (Lv.toN L (Prod.fst x_1))))),
 C.int IntKind.i64
 (Prod.snd (Prod.snd (Lv.get L Lt l (Lv.toN L (Prod.fst x_1)))))]),
 (5, Ob.box 75 [C.fn 74 []])]
 6 =
 St.mk 19
 [(0, V.c (C.sl Lt (Prod.snd (Prod.snd c)))), (1, V.c (C.fn 96 [5])),
 (7, V.c (C.int IntKind.i64 (Lv.cast L (Lv.llen L Lt (Prod.snd (Prod.snd c)))))),
 (8, V.c (C.int IntKind.i64 0))]
 [(0, Ob.amb), (1, Ob.box 35 [C.int IntKind.i64 (Prod.fst x), C.int IntKind.i64 (Prod.fst (Prod.snd x)), C.str (Prod.snd (Prod.snd x))]),
 (2,
 Ob.box 40
 [C.int IntKind.i64 (Prod.fst c), C.int IntKind.i64 (Prod.fst (Prod.snd c)),
 C.sl Lt (Prod.snd (Prod.snd c))]),
 (3, Ob.box 75 [C.fn 74 []]),
 (4,
 Ob.box 48
 [C.int IntKind.u8 (Prod.fst (Lv.get L Lt l (Lv.toN L (Prod.fst x_1)))),
 C.str (Prod.fst (Prod.snd (Lv.get L Lt l (Lv.toN L (Prod.fst x_1))))),
 C.int IntKind.i64
 (Prod.snd (Prod.snd (Lv.get L Lt l (Lv.toN L (Prod.fst x_1)))))]),
 (5, Ob.box 75 [C.fn 74 []])]
 6)
 (VC.obl (I (Prod.snd (Prod.snd c)) (0, ()))
 (VC.all (Int × Unit) fun (x_2 : Int × Unit) =>
 VC.imp (I (Prod.snd (Prod.snd c)) x_2)
 (VC.br
 (Lv.cmp L BinOp.lss (Prod.fst x_2)
 (Lv.cast L (Lv.llen L Lt (Prod.snd (Prod.snd c)))))
 (VC.obl (Lv.inR L (Prod.fst x_2) (Lv.llen L Lt (Prod.snd (Prod.snd c))))
 (VC.obl True
 (VC.br
 (LexF.isPlaced F
 (Prod.fst (Lv.get L Lt (Prod.snd (Prod.snd c)) (Lv.toN L (Prod.fst x_2))),
 Prod.fst
 (Prod.snd
 (Lv.get L Lt (Prod.snd (Prod.snd c)) (Lv.toN L (Prod.fst x_2)))),
 Prod.snd
 (Prod.snd
 (Lv.get L Lt (Prod.snd (Prod.snd c)) (Lv.toN L (Prod.fst x_2))))))
 (VC.ok
 (St.mk 19
 [(0, V.c (C.sl Lt (Prod.snd (Prod.snd c)))), (1, V.c (C.fn 96 [5])),
 (7,
 V.c
 (C.int IntKind.i64
 (Lv.cast L (Lv.llen L Lt (Prod.snd (Prod.snd c)))))),
 (8, V.c (C.int IntKind.i64 (Lv.ar L BinOp.add IntKind.i64 (Prod.fst x_2) 1)))]
 [(0, Ob.amb),
 (1, Ob.box 35 [C.int IntKind.i64 (Prod.fst x), C.int IntKind.i64 (Prod.fst (Prod.snd x)), C.str (Prod.snd (Prod.snd x))]),
 (2,
 Ob.box 40
 [C.int IntKind.i64 (Prod.fst c), C.int IntKind.i64 (Prod.fst (Prod.snd c)),
 C.sl Lt (Prod.snd (Prod.snd c))]),
 (3, Ob.box 75 [C.fn 74 []]),
 (4,
 Ob.box 48
 [C.int IntKind.u8
 (Prod.fst (Lv.get L Lt l (Lv.toN L (Prod.fst x_1)))),
 C.str
 (Prod.fst
 (Prod.snd (Lv.get L Lt l (Lv.toN L (Prod.fst x_1))))),
 C.int IntKind.i64
 (Prod.snd
 (Prod.snd (Lv.get L Lt l (Lv.toN L (Prod.fst x_1)))))]),
 (5, Ob.box 75 [C.fn 74 []])]
 6 =
 St.mk 19
 [(0, V.c (C.sl Lt (Prod.snd (Prod.snd c)))), (1, V.c (C.fn 96 [5])),
 (7,
 V.c
 (C.int IntKind.i64
 (Lv.cast L (Lv.llen L Lt (Prod.snd (Prod.snd c)))))),
 (8, V.c (C.int IntKind.i64 (Lv.ar L BinOp.add IntKind.i64 (Prod.fst x_2) 1)))]
 [(0, Ob.amb),
 (1, Ob.box 35 [C.int IntKind.i64 (Prod.fst x), C.int IntKind.i64 (Prod.fst (Prod.snd x)), C.str (Prod.snd (Prod.snd x))]),
 (2,
 Ob.box 40
 [C.int IntKind.i64 (Prod.fst c), C.int IntKind.i64 (Prod.fst (Prod.snd c)),
 C.sl Lt (Prod.snd (Prod.snd c))]),
 (3, Ob.box 75 [C.fn 74 []]),
 (4,
 Ob.box 48
 [C.int IntKind.u8
 (Prod.fst (Lv.get L Lt l (Lv.toN L (Prod.fst x_1)))),
 C.str
 (Prod.fst
 (Prod.snd (Lv.get L Lt l (Lv.toN L (Prod.fst x_1))))),
 C.int IntKind.i64
 (Prod.snd
 (Prod.snd (Lv.get L Lt l (Lv.toN L (Prod.fst x_1)))))]),
 (5, Ob.box 75 [C.fn 74 []])]
 6 ∧
 I (Prod.snd (Prod.snd c)) (Lv.ar L BinOp.add IntKind.i64 (Prod.fst x_2) 1, ()) ∧
 mu (Prod.snd (Prod.snd c)) (Lv.ar L BinOp.add IntKind.i64 (Prod.fst x_2) 1, ()) < mu (Prod.snd (Prod.snd c)) x_2))
 (VC.br (Lv.cmp L BinOp.geq (Prod.fst x_2) 0)
 (VC.ok (([], 3, ()) = (Prod.fst (LexF.patch F l x c), Prod.snd (LexF.patch F l x c), ())))
 (VC.br
 (Lv.cmp L BinOp.gtr
 (Lv.ar L BinOp.add IntKind.i64
 (Lv.ar L BinOp.add IntKind.i64 (Prod.fst c)
 (Lv.cast L (Lv.llen L Lt (Prod.snd (Prod.snd c)))))
 (Prod.fst (Prod.snd c)))
 900)
 (VC.ok (([], 5, ()) = (Prod.fst (LexF.patch F l x c), Prod.snd (LexF.patch F l x c), ())))
 (VC.obl (Lv.le3 L (Lv.cast L 0) (Prod.fst c) (Lv.llen L Lt l))
 (VC.obl
 (Lv.room L
 (Lv.add L (Lv.llen L Lt [])
 (Lv.llen L Lt
 (Lv.drop L Lt
 (Lv.take L Lt l (Lv.toN L (Prod.fst c)))
 (Lv.toN L (Lv.cast L 0)))))
 32)
 (VC.obl
 (Lv.room L
 (Lv.add L
 (Lv.llen L Lt
 (Lv.take L Lt
 (Lv.app L Lt []
 (Lv.drop L Lt
 (Lv.take L Lt l (Lv.toN L (Prod.fst c)))
 (Lv.toN L (Lv.cast L 0))))
 (Lv.add L (Lv.llen L Lt [])
 (Lv.llen L Lt
 (Lv.drop L Lt
 (Lv.take L Lt l (Lv.toN L (Prod.fst c)))
 (Lv.toN L (Lv.cast L 0)))))))
 (Lv.llen L Lt (Prod.snd (Prod.snd c))))
 32)
 (VC.obl
 (Lv.le3 L
 (Lv.ar L BinOp.sub IntKind.i64 (Lv.cast L (Lv.llen L Lt l))
 (Prod.fst (Prod.snd c)))
 (Lv.cast L (Lv.llen L Lt l))
 (Lv.llen L Lt l))
 (VC.obl
 (St.mk 131
 [(4, V.c (C.ptr 1 0)),
 (8,
 V.c
 (C.own 9
 (Lv.add L
 (Lv.llen L Lt
 (Lv.take L Lt
 (Lv.app L Lt []
 (Lv.drop L Lt
 (Lv.take L Lt l (Lv.toN L (Prod.fst c)))
 (Lv.toN L (Lv.cast L 0))))
 (Lv.add L (Lv.llen L Lt [])
 (Lv.llen L Lt
 (Lv.drop L Lt
 (Lv.take L Lt l
 (Lv.toN L (Prod.fst c)))
 (Lv.toN L (Lv.cast L 0)))))))
 (Lv.llen L Lt (Prod.snd (Prod.snd c)))))),
 (106,
 V.c
 (C.sl Lt
 (Lv.drop L Lt
 (Lv.take L Lt l
 (Lv.toN L (Lv.cast L (Lv.llen L Lt l))))
 (Lv.toN L
 (Lv.ar L BinOp.sub IntKind.i64
 (Lv.cast L (Lv.llen L Lt l))
 (Prod.fst (Prod.snd c))))))),
 (107,
 V.c
 (C.int IntKind.i64
 (Lv.cast L
 (Lv.llen L Lt
 (Lv.drop L Lt
 (Lv.take L Lt l
 (Lv.toN L (Lv.cast L (Lv.llen L Lt l))))
 (Lv.toN L
 (Lv.ar L BinOp.sub IntKind.i64
 (Lv.cast L (Lv.llen L Lt l))
 (Prod.fst (Prod.snd c))))))))),
 (108, V.c (C.int IntKind.i64 0))]
 [(0, Ob.amb),
 (1, Ob.box 35 [C.int IntKind.i64 (Prod.fst x), C.int IntKind.i64 (Prod.fst (Prod.snd x)), C.str (Prod.snd (Prod.snd x))]),
 (2,
 Ob.box 40
 [C.int IntKind.i64 (Prod.fst c), C.int IntKind.i64 (Prod.fst (Prod.snd c)),
 C.sl Lt (Prod.snd (Prod.snd c))]),
 (3, Ob.box 75 [C.fn 74 []]),
 (4,
 Ob.box 48
 [C.int IntKind.u8
 (Prod.fst
 (Lv.get L Lt l (Lv.toN L (Prod.fst x_1)))),
 C.str
 (Prod.fst
 (Prod.snd
 (Lv.get L Lt l (Lv.toN L (Prod.fst x_1))))),
 C.int IntKind.i64
 (Prod.snd
 (Prod.snd
 (Lv.get L Lt l
 (Lv.toN L (Prod.fst x_1)))))]),
 (5, Ob.box 75 [C.fn 74 []]),
 (6,
 Ob.box 48
 [C.int IntKind.u8
 (Prod.fst
 (Lv.get L Lt (Prod.snd (Prod.snd c))
 (Lv.toN L (Prod.fst x_2)))),
 C.str
 (Prod.fst
 (Prod.snd
 (Lv.get L Lt (Prod.snd (Prod.snd c))
 (Lv.toN L (Prod.fst x_2))))),
 C.int IntKind.i64
 (Prod.snd
 (Prod.snd
 (Lv.get L Lt (Prod.snd (Prod.snd c))
 (Lv.toN L (Prod.fst x_2)))))]),
 (9,
 Ob.row 48 Lt
 (Lv.app L Lt
 (Lv.take L Lt
 (Lv.app L Lt []
 (Lv.drop L Lt
 (Lv.take L Lt l (Lv.toN L (Prod.fst c)))
 (Lv.toN L (Lv.cast L 0))))
 (Lv.add L (Lv.llen L Lt [])
 (Lv.llen L Lt
 (Lv.drop L Lt
 (Lv.take L Lt l (Lv.toN L (Prod.fst c)))
 (Lv.toN L (Lv.cast L 0))))))
 (Prod.snd (Prod.snd c))))]
 10 =
 St.mk 131
 [(4, V.c (C.ptr 1 0)),
 (8,
 V.c
 (C.own 9
 (Lv.llen L Lt
 (Lv.app L Lt
 (Lv.take L Lt
 (Lv.app L Lt []
 (Lv.drop L Lt
 (Lv.take L Lt l (Lv.toN L (Prod.fst c)))
 (Lv.toN L (Lv.cast L 0))))
 (Lv.add L (Lv.llen L Lt [])
 (Lv.llen L Lt
 (Lv.drop L Lt
 (Lv.take L Lt l
 (Lv.toN L (Prod.fst c)))
 (Lv.toN L (Lv.cast L 0))))))
 (Prod.snd (Prod.snd c)))))),
 (106,
 V.c
 (C.sl Lt
 (Lv.drop L Lt
 (Lv.take L Lt l
 (Lv.toN L (Lv.cast L (Lv.llen L Lt l))))
 (Lv.toN L
 (Lv.ar L BinOp.sub IntKind.i64
 (Lv.cast L (Lv.llen L Lt l))
 (Prod.fst (Prod.snd c))))))),
 (107,
 V.c
 (C.int IntKind.i64
 (Lv.cast L
 (Lv.llen L Lt
 (Lv.drop L Lt
 (Lv.take L Lt l
 (Lv.toN L (Lv.cast L (Lv.llen L Lt l))))
 (Lv.toN L
 (Lv.ar L BinOp.sub IntKind.i64
 (Lv.cast L (Lv.llen L Lt l))
 (Prod.fst (Prod.snd c))))))))),
 (108, V.c (C.int IntKind.i64 0))]
 [(0, Ob.amb),
 (1, Ob.box 35 [C.int IntKind.i64 (Prod.fst x), C.int IntKind.i64 (Prod.fst (Prod.snd x)), C.str (Prod.snd (Prod.snd x))]),
 (2,
 Ob.box 40
 [C.int IntKind.i64 (Prod.fst c), C.int IntKind.i64 (Prod.fst (Prod.snd c)),
 C.sl Lt (Prod.snd (Prod.snd c))]),
 (3, Ob.box 75 [C.fn 74 []]),
 (4,
 Ob.box 48
 [C.int IntKind.u8
 (Prod.fst
 (Lv.get L Lt l (Lv.toN L (Prod.fst x_1)))),
 C.str
 (Prod.fst
 (Prod.snd
 (Lv.get L Lt l (Lv.toN L (Prod.fst x_1))))),
 C.int IntKind.i64
 (Prod.snd
 (Prod.snd
 (Lv.get L Lt l
 (Lv.toN L (Prod.fst x_1)))))]),
 (5, Ob.box 75 [C.fn 74 []]),
 (6,
 Ob.box 48
 [C.int IntKind.u8
 (Prod.fst
 (Lv.get L Lt (Prod.snd (Prod.snd c))
 (Lv.toN L (Prod.fst x_2)))),
 C.str
 (Prod.fst
 (Prod.snd
 (Lv.get L Lt (Prod.snd (Prod.snd c))
 (Lv.toN L (Prod.fst x_2))))),
 C.int IntKind.i64
 (Prod.snd
 (Prod.snd
 (Lv.get L Lt (Prod.snd (Prod.snd c))
 (Lv.toN L (Prod.fst x_2)))))]),
 (9,
 Ob.row 48 Lt
 (Lv.app L Lt
 (Lv.take L Lt
 (Lv.app L Lt []
 (Lv.drop L Lt
 (Lv.take L Lt l (Lv.toN L (Prod.fst c)))
 (Lv.toN L (Lv.cast L 0))))
 (Lv.add L (Lv.llen L Lt [])
 (Lv.llen L Lt
 (Lv.drop L Lt
 (Lv.take L Lt l (Lv.toN L (Prod.fst c)))
 (Lv.toN L (Lv.cast L 0))))))
 (Prod.snd (Prod.snd c))))]
 10)
 (VC.obl
 (J
 (Lv.app L Lt
 (Lv.take L Lt
 (Lv.app L Lt []
 (Lv.drop L Lt
 (Lv.take L Lt l (Lv.toN L (Prod.fst c)))
 (Lv.toN L (Lv.cast L 0))))
 (Lv.add L (Lv.llen L Lt [])
 (Lv.llen L Lt
 (Lv.drop L Lt
 (Lv.take L Lt l (Lv.toN L (Prod.fst c)))
 (Lv.toN L (Lv.cast L 0))))))
 (Prod.snd (Prod.snd c)),
 0, ()))
 (VC.all (List (Int × ByteArray × Int) × Int × Unit) fun (x_3 : List (Int × ByteArray × Int) × Int × Unit) =>
 VC.imp (J x_3)
 (VC.br
 (Lv.cmp L BinOp.lss (Prod.fst (Prod.snd x_3))
 (Lv.cast L
 (Lv.llen L Lt
 (Lv.drop L Lt
 (Lv.take L Lt l
 (Lv.toN L (Lv.cast L (Lv.llen L Lt l))))
 (Lv.toN L
 (Lv.ar L BinOp.sub IntKind.i64
 (Lv.cast L (Lv.llen L Lt l))
 (Prod.fst (Prod.snd c))))))))
 (VC.obl
 (Lv.inR L (Prod.fst (Prod.snd x_3))
 (Lv.llen L Lt
 (Lv.drop L Lt
 (Lv.take L Lt l
 (Lv.toN L (Lv.cast L (Lv.llen L Lt l))))
 (Lv.toN L
 (Lv.ar L BinOp.sub IntKind.i64
 (Lv.cast L (Lv.llen L Lt l))
 (Prod.fst (Prod.snd c)))))))
 (VC.obl
 (Lv.room L
 (Lv.add L
 (Lv.llen L Lt
 (Lv.take L Lt (Prod.fst x_3)
 (Lv.llen L Lt (Prod.fst x_3))))
 (Lv.llen L Lt
 (Lv.take L Lt
 [(Prod.fst
 (Lv.get L Lt
 (Lv.drop L Lt
 (Lv.take L Lt l
 (Lv.toN L
 (Lv.cast L
 (Lv.llen L Lt l))))
 (Lv.toN L
 (Lv.ar L BinOp.sub IntKind.i64
 (Lv.cast L (Lv.llen L Lt l))
 (Prod.fst (Prod.snd c)))))
 (Lv.toN L (Prod.fst (Prod.snd x_3)))),
 Prod.fst
 (Prod.snd
 (Lv.get L Lt
 (Lv.drop L Lt
 (Lv.take L Lt l
 (Lv.toN L
 (Lv.cast L
 (Lv.llen L Lt l))))
 (Lv.toN L
 (Lv.ar L BinOp.sub IntKind.i64
 (Lv.cast L
 (Lv.llen L Lt l))
 (Prod.fst (Prod.snd c)))))
 (Lv.toN L (Prod.fst (Prod.snd x_3))))),
 Lv.ar L BinOp.add IntKind.i64
 (Prod.snd
 (Prod.snd
 (Lv.get L Lt
 (Lv.drop L Lt
 (Lv.take L Lt l
 (Lv.toN L
 (Lv.cast L
 (Lv.llen L Lt l))))
 (Lv.toN L
 (Lv.ar L BinOp.sub IntKind.i64
 (Lv.cast L
 (Lv.llen L Lt l))
 (Prod.fst (Prod.snd c)))))
 (Lv.toN L (Prod.fst (Prod.snd x_3))))))
 (Lv.ar L BinOp.sub IntKind.i64 (Lv.cast L (Lv.slen L (Prod.snd (Prod.snd x))))
 (Lv.ar L BinOp.sub IntKind.i64 (Prod.fst (Prod.snd x)) (Prod.fst x))))]
 1)))
 32)
 (VC.ok
 (St.mk 131
 [(4, V.c (C.ptr 1 0)),
 (8,
 V.c
 (C.own 9
 (Lv.add L
 (Lv.llen L Lt
 (Lv.take L Lt (Prod.fst x_3)
 (Lv.llen L Lt
 (Prod.fst x_3))))
 (Lv.llen L Lt
 (Lv.take L Lt
 [(Prod.fst
 (Lv.get L Lt
 (Lv.drop L Lt
 (Lv.take L Lt l
 (Lv.toN L
 (Lv.cast L
 (Lv.llen L Lt
 l))))
 (Lv.toN L
 (Lv.ar L BinOp.sub IntKind.i64
 (Lv.cast L
 (Lv.llen L Lt
 l))
 (Prod.fst (Prod.snd c)))))
 (Lv.toN L (Prod.fst (Prod.snd x_3)))),
 Prod.fst
 (Prod.snd
 (Lv.get L Lt
 (Lv.drop L Lt
 (Lv.take L Lt l
 (Lv.toN L
 (Lv.cast L
 (Lv.llen L
 Lt l))))
 (Lv.toN L
 (Lv.ar L BinOp.sub IntKind.i64
 (Lv.cast L
 (Lv.llen L
 Lt l))
 (Prod.fst (Prod.snd c)))))
 (Lv.toN L (Prod.fst (Prod.snd x_3))))),
 Lv.ar L BinOp.add IntKind.i64
 (Prod.snd
 (Prod.snd
 (Lv.get L Lt
 (Lv.drop L Lt
 (Lv.take L Lt l
 (Lv.toN L
 (Lv.cast L
 (Lv.llen L
 Lt
 l))))
 (Lv.toN L
 (Lv.ar L BinOp.sub IntKind.i64
 (Lv.cast L
 (Lv.llen L
 Lt l))
 (Prod.fst (Prod.snd c)))))
 (Lv.toN L (Prod.fst (Prod.snd x_3))))))
 (Lv.ar L BinOp.sub IntKind.i64 (Lv.cast L (Lv.slen L (Prod.snd (Prod.snd x))))
 (Lv.ar L BinOp.sub IntKind.i64 (Prod.fst (Prod.snd x)) (Prod.fst x))))]
 1))))),
 (106,
 V.c
 (C.sl Lt
 (Lv.drop L Lt
 (Lv.take L Lt l
 (Lv.toN L
 (Lv.cast L
 (Lv.llen L Lt l))))
 (Lv.toN L
 (Lv.ar L BinOp.sub IntKind.i64
 (Lv.cast L (Lv.llen L Lt l))
 (Prod.fst (Prod.snd c))))))),
 (107,
 V.c
 (C.int IntKind.i64
 (Lv.cast L
 (Lv.llen L Lt
 (Lv.drop L Lt
 (Lv.take L Lt l
 (Lv.toN L
 (Lv.cast L
 (Lv.llen L Lt l))))
 (Lv.toN L
 (Lv.ar L BinOp.sub IntKind.i64
 (Lv.cast L
 (Lv.llen L Lt l))
 (Prod.fst (Prod.snd c))))))))),
 (108, V.c (C.int IntKind.i64 (Lv.ar L BinOp.add IntKind.i64 (Prod.fst (Prod.snd x_3)) 1)))]
 [(0, Ob.amb),
 (1,
 Ob.box 35
 [C.int IntKind.i64 (Prod.fst x), C.int IntKind.i64 (Prod.fst (Prod.snd x)),
 C.str (Prod.snd (Prod.snd x))]),
 (2,
 Ob.box 40
 [C.int IntKind.i64 (Prod.fst c), C.int IntKind.i64 (Prod.fst (Prod.snd c)),
 C.sl Lt (Prod.snd (Prod.snd c))]),
 (3, Ob.box 75 [C.fn 74 []]),
 (4,
 Ob.box 48
 [C.int IntKind.u8
 (Prod.fst
 (Lv.get L Lt l
 (Lv.toN L (Prod.fst x_1)))),
 C.str
 (Prod.fst
 (Prod.snd
 (Lv.get L Lt l
 (Lv.toN L (Prod.fst x_1))))),
 C.int IntKind.i64
 (Prod.snd
 (Prod.snd
 (Lv.get L Lt l
 (Lv.toN L (Prod.fst x_1)))))]),
 (5, Ob.box 75 [C.fn 74 []]),
 (6,
 Ob.box 48
 [C.int IntKind.u8
 (Prod.fst
 (Lv.get L Lt
 (Prod.snd (Prod.snd c)) (Lv.toN L (Prod.fst x_2)))),
 C.str
 (Prod.fst
 (Prod.snd
 (Lv.get L Lt
 (Prod.snd (Prod.snd c)) (Lv.toN L (Prod.fst x_2))))),
 C.int IntKind.i64
 (Prod.snd
 (Prod.snd
 (Lv.get L Lt
 (Prod.snd (Prod.snd c)) (Lv.toN L (Prod.fst x_2)))))]),
 (9,
 Ob.row 48 Lt
 (Lv.app L Lt
 (Lv.take L Lt (Prod.fst x_3)
 (Lv.llen L Lt (Prod.fst x_3)))
 (Lv.take L Lt
 [(Prod.fst
 (Lv.get L Lt
 (Lv.drop L Lt
 (Lv.take L Lt l
 (Lv.toN L
 (Lv.cast L
 (Lv.llen L Lt
 l))))
 (Lv.toN L
 (Lv.ar L BinOp.sub IntKind.i64
 (Lv.cast L
 (Lv.llen L Lt l))
 (Prod.fst (Prod.snd c)))))
 (Lv.toN L (Prod.fst (Prod.snd x_3)))),
 Prod.fst
 (Prod.snd
 (Lv.get L Lt
 (Lv.drop L Lt
 (Lv.take L Lt l
 (Lv.toN L
 (Lv.cast L
 (Lv.llen L Lt
 l))))
 (Lv.toN L
 (Lv.ar L BinOp.sub IntKind.i64
 (Lv.cast L
 (Lv.llen L Lt
 l))
 (Prod.fst (Prod.snd c)))))
 (Lv.toN L (Prod.fst (Prod.snd x_3))))),
 Lv.ar L BinOp.add IntKind.i64
 (Prod.snd
 (Prod.snd
 (Lv.get L Lt
 (Lv.drop L Lt
 (Lv.take L Lt l
 (Lv.toN L
 (Lv.cast L
 (Lv.llen L Lt
 l))))
 (Lv.toN L
 (Lv.ar L BinOp.sub IntKind.i64
 (Lv.cast L
 (Lv.llen L Lt
 l))
 (Prod.fst (Prod.snd c)))))
 (Lv.toN L (Prod.fst (Prod.snd x_3))))))
 (Lv.ar L BinOp.sub IntKind.i64 (Lv.cast L (Lv.slen L (Prod.snd (Prod.snd x))))
 (Lv.ar L BinOp.sub IntKind.i64 (Prod.fst (Prod.snd x)) (Prod.fst x))))]
 1)))]
 10 =
 St.mk 131
 [(4, V.c (C.ptr 1 0)),
 (8,
 V.c
 (C.own 9
 (Lv.llen L Lt
 (Lv.app L Lt
 (Lv.take L Lt (Prod.fst x_3)
 (Lv.llen L Lt
 (Prod.fst x_3)))
 (Lv.take L Lt
 [(Prod.fst
 (Lv.get L Lt
 (Lv.drop L Lt
 (Lv.take L Lt l
 (Lv.toN L
 (Lv.cast L
 (Lv.llen L Lt
 l))))
 (Lv.toN L
 (Lv.ar L BinOp.sub IntKind.i64
 (Lv.cast L
 (Lv.llen L Lt
 l))
 (Prod.fst (Prod.snd c)))))
 (Lv.toN L (Prod.fst (Prod.snd x_3)))),
 Prod.fst
 (Prod.snd
 (Lv.get L Lt
 (Lv.drop L Lt
 (Lv.take L Lt l
 (Lv.toN L
 (Lv.cast L
 (Lv.llen L
 Lt l))))
 (Lv.toN L
 (Lv.ar L BinOp.sub IntKind.i64
 (Lv.cast L
 (Lv.llen L
 Lt l))
 (Prod.fst (Prod.snd c)))))
 (Lv.toN L (Prod.fst (Prod.snd x_3))))),
 Lv.ar L BinOp.add IntKind.i64
 (Prod.snd
 (Prod.snd
 (Lv.get L Lt
 (Lv.drop L Lt
 (Lv.take L Lt l
 (Lv.toN L
 (Lv.cast L
 (Lv.llen L
 Lt
 l))))
 (Lv.toN L
 (Lv.ar L BinOp.sub IntKind.i64
 (Lv.cast L
 (Lv.llen L
 Lt l))
 (Prod.fst (Prod.snd c)))))
 (Lv.toN L (Prod.fst (Prod.snd x_3))))))
 (Lv.ar L BinOp.sub IntKind.i64 (Lv.cast L (Lv.slen L (Prod.snd (Prod.snd x))))
 (Lv.ar L BinOp.sub IntKind.i64 (Prod.fst (Prod.snd x)) (Prod.fst x))))]
 1))))),
 (106,
 V.c
 (C.sl Lt
 (Lv.drop L Lt
 (Lv.take L Lt l
 (Lv.toN L
 (Lv.cast L
 (Lv.llen L Lt l))))
 (Lv.toN L
 (Lv.ar L BinOp.sub IntKind.i64
 (Lv.cast L (Lv.llen L Lt l))
 (Prod.fst (Prod.snd c))))))),
 (107,
 V.c
 (C.int IntKind.i64
 (Lv.cast L
 (Lv.llen L Lt
 (Lv.drop L Lt
 (Lv.take L Lt l
 (Lv.toN L
 (Lv.cast L
 (Lv.llen L Lt l))))
 (Lv.toN L
 (Lv.ar L BinOp.sub IntKind.i64
 (Lv.cast L
 (Lv.llen L Lt l))
 (Prod.fst (Prod.snd c))))))))),
 (108, V.c (C.int IntKind.i64 (Lv.ar L BinOp.add IntKind.i64 (Prod.fst (Prod.snd x_3)) 1)))]
 [(0, Ob.amb),
 (1,
 Ob.box 35
 [C.int IntKind.i64 (Prod.fst x), C.int IntKind.i64 (Prod.fst (Prod.snd x)),
 C.str (Prod.snd (Prod.snd x))]),
 (2,
 Ob.box 40
 [C.int IntKind.i64 (Prod.fst c), C.int IntKind.i64 (Prod.fst (Prod.snd c)),
 C.sl Lt (Prod.snd (Prod.snd c))]),
 (3, Ob.box 75 [C.fn 74 []]),
 (4,
 Ob.box 48
 [C.int IntKind.u8
 (Prod.fst
 (Lv.get L Lt l
 (Lv.toN L (Prod.fst x_1)))),
 C.str
 (Prod.fst
 (Prod.snd
 (Lv.get L Lt l
 (Lv.toN L (Prod.fst x_1))))),
 C.int IntKind.i64
 (Prod.snd
 (Prod.snd
 (Lv.get L Lt l
 (Lv.toN L (Prod.fst x_1)))))]),
 (5, Ob.box 75 [C.fn 74 []]),
 (6,
 Ob.box 48
 [C.int IntKind.u8
 (Prod.fst
 (Lv.get L Lt
 (Prod.snd (Prod.snd c)) (Lv.toN L (Prod.fst x_2)))),
 C.str
 (Prod.fst
 (Prod.snd
 (Lv.get L Lt
 (Prod.snd (Prod.snd c)) (Lv.toN L (Prod.fst x_2))))),
 C.int IntKind.i64
 (Prod.snd
 (Prod.snd
 (Lv.get L Lt
 (Prod.snd (Prod.snd c)) (Lv.toN L (Prod.fst x_2)))))]),
 (9,
 Ob.row 48 Lt
 (Lv.app L Lt
 (Lv.take L Lt (Prod.fst x_3)
 (Lv.llen L Lt (Prod.fst x_3)))
 (Lv.take L Lt
 [(Prod.fst
 (Lv.get L Lt
 (Lv.drop L Lt
 (Lv.take L Lt l
 (Lv.toN L
 (Lv.cast L
 (Lv.llen L Lt
 l))))
 (Lv.toN L
 (Lv.ar L BinOp.sub IntKind.i64
 (Lv.cast L
 (Lv.llen L Lt l))
 (Prod.fst (Prod.snd c)))))
 (Lv.toN L (Prod.fst (Prod.snd x_3)))),
 Prod.fst
 (Prod.snd
 (Lv.get L Lt
 (Lv.drop L Lt
 (Lv.take L Lt l
 (Lv.toN L
 (Lv.cast L
 (Lv.llen L Lt
 l))))
 (Lv.toN L
 (Lv.ar L BinOp.sub IntKind.i64
 (Lv.cast L
 (Lv.llen L Lt
 l))
 (Prod.fst (Prod.snd c)))))
 (Lv.toN L (Prod.fst (Prod.snd x_3))))),
 Lv.ar L BinOp.add IntKind.i64
 (Prod.snd
 (Prod.snd
 (Lv.get L Lt
 (Lv.drop L Lt
 (Lv.take L Lt l
 (Lv.toN L
 (Lv.cast L
 (Lv.llen L Lt
 l))))
 (Lv.toN L
 (Lv.ar L BinOp.sub IntKind.i64
 (Lv.cast L
 (Lv.llen L Lt
 l))
 (Prod.fst (Prod.snd c)))))
 (Lv.toN L (Prod.fst (Prod.snd x_3))))))
 (Lv.ar L BinOp.sub IntKind.i64 (Lv.cast L (Lv.slen L (Prod.snd (Prod.snd x))))
 (Lv.ar L BinOp.sub IntKind.i64 (Prod.fst (Prod.snd x)) (Prod.fst x))))]
 1)))]
 10 ∧
 J
 (Lv.app L Lt
 (Lv.take L Lt (Prod.fst x_3)
 (Lv.llen L Lt (Prod.fst x_3)))
 (Lv.take L Lt
 [(Prod.fst
 (Lv.get L Lt
 (Lv.drop L Lt
 (Lv.take L Lt l
 (Lv.toN L
 (Lv.cast L
 (Lv.llen L Lt l))))
 (Lv.toN L
 (Lv.ar L BinOp.sub IntKind.i64
 (Lv.cast L
 (Lv.llen L Lt l))
 (Prod.fst (Prod.snd c)))))
 (Lv.toN L (Prod.fst (Prod.snd x_3)))),
 Prod.fst
 (Prod.snd
 (Lv.get L Lt
 (Lv.drop L Lt
 (Lv.take L Lt l
 (Lv.toN L
 (Lv.cast L
 (Lv.llen L Lt l))))
 (Lv.toN L
 (Lv.ar L BinOp.sub IntKind.i64
 (Lv.cast L
 (Lv.llen L Lt l))
 (Prod.fst (Prod.snd c)))))
 (Lv.toN L (Prod.fst (Prod.snd x_3))))),
 Lv.ar L BinOp.add IntKind.i64
 (Prod.snd
 (Prod.snd
 (Lv.get L Lt
 (Lv.drop L Lt
 (Lv.take L Lt l
 (Lv.toN L
 (Lv.cast L
 (Lv.llen L Lt
 l))))
 (Lv.toN L
 (Lv.ar L BinOp.sub IntKind.i64
 (Lv.cast L
 (Lv.llen L Lt l))
 (Prod.fst (Prod.snd c)))))
 (Lv.toN L (Prod.fst (Prod.snd x_3))))))
 (Lv.ar L BinOp.sub IntKind.i64 (Lv.cast L (Lv.slen L (Prod.snd (Prod.snd x))))
 (Lv.ar L BinOp.sub IntKind.i64 (Prod.fst (Prod.snd x)) (Prod.fst x))))]
 1),
 Lv.ar L BinOp.add IntKind.i64 (Prod.fst (Prod.snd x_3)) 1, ()) ∧
 nu
 (Lv.app L Lt
 (Lv.take L Lt (Prod.fst x_3)
 (Lv.llen L Lt (Prod.fst x_3)))
 (Lv.take L Lt
 [(Prod.fst
 (Lv.get L Lt
 (Lv.drop L Lt
 (Lv.take L Lt l
 (Lv.toN L
 (Lv.cast L
 (Lv.llen L Lt l))))
 (Lv.toN L
 (Lv.ar L BinOp.sub IntKind.i64
 (Lv.cast L
 (Lv.llen L Lt l))
 (Prod.fst (Prod.snd c)))))
 (Lv.toN L (Prod.fst (Prod.snd x_3)))),
 Prod.fst
 (Prod.snd
 (Lv.get L Lt
 (Lv.drop L Lt
 (Lv.take L Lt l
 (Lv.toN L
 (Lv.cast L
 (Lv.llen L Lt
 l))))
 (Lv.toN L
 (Lv.ar L BinOp.sub IntKind.i64
 (Lv.cast L
 (Lv.llen L Lt l))
 (Prod.fst (Prod.snd c)))))
 (Lv.toN L (Prod.fst (Prod.snd x_3))))),
 Lv.ar L BinOp.add IntKind.i64
 (Prod.snd
 (Prod.snd
 (Lv.get L Lt
 (Lv.drop L Lt
 (Lv.take L Lt l
 (Lv.toN L
 (Lv.cast L
 (Lv.llen L Lt
 l))))
 (Lv.toN L
 (Lv.ar L BinOp.sub IntKind.i64
 (Lv.cast L
 (Lv.llen L Lt
 l))
 (Prod.fst (Prod.snd c)))))
 (Lv.toN L (Prod.fst (Prod.snd x_3))))))
 (Lv.ar L BinOp.sub IntKind.i64 (Lv.cast L (Lv.slen L (Prod.snd (Prod.snd x))))
 (Lv.ar L BinOp.sub IntKind.i64 (Prod.fst (Prod.snd x)) (Prod.fst x))))]
 1),
 Lv.ar L BinOp.add IntKind.i64 (Prod.fst (Prod.snd x_3)) 1, ()) <
 nu x_3))))
 (VC.ok
 ((Lv.take L Lt (Prod.fst x_3)
 (Lv.llen L Lt (Prod.fst x_3)),
 0, ()) =
 (Prod.fst (LexF.patch F l x c), Prod.snd (LexF.patch F l x c), ()))))))))))))))))
 (VC.br (Lv.cmp L BinOp.geq (Int.negSucc 0) 0)
 (VC.ok (([], 3, ()) = (Prod.fst (LexF.patch F l x c), Prod.snd (LexF.patch F l x c), ())))
 (VC.br
 (Lv.cmp L BinOp.gtr
 (Lv.ar L BinOp.add IntKind.i64
 (Lv.ar L BinOp.add IntKind.i64 (Prod.fst c)
 (Lv.cast L (Lv.llen L Lt (Prod.snd (Prod.snd c)))))
 (Prod.fst (Prod.snd c)))
 900)
 (VC.ok (([], 5, ()) = (Prod.fst (LexF.patch F l x c), Prod.snd (LexF.patch F l x c), ())))
 (VC.obl (Lv.le3 L (Lv.cast L 0) (Prod.fst c) (Lv.llen L Lt l))
 (VC.obl
 (Lv.room L
 (Lv.add L (Lv.llen L Lt [])
 (Lv.llen L Lt
 (Lv.drop L Lt
 (Lv.take L Lt l (Lv.toN L (Prod.fst c)))
 (Lv.toN L (Lv.cast L 0)))))
 32)
 (VC.obl
 (Lv.room L
 (Lv.add L
 (Lv.llen L Lt
 (Lv.take L Lt
 (Lv.app L Lt []
 (Lv.drop L Lt
 (Lv.take L Lt l (Lv.toN L (Prod.fst c)))
 (Lv.toN L (Lv.cast L 0))))
 (Lv.add L (Lv.llen L Lt [])
 (Lv.llen L Lt
 (Lv.drop L Lt
 (Lv.take L Lt l (Lv.toN L (Prod.fst c)))
 (Lv.toN L (Lv.cast L 0)))))))
 (Lv.llen L Lt (Prod.snd (Prod.snd c))))
 32)
 (VC.obl
 (Lv.le3 L
 (Lv.ar L BinOp.sub IntKind.i64 (Lv.cast L (Lv.llen L Lt l))
 (Prod.fst (Prod.snd c)))
 (Lv.cast L (Lv.llen L Lt l))
 (Lv.llen L Lt l))
 (VC.obl
 (St.mk 131
 [(4, V.c (C.ptr 1 0)),
 (8,
 V.c
 (C.own 8
 (Lv.add L
 (Lv.llen L Lt
 (Lv.take L Lt
 (Lv.app L Lt []
 (Lv.drop L Lt
 (Lv.take L Lt l (Lv.toN L (Prod.fst c)))
 (Lv.toN L (Lv.cast L 0))))
 (Lv.add L (Lv.llen L Lt [])
 (Lv.llen L Lt
 (Lv.drop L Lt
 (Lv.take L Lt l (Lv.toN L (Prod.fst c)))
 (Lv.toN L (Lv.cast L 0)))))))
 (Lv.llen L Lt (Prod.snd (Prod.snd c)))))),
 (106,
 V.c
 (C.sl Lt
 (Lv.drop L Lt
 (Lv.take L Lt l
 (Lv.toN L (Lv.cast L (Lv.llen L Lt l))))
 (Lv.toN L
 (Lv.ar L BinOp.sub IntKind.i64
 (Lv.cast L (Lv.llen L Lt l))
 (Prod.fst (Prod.snd c))))))),
 (107,
 V.c
 (C.int IntKind.i64
 (Lv.cast L
 (Lv.llen L Lt
 (Lv.drop L Lt
 (Lv.take L Lt l
 (Lv.toN L (Lv.cast L (Lv.llen L Lt l))))
 (Lv.toN L
 (Lv.ar L BinOp.sub IntKind.i64
 (Lv.cast L (Lv.llen L Lt l))
 (Prod.fst (Prod.snd c))))))))),
 (108, V.c (C.int IntKind.i64 0))]
 [(0, Ob.amb),
 (1, Ob.box 35 [C.int IntKind.i64 (Prod.fst x), C.int IntKind.i64 (Prod.fst (Prod.snd x)), C.str (Prod.snd (Prod.snd x))]),
 (2,
 Ob.box 40
 [C.int IntKind.i64 (Prod.fst c), C.int IntKind.i64 (Prod.fst (Prod.snd c)),
 C.sl Lt (Prod.snd (Prod.snd c))]),
 (3, Ob.box 75 [C.fn 74 []]),
 (4,
 Ob.box 48
 [C.int IntKind.u8
 (Prod.fst (Lv.get L Lt l (Lv.toN L (Prod.fst x_1)))),
 C.str
 (Prod.fst
 (Prod.snd
 (Lv.get L Lt l (Lv.toN L (Prod.fst x_1))))),
 C.int IntKind.i64
 (Prod.snd
 (Prod.snd
 (Lv.get L Lt l (Lv.toN L (Prod.fst x_1)))))]),
 (5, Ob.box 75 [C.fn 74 []]),
 (8,
 Ob.row 48 Lt
 (Lv.app L Lt
 (Lv.take L Lt
 (Lv.app L Lt []
 (Lv.drop L Lt
 (Lv.take L Lt l (Lv.toN L (Prod.fst c)))
 (Lv.toN L (Lv.cast L 0))))
 (Lv.add L (Lv.llen L Lt [])
 (Lv.llen L Lt
 (Lv.drop L Lt
 (Lv.take L Lt l (Lv.toN L (Prod.fst c)))
 (Lv.toN L (Lv.cast L 0))))))
 (Prod.snd (Prod.snd c))))]
 9 =
 St.mk 131
 [(4, V.c (C.ptr 1 0)),
 (8,
 V.c
 (C.own 8
 (Lv.llen L Lt
 (Lv.app L Lt
 (Lv.take L Lt
 (Lv.app L Lt []
 (Lv.drop L Lt
 (Lv.take L Lt l (Lv.toN L (Prod.fst c)))
 (Lv.toN L (Lv.cast L 0))))
 (Lv.add L (Lv.llen L Lt [])
 (Lv.llen L Lt
 (Lv.drop L Lt
 (Lv.take L Lt l (Lv.toN L (Prod.fst c)))
 (Lv.toN L (Lv.cast L 0))))))
 (Prod.snd (Prod.snd c)))))),
 (106,
 V.c
 (C.sl Lt
 (Lv.drop L Lt
 (Lv.take L Lt l
 (Lv.toN L (Lv.cast L (Lv.llen L Lt l))))
 (Lv.toN L
 (Lv.ar L BinOp.sub IntKind.i64
 (Lv.cast L (Lv.llen L Lt l))
 (Prod.fst (Prod.snd c))))))),
 (107,
 V.c
 (C.int IntKind.i64
 (Lv.cast L
 (Lv.llen L Lt
 (Lv.drop L Lt
 (Lv.take L Lt l
 (Lv.toN L (Lv.cast L (Lv.llen L Lt l))))
 (Lv.toN L
 (Lv.ar L BinOp.sub IntKind.i64
 (Lv.cast L (Lv.llen L Lt l))
 (Prod.fst (Prod.snd c))))))))),
 (108, V.c (C.int IntKind.i64 0))]
 [(0, Ob.amb),
 (1, Ob.box 35 [C.int IntKind.i64 (Prod.fst x), C.int IntKind.i64 (Prod.fst (Prod.snd x)), C.str (Prod.snd (Prod.snd x))]),
 (2,
 Ob.box 40
 [C.int IntKind.i64 (Prod.fst c), C.int IntKind.i64 (Prod.fst (Prod.snd c)),
 C.sl Lt (Prod.snd (Prod.snd c))]),
 (3, Ob.box 75 [C.fn 74 []]),
 (4,
 Ob.box 48
 [C.int IntKind.u8
 (Prod.fst (Lv.get L Lt l (Lv.toN L (Prod.fst x_1)))),
 C.str
 (Prod.fst
 (Prod.snd
 (Lv.get L Lt l (Lv.toN L (Prod.fst x_1))))),
 C.int IntKind.i64
 (Prod.snd
 (Prod.snd
 (Lv.get L Lt l (Lv.toN L (Prod.fst x_1)))))]),
 (5, Ob.box 75 [C.fn 74 []]),
 (8,
 Ob.row 48 Lt
 (Lv.app L Lt
 (Lv.take L Lt
 (Lv.app L Lt []
 (Lv.drop L Lt
 (Lv.take L Lt l (Lv.toN L (Prod.fst c)))
 (Lv.toN L (Lv.cast L 0))))
 (Lv.add L (Lv.llen L Lt [])
 (Lv.llen L Lt
 (Lv.drop L Lt
 (Lv.take L Lt l (Lv.toN L (Prod.fst c)))
 (Lv.toN L (Lv.cast L 0))))))
 (Prod.snd (Prod.snd c))))]
 9)
 (VC.obl
 (J
 (Lv.app L Lt
 (Lv.take L Lt
 (Lv.app L Lt []
 (Lv.drop L Lt
 (Lv.take L Lt l (Lv.toN L (Prod.fst c)))
 (Lv.toN L (Lv.cast L 0))))
 (Lv.add L (Lv.llen L Lt [])
 (Lv.llen L Lt
 (Lv.drop L Lt
 (Lv.take L Lt l (Lv.toN L (Prod.fst c)))
 (Lv.toN L (Lv.cast L 0))))))
 (Prod.snd (Prod.snd c)),
 0, ()))
 (VC.all (List (Int × ByteArray × Int) × Int × Unit) fun (x_3 : List (Int × ByteArray × Int) × Int × Unit) =>
 VC.imp (J x_3)
 (VC.br
 (Lv.cmp L BinOp.lss (Prod.fst (Prod.snd x_3))
 (Lv.cast L
 (Lv.llen L Lt
 (Lv.drop L Lt
 (Lv.take L Lt l
 (Lv.toN L (Lv.cast L (Lv.llen L Lt l))))
 (Lv.toN L
 (Lv.ar L BinOp.sub IntKind.i64
 (Lv.cast L (Lv.llen L Lt l))
 (Prod.fst (Prod.snd c))))))))
 (VC.obl
 (Lv.inR L (Prod.fst (Prod.snd x_3))
 (Lv.llen L Lt
 (Lv.drop L Lt
 (Lv.take L Lt l
 (Lv.toN L (Lv.cast L (Lv.llen L Lt l))))
 (Lv.toN L
 (Lv.ar L BinOp.sub IntKind.i64
 (Lv.cast L (Lv.llen L Lt l))
 (Prod.fst (Prod.snd c)))))))
 (VC.obl
 (Lv.room L
 (Lv.add L
 (Lv.llen L Lt
 (Lv.take L Lt (Prod.fst x_3)
 (Lv.llen L Lt (Prod.fst x_3))))
 (Lv.llen L Lt
 (Lv.take L Lt
 [(Prod.fst
 (Lv.get L Lt
 (Lv.drop L Lt
 (Lv.take L Lt l
 (Lv.toN L
 (Lv.cast L (Lv.llen L Lt l))))
 (Lv.toN L
 (Lv.ar L BinOp.sub IntKind.i64
 (Lv.cast L (Lv.llen L Lt l))
 (Prod.fst (Prod.snd c)))))
 (Lv.toN L (Prod.fst (Prod.snd x_3)))),
 Prod.fst
 (Prod.snd
 (Lv.get L Lt
 (Lv.drop L Lt
 (Lv.take L Lt l
 (Lv.toN L
 (Lv.cast L (Lv.llen L Lt l))))
 (Lv.toN L
 (Lv.ar L BinOp.sub IntKind.i64
 (Lv.cast L (Lv.llen L Lt l))
 (Prod.fst (Prod.snd c)))))
 (Lv.toN L (Prod.fst (Prod.snd x_3))))),
 Lv.ar L BinOp.add IntKind.i64
 (Prod.snd
 (Prod.snd
 (Lv.get L Lt
 (Lv.drop L Lt
 (Lv.take L Lt l
 (Lv.toN L
 (Lv.cast L (Lv.llen L Lt l))))
 (Lv.toN L
 (Lv.ar L BinOp.sub IntKind.i64
 (Lv.cast L (Lv.llen L Lt l))
 (Prod.fst (Prod.snd c)))))
 (Lv.toN L (Prod.fst (Prod.snd x_3))))))
 (Lv.ar L BinOp.sub IntKind.i64 (Lv.cast L (Lv.slen L (Prod.snd (Prod.snd x))))
 (Lv.ar L BinOp.sub IntKind.i64 (Prod.fst (Prod.snd x)) (Prod.fst x))))]
 1)))
 32)
 (VC.ok
 (St.mk 131
 [(4, V.c (C.ptr 1 0)),
 (8,
 V.c
 (C.own 8
 (Lv.add L
 (Lv.llen L Lt
 (Lv.take L Lt (Prod.fst x_3)
 (Lv.llen L Lt (Prod.fst x_3))))
 (Lv.llen L Lt
 (Lv.take L Lt
 [(Prod.fst
 (Lv.get L Lt
 (Lv.drop L Lt
 (Lv.take L Lt l
 (Lv.toN L
 (Lv.cast L
 (Lv.llen L Lt l))))
 (Lv.toN L
 (Lv.ar L BinOp.sub IntKind.i64
 (Lv.cast L
 (Lv.llen L Lt l))
 (Prod.fst (Prod.snd c)))))
 (Lv.toN L (Prod.fst (Prod.snd x_3)))),
 Prod.fst
 (Prod.snd
 (Lv.get L Lt
 (Lv.drop L Lt
 (Lv.take L Lt l
 (Lv.toN L
 (Lv.cast L
 (Lv.llen L Lt
 l))))
 (Lv.toN L
 (Lv.ar L BinOp.sub IntKind.i64
 (Lv.cast L
 (Lv.llen L Lt l))
 (Prod.fst (Prod.snd c)))))
 (Lv.toN L (Prod.fst (Prod.snd x_3))))),
 Lv.ar L BinOp.add IntKind.i64
 (Prod.snd
 (Prod.snd
 (Lv.get L Lt
 (Lv.drop L Lt
 (Lv.take L Lt l
 (Lv.toN L
 (Lv.cast L
 (Lv.llen L Lt
 l))))
 (Lv.toN L
 (Lv.ar L BinOp.sub IntKind.i64
 (Lv.cast L
 (Lv.llen L Lt
 l))
 (Prod.fst (Prod.snd c)))))
 (Lv.toN L (Prod.fst (Prod.snd x_3))))))
 (Lv.ar L BinOp.sub IntKind.i64 (Lv.cast L (Lv.slen L (Prod.snd (Prod.snd x))))
 (Lv.ar L BinOp.sub IntKind.i64 (Prod.fst (Prod.snd x)) (Prod.fst x))))]
 1))))),
 (106,
 V.c
 (C.sl Lt
 (Lv.drop L Lt
 (Lv.take L Lt l
 (Lv.toN L
 (Lv.cast L (Lv.llen L Lt l))))
 (Lv.toN L
 (Lv.ar L BinOp.sub IntKind.i64
 (Lv.cast L (Lv.llen L Lt l))
 (Prod.fst (Prod.snd c))))))),
 (107,
 V.c
 (C.int IntKind.i64
 (Lv.cast L
 (Lv.llen L Lt
 (Lv.drop L Lt
 (Lv.take L Lt l
 (Lv.toN L
 (Lv.cast L (Lv.llen L Lt l))))
 (Lv.toN L
 (Lv.ar L BinOp.sub IntKind.i64
 (Lv.cast L (Lv.llen L Lt l))
 (Prod.fst (Prod.snd c))))))))),
 (108, V.c (C.int IntKind.i64 (Lv.ar L BinOp.add IntKind.i64 (Prod.fst (Prod.snd x_3)) 1)))]
 [(0, Ob.amb),
 (1,
 Ob.box 35
 [C.int IntKind.i64 (Prod.fst x), C.int IntKind.i64 (Prod.fst (Prod.snd x)), C.str (Prod.snd (Prod.snd x))]),
 (2,
 Ob.box 40
 [C.int IntKind.i64 (Prod.fst c), C.int IntKind.i64 (Prod.fst (Prod.snd c)),
 C.sl Lt (Prod.snd (Prod.snd c))]),
 (3, Ob.box 75 [C.fn 74 []]),
 (4,
 Ob.box 48
 [C.int IntKind.u8
 (Prod.fst
 (Lv.get L Lt l
 (Lv.toN L (Prod.fst x_1)))),
 C.str
 (Prod.fst
 (Prod.snd
 (Lv.get L Lt l
 (Lv.toN L (Prod.fst x_1))))),
 C.int IntKind.i64
 (Prod.snd
 (Prod.snd
 (Lv.get L Lt l
 (Lv.toN L (Prod.fst x_1)))))]),
 (5, Ob.box 75 [C.fn 74 []]),
 (8,
 Ob.row 48 Lt
 (Lv.app L Lt
 (Lv.take L Lt (Prod.fst x_3)
 (Lv.llen L Lt (Prod.fst x_3)))
 (Lv.take L Lt
 [(Prod.fst
 (Lv.get L Lt
 (Lv.drop L Lt
 (Lv.take L Lt l
 (Lv.toN L
 (Lv.cast L
 (Lv.llen L Lt l))))
 (Lv.toN L
 (Lv.ar L BinOp.sub IntKind.i64
 (Lv.cast L
 (Lv.llen L Lt l))
 (Prod.fst (Prod.snd c)))))
 (Lv.toN L (Prod.fst (Prod.snd x_3)))),
 Prod.fst
 (Prod.snd
 (Lv.get L Lt
 (Lv.drop L Lt
 (Lv.take L Lt l
 (Lv.toN L
 (Lv.cast L
 (Lv.llen L Lt l))))
 (Lv.toN L
 (Lv.ar L BinOp.sub IntKind.i64
 (Lv.cast L
 (Lv.llen L Lt l))
 (Prod.fst (Prod.snd c)))))
 (Lv.toN L (Prod.fst (Prod.snd x_3))))),
 Lv.ar L BinOp.add IntKind.i64
 (Prod.snd
 (Prod.snd
 (Lv.get L Lt
 (Lv.drop L Lt
 (Lv.take L Lt l
 (Lv.toN L
 (Lv.cast L
 (Lv.llen L Lt l))))
 (Lv.toN L
 (Lv.ar L BinOp.sub IntKind.i64
 (Lv.cast L
 (Lv.llen L Lt l))
 (Prod.fst (Prod.snd c)))))
 (Lv.toN L (Prod.fst (Prod.snd x_3))))))
 (Lv.ar L BinOp.sub IntKind.i64 (Lv.cast L (Lv.slen L (Prod.snd (Prod.snd x))))
 (Lv.ar L BinOp.sub IntKind.i64 (Prod.fst (Prod.snd x)) (Prod.fst x))))]
 1)))]
 9 =
 St.mk 131
 [(4, V.c (C.ptr 1 0)),
 (8,
 V.c
 (C.own 8
 (Lv.llen L Lt
 (Lv.app L Lt
 (Lv.take L Lt (Prod.fst x_3)
 (Lv.llen L Lt (Prod.fst x_3)))
 (Lv.take L Lt
 [(Prod.fst
 (Lv.get L Lt
 (Lv.drop L Lt
 (Lv.take L Lt l
 (Lv.toN L
 (Lv.cast L
 (Lv.llen L Lt l))))
 (Lv.toN L
 (Lv.ar L BinOp.sub IntKind.i64
 (Lv.cast L
 (Lv.llen L Lt l))
 (Prod.fst (Prod.snd c)))))
 (Lv.toN L (Prod.fst (Prod.snd x_3)))),
 Prod.fst
 (Prod.snd
 (Lv.get L Lt
 (Lv.drop L Lt
 (Lv.take L Lt l
 (Lv.toN L
 (Lv.cast L
 (Lv.llen L Lt
 l))))
 (Lv.toN L
 (Lv.ar L BinOp.sub IntKind.i64
 (Lv.cast L
 (Lv.llen L Lt l))
 (Prod.fst (Prod.snd c)))))
 (Lv.toN L (Prod.fst (Prod.snd x_3))))),
 Lv.ar L BinOp.add IntKind.i64
 (Prod.snd
 (Prod.snd
 (Lv.get L Lt
 (Lv.drop L Lt
 (Lv.take L Lt l
 (Lv.toN L
 (Lv.cast L
 (Lv.llen L Lt
 l))))
 (Lv.toN L
 (Lv.ar L BinOp.sub IntKind.i64
 (Lv.cast L
 (Lv.llen L Lt
 l))
 (Prod.fst (Prod.snd c)))))
 (Lv.toN L (Prod.fst (Prod.snd x_3))))))
 (Lv.ar L BinOp.sub IntKind.i64 (Lv.cast L (Lv.slen L (Prod.snd (Prod.snd x))))
 (Lv.ar L BinOp.sub IntKind.i64 (Prod.fst (Prod.snd x)) (Prod.fst x))))]
 1))))),
 (106,
 V.c
 (C.sl Lt
 (Lv.drop L Lt
 (Lv.take L Lt l
 (Lv.toN L
 (Lv.cast L (Lv.llen L Lt l))))
 (Lv.toN L
 (Lv.ar L BinOp.sub IntKind.i64
 (Lv.cast L (Lv.llen L Lt l))
 (Prod.fst (Prod.snd c))))))),
 (107,
 V.c
 (C.int IntKind.i64
 (Lv.cast L
 (Lv.llen L Lt
 (Lv.drop L Lt
 (Lv.take L Lt l
 (Lv.toN L
 (Lv.cast L (Lv.llen L Lt l))))
 (Lv.toN L
 (Lv.ar L BinOp.sub IntKind.i64
 (Lv.cast L (Lv.llen L Lt l))
 (Prod.fst (Prod.snd c))))))))),
 (108, V.c (C.int IntKind.i64 (Lv.ar L BinOp.add IntKind.i64 (Prod.fst (Prod.snd x_3)) 1)))]
 [(0, Ob.amb),
 (1,
 Ob.box 35
 [C.int IntKind.i64 (Prod.fst x), C.int IntKind.i64 (Prod.fst (Prod.snd x)), C.str (Prod.snd (Prod.snd x))]),
 (2,
 Ob.box 40
 [C.int IntKind.i64 (Prod.fst c), C.int IntKind.i64 (Prod.fst (Prod.snd c)),
 C.sl Lt (Prod.snd (Prod.snd c))]),
 (3, Ob.box 75 [C.fn 74 []]),
 (4,
 Ob.box 48
 [C.int IntKind.u8
 (Prod.fst
 (Lv.get L Lt l
 (Lv.toN L (Prod.fst x_1)))),
 C.str
 (Prod.fst
 (Prod.snd
 (Lv.get L Lt l
 (Lv.toN L (Prod.fst x_1))))),
 C.int IntKind.i64
 (Prod.snd
 (Prod.snd
 (Lv.get L Lt l
 (Lv.toN L (Prod.fst x_1)))))]),
 (5, Ob.box 75 [C.fn 74 []]),
 (8,
 Ob.row 48 Lt
 (Lv.app L Lt
 (Lv.take L Lt (Prod.fst x_3)
 (Lv.llen L Lt (Prod.fst x_3)))
 (Lv.take L Lt
 [(Prod.fst
 (Lv.get L Lt
 (Lv.drop L Lt
 (Lv.take L Lt l
 (Lv.toN L
 (Lv.cast L
 (Lv.llen L Lt l))))
 (Lv.toN L
 (Lv.ar L BinOp.sub IntKind.i64
 (Lv.cast L
 (Lv.llen L Lt l))
 (Prod.fst (Prod.snd c)))))
 (Lv.toN L (Prod.fst (Prod.snd x_3)))),
 Prod.fst
 (Prod.snd
 (Lv.get L Lt
 (Lv.drop L Lt
 (Lv.take L Lt l
 (Lv.toN L
 (Lv.cast L
 (Lv.llen L Lt l))))
 (Lv.toN L
 (Lv.ar L BinOp.sub IntKind.i64
 (Lv.cast L
 (Lv.llen L Lt l))
 (Prod.fst (Prod.snd c)))))
 (Lv.toN L (Prod.fst (Prod.snd x_3))))),
 Lv.ar L BinOp.add IntKind.i64
 (Prod.snd
 (Prod.snd
 (Lv.get L Lt
 (Lv.drop L Lt
 (Lv.take L Lt l
 (Lv.toN L
 (Lv.cast L
 (Lv.llen L Lt l))))
 (Lv.toN L
 (Lv.ar L BinOp.sub IntKind.i64
 (Lv.cast L
 (Lv.llen L Lt l))
 (Prod.fst (Prod.snd c)))))
 (Lv.toN L (Prod.fst (Prod.snd x_3))))))
 (Lv.ar L BinOp.sub IntKind.i64 (Lv.cast L (Lv.slen L (Prod.snd (Prod.snd x))))
 (Lv.ar L BinOp.sub IntKind.i64 (Prod.fst (Prod.snd x)) (Prod.fst x))))]
 1)))]
 9 ∧
 J
 (Lv.app L Lt
 (Lv.take L Lt (Prod.fst x_3)
 (Lv.llen L Lt (Prod.fst x_3)))
 (Lv.take L Lt
 [(Prod.fst
 (Lv.get L Lt
 (Lv.drop L Lt
 (Lv.take L Lt l
 (Lv.toN L
 (Lv.cast L
 (Lv.llen L Lt l))))
 (Lv.toN L
 (Lv.ar L BinOp.sub IntKind.i64
 (Lv.cast L (Lv.llen L Lt l))
 (Prod.fst (Prod.snd c)))))
 (Lv.toN L (Prod.fst (Prod.snd x_3)))),
 Prod.fst
 (Prod.snd
 (Lv.get L Lt
 (Lv.drop L Lt
 (Lv.take L Lt l
 (Lv.toN L
 (Lv.cast L
 (Lv.llen L Lt l))))
 (Lv.toN L
 (Lv.ar L BinOp.sub IntKind.i64
 (Lv.cast L
 (Lv.llen L Lt l))
 (Prod.fst (Prod.snd c)))))
 (Lv.toN L (Prod.fst (Prod.snd x_3))))),
 Lv.ar L BinOp.add IntKind.i64
 (Prod.snd
 (Prod.snd
 (Lv.get L Lt
 (Lv.drop L Lt
 (Lv.take L Lt l
 (Lv.toN L
 (Lv.cast L
 (Lv.llen L Lt l))))
 (Lv.toN L
 (Lv.ar L BinOp.sub IntKind.i64
 (Lv.cast L
 (Lv.llen L Lt l))
 (Prod.fst (Prod.snd c)))))
 (Lv.toN L (Prod.fst (Prod.snd x_3))))))
 (Lv.ar L BinOp.sub IntKind.i64 (Lv.cast L (Lv.slen L (Prod.snd (Prod.snd x))))
 (Lv.ar L BinOp.sub IntKind.i64 (Prod.fst (Prod.snd x)) (Prod.fst x))))]
 1),
 Lv.ar L BinOp.add IntKind.i64 (Prod.fst (Prod.snd x_3)) 1, ()) ∧
 nu
 (Lv.app L Lt
 (Lv.take L Lt (Prod.fst x_3)
 (Lv.llen L Lt (Prod.fst x_3)))
 (Lv.take L Lt
 [(Prod.fst
 (Lv.get L Lt
 (Lv.drop L Lt
 (Lv.take L Lt l
 (Lv.toN L
 (Lv.cast L
 (Lv.llen L Lt l))))
 (Lv.toN L
 (Lv.ar L BinOp.sub IntKind.i64
 (Lv.cast L
 (Lv.llen L Lt l))
 (Prod.fst (Prod.snd c)))))
 (Lv.toN L (Prod.fst (Prod.snd x_3)))),
 Prod.fst
 (Prod.snd
 (Lv.get L Lt
 (Lv.drop L Lt
 (Lv.take L Lt l
 (Lv.toN L
 (Lv.cast L
 (Lv.llen L Lt l))))
 (Lv.toN L
 (Lv.ar L BinOp.sub IntKind.i64
 (Lv.cast L
 (Lv.llen L Lt l))
 (Prod.fst (Prod.snd c)))))
 (Lv.toN L (Prod.fst (Prod.snd x_3))))),
 Lv.ar L BinOp.add IntKind.i64
 (Prod.snd
 (Prod.snd
 (Lv.get L Lt
 (Lv.drop L Lt
 (Lv.take L Lt l
 (Lv.toN L
 (Lv.cast L
 (Lv.llen L Lt l))))
 (Lv.toN L
 (Lv.ar L BinOp.sub IntKind.i64
 (Lv.cast L
 (Lv.llen L Lt l))
 (Prod.fst (Prod.snd c)))))
 (Lv.toN L (Prod.fst (Prod.snd x_3))))))
 (Lv.ar L BinOp.sub IntKind.i64 (Lv.cast L (Lv.slen L (Prod.snd (Prod.snd x))))
 (Lv.ar L BinOp.sub IntKind.i64 (Prod.fst (Prod.snd x)) (Prod.fst x))))]
 1),
 Lv.ar L BinOp.add IntKind.i64 (Prod.fst (Prod.snd x_3)) 1, ()) <
 nu x_3))))
 (VC.ok
 ((Lv.take L Lt (Prod.fst x_3)
 (Lv.llen L Lt (Prod.fst x_3)),
 0, ()) =
 (Prod.fst (LexF.patch F l x c), Prod.snd (LexF.patch F l x c), ())))))))))))))))))))))
 (VC.br (Lv.cmp L BinOp.geq (Int.negSucc 0) 0) (VC.ok (([], 3, ()) = (Prod.fst (LexF.patch F l x c), Prod.snd (LexF.patch F l x c), ())))
 (VC.obl
 (St.mk 19
 [(0, V.c (C.sl Lt (Prod.snd (Prod.snd c)))), (1, V.c (C.fn 96 [4])),
 (7, V.c (C.int IntKind.i64 (Lv.cast L (Lv.llen L Lt (Prod.snd (Prod.snd c)))))),
 (8, V.c (C.int IntKind.i64 0))]
 [(0, Ob.amb), (1, Ob.box 35 [C.int IntKind.i64 (Prod.fst x), C.int IntKind.i64 (Prod.fst (Prod.snd x)), C.str (Prod.snd (Prod.snd x))]),
 (2,
 Ob.box 40
 [C.int IntKind.i64 (Prod.fst c), C.int IntKind.i64 (Prod.fst (Prod.snd c)),
 C.sl Lt (Prod.snd (Prod.snd c))]),
 (3, Ob.box 75 [C.fn 74 []]), (4, Ob.box 75 [C.fn 74 []])]
 5 =
 St.mk 19
 [(0, V.c (C.sl Lt (Prod.snd (Prod.snd c)))), (1, V.c (C.fn 96 [4])),
 (7, V.c (C.int IntKind.i64 (Lv.cast L (Lv.llen L Lt (Prod.snd (Prod.snd c)))))),
 (8, V.c (C.int IntKind.i64 0))]
 [(0, Ob.amb), (1, Ob.box 35 [C.int IntKind.i64 (Prod.fst x), C.int IntKind.i64 (Prod.fst (Prod.snd x)), C.str (Prod.snd (Prod.snd x))]),
 (2,
 Ob.box 40
 [C.int IntKind.i64 (Prod.fst c), C.int IntKind.i64 (Prod.fst (Prod.snd c)),
 C.sl Lt (Prod.snd (Prod.snd c))]),
 (3, Ob.box 75 [C.fn 74 []]), (4, Ob.box 75 [C.fn 74 []])]
 5)
 (VC.obl (I (Prod.snd (Prod.snd c)) (0, ()))
 (VC.all (Int × Unit) fun (x_2 : Int × Unit) =>
 VC.imp (I (Prod.snd (Prod.snd c)) x_2)
 (VC.br
 (Lv.cmp L BinOp.lss (Prod.fst x_2) (Lv.cast L (Lv.llen L Lt (Prod.snd (Prod.snd c)))))
 (VC.obl (Lv.inR L (Prod.fst x_2) (Lv.llen L Lt (Prod.snd (Prod.snd c))))
 (VC.obl True
 (VC.br
 (LexF.isPlaced F
 (Prod.fst (Lv.get L Lt (Prod.snd (Prod.snd c)) (Lv.toN L (Prod.fst x_2))),
 Prod.fst
 (Prod.snd (Lv.get L Lt (Prod.snd (Prod.snd c)) (Lv.toN L (Prod.fst x_2)))),
 Prod.snd
 (Prod.snd (Lv.get L Lt (Prod.snd (Prod.snd c)) (Lv.toN L (Prod.fst x_2))))))
 (VC.ok
 (St.mk 19
 [(0, V.c (C.sl Lt (Prod.snd (Prod.snd c)))), (1, V.c (C.fn 96 [4])),
 (7,
 V.c
 (C.int IntKind.i64
 (Lv.cast L (Lv.llen L Lt (Prod.snd (Prod.snd c)))))),
 (8, V.c (C.int IntKind.i64 (Lv.ar L BinOp.add IntKind.i64 (Prod.fst x_2) 1)))]
 [(0, Ob.amb), (1, Ob.box 35 [C.int IntKind.i64 (Prod.fst x), C.int IntKind.i64 (Prod.fst (Prod.snd x)), C.str (Prod.snd (Prod.snd x))]),
 (2,
 Ob.box 40
 [C.int IntKind.i64 (Prod.fst c), C.int IntKind.i64 (Prod.fst (Prod.snd c)),
 C.sl Lt (Prod.snd (Prod.snd c))]),
 (3, Ob.box 75 [C.fn 74 []]), (4, Ob.box 75 [C.fn 74 []])]
 5 =
 St.mk 19
 [(0, V.c (C.sl Lt (Prod.snd (Prod.snd c)))), (1, V.c (C.fn 96 [4])),
 (7,
 V.c
 (C.int IntKind.i64
 (Lv.cast L (Lv.llen L Lt (Prod.snd (Prod.snd c)))))),
 (8, V.c (C.int IntKind.i64 (Lv.ar L BinOp.add IntKind.i64 (Prod.fst x_2) 1)))]
 [(0, Ob.amb), (1, Ob.box 35 [C.int IntKind.i64 (Prod.fst x), C.int IntKind.i64 (Prod.fst (Prod.snd x)), C.str (Prod.snd (Prod.snd x))]),
 (2,
 Ob.box 40
 [C.int IntKind.i64 (Prod.fst c), C.int IntKind.i64 (Prod.fst (Prod.snd c)),
 C.sl Lt (Prod.snd (Prod.snd c))]),
 (3, Ob.box 75 [C.fn 74 []]), (4, Ob.box 75 [C.fn 74 []])]
 5 ∧
 I (Prod.snd (Prod.snd c)) (Lv.ar L BinOp.add IntKind.i64 (Prod.fst x_2) 1, ()) ∧
 mu (Prod.snd (Prod.snd c)) (Lv.ar L BinOp.add IntKind.i64 (Prod.fst x_2) 1, ()) < mu (Prod.snd (Prod.snd c)) x_2))
 (VC.br (Lv.cmp L BinOp.geq (Prod.fst x_2) 0)
 (VC.ok (([], 3, ()) = (Prod.fst (LexF.patch F l x c), Prod.snd (LexF.patch F l x c), ())))
 (VC.br
 (Lv.cmp L BinOp.gtr
 (Lv.ar L BinOp.add IntKind.i64
 (Lv.ar L BinOp.add IntKind.i64 (Prod.fst c)
 (Lv.cast L (Lv.llen L Lt (Prod.snd (Prod.snd c)))))
 (Prod.fst (Prod.snd c)))
 900)
 (VC.ok (([], 5, ()) = (Prod.fst (LexF.patch F l x c), Prod.snd (LexF.patch F l x c), ())))
 (VC.obl (Lv.le3 L (Lv.cast L 0) (Prod.fst c) (Lv.llen L Lt l))
 (VC.obl
 (Lv.room L
 (Lv.add L (Lv.llen L Lt [])
 (Lv.llen L Lt
 (Lv.drop L Lt
 (Lv.take L Lt l (Lv.toN L (Prod.fst c)))
 (Lv.toN L (Lv.cast L 0)))))
 32)
 (VC.obl
 (Lv.room L
 (Lv.add L
 (Lv.llen L Lt
 (Lv.take L Lt
 (Lv.app L Lt []
 (Lv.drop L Lt
 (Lv.take L Lt l (Lv.toN L (Prod.fst c)))
 (Lv.toN L (Lv.cast L 0))))
 (Lv.add L (Lv.llen L Lt [])
 (Lv.llen L Lt
 (Lv.drop L Lt
 (Lv.take L Lt l (Lv.toN L (Prod.fst c)))
 (Lv.toN L (Lv.cast L 0)))))))
 (Lv.llen L Lt (Prod.snd (Prod.snd c))))
 32)
 (VC.obl
 (Lv.le3 L
 (Lv.ar L BinOp.sub IntKind.i64 (Lv.cast L (Lv.llen L Lt l))
 (Prod.fst (Prod.snd c)))
 (Lv.cast L (Lv.llen L Lt l))
 (Lv.llen L Lt l))
 (VC.obl
 (St.mk 131
 [(4, V.c (C.ptr 1 0)),
 (8,
 V.c
 (C.own 8
 (Lv.add L
 (Lv.llen L Lt
 (Lv.take L Lt
 (Lv.app L Lt []
 (Lv.drop L Lt
 (Lv.take L Lt l (Lv.toN L (Prod.fst c)))
 (Lv.toN L (Lv.cast L 0))))
 (Lv.add L (Lv.llen L Lt [])
 (Lv.llen L Lt
 (Lv.drop L Lt
 (Lv.take L Lt l (Lv.toN L (Prod.fst c)))
 (Lv.toN L (Lv.cast L 0)))))))
 (Lv.llen L Lt (Prod.snd (Prod.snd c)))))),
 (106,
 V.c
 (C.sl Lt
 (Lv.drop L Lt
 (Lv.take L Lt l
 (Lv.toN L (Lv.cast L (Lv.llen L Lt l))))
 (Lv.toN L
 (Lv.ar L BinOp.sub IntKind.i64
 (Lv.cast L (Lv.llen L Lt l))
 (Prod.fst (Prod.snd c))))))),
 (107,
 V.c
 (C.int IntKind.i64
 (Lv.cast L
 (Lv.llen L Lt
 (Lv.drop L Lt
 (Lv.take L Lt l
 (Lv.toN L (Lv.cast L (Lv.llen L Lt l))))
 (Lv.toN L
 (Lv.ar L BinOp.sub IntKind.i64
 (Lv.cast L (Lv.llen L Lt l))
 (Prod.fst (Prod.snd c))))))))),
 (108, V.c (C.int IntKind.i64 0))]
 [(0, Ob.amb),
 (1, Ob.box 35 [C.int IntKind.i64 (Prod.fst x), C.int IntKind.i64 (Prod.fst (Prod.snd x)), C.str (Prod.snd (Prod.snd x))]),
 (2,
 Ob.box 40
 [C.int IntKind.i64 (Prod.fst c), C.int IntKind.i64 (Prod.fst (Prod.snd c)),
 C.sl Lt (Prod.snd (Prod.snd c))]),
 (3, Ob.box 75 [C.fn 74 []]), (4, Ob.box 75 [C.fn 74 []]),
 (5,
 Ob.box 48
 [C.int IntKind.u8
 (Prod.fst
 (Lv.get L Lt (Prod.snd (Prod.snd c))
 (Lv.toN L (Prod.fst x_2)))),
 C.str
 (Prod.fst
 (Prod.snd
 (Lv.get L Lt (Prod.snd (Prod.snd c))
 (Lv.toN L (Prod.fst x_2))))),
 C.int IntKind.i64
 (Prod.snd
 (Prod.snd
 (Lv.get L Lt (Prod.snd (Prod.snd c))
 (Lv.toN L (Prod.fst x_2)))))]),
 (8,
 Ob.row 48 Lt
 (Lv.app L Lt
 (Lv.take L Lt
 (Lv.app L Lt []
 (Lv.drop L Lt
 (Lv.take L Lt l (Lv.toN L (Prod.fst c)))
 (Lv.toN L (Lv.cast L 0))))
 (Lv.add L (Lv.llen L Lt [])
 (Lv.llen L Lt
 (Lv.drop L Lt
 (Lv.take L Lt l (Lv.toN L (Prod.fst c)))
 (Lv.toN L (Lv.cast L 0))))))
 (Prod.snd (Prod.snd c))))]
 9 =
 St.mk 131
 [(4, V.c (C.ptr 1 0)),
 (8,
 V.c
 (C.own 8
 (Lv.llen L Lt
 (Lv.app L Lt
 (Lv.take L Lt
 (Lv.app L Lt []
 (Lv.drop L Lt
 (Lv.take L Lt l (Lv.toN L (Prod.fst c)))
 (Lv.toN L (Lv.cast L 0))))
 (Lv.add L (Lv.llen L Lt [])
 (Lv.llen L Lt
 (Lv.drop L Lt
 (Lv.take L Lt l (Lv.toN L (Prod.fst c)))
 (Lv.toN L (Lv.cast L 0))))))
 (Prod.snd (Prod.snd c)))))),
 (106,
 V.c
 (C.sl Lt
 (Lv.drop L Lt
 (Lv.take L Lt l
 (Lv.toN L (Lv.cast L (Lv.llen L Lt l))))
 (Lv.toN L
 (Lv.ar L BinOp.sub IntKind.i64
 (Lv.cast L (Lv.llen L Lt l))
 (Prod.fst (Prod.snd c))))))),
 (107,
 V.c
 (C.int IntKind.i64
 (Lv.cast L
 (Lv.llen L Lt
 (Lv.drop L Lt
 (Lv.take L Lt l
 (Lv.toN L (Lv.cast L (Lv.llen L Lt l))))
 (Lv.toN L
 (Lv.ar L BinOp.sub IntKind.i64
 (Lv.cast L (Lv.llen L Lt l))
 (Prod.fst (Prod.snd c))))))))),
 (108, V.c (C.int IntKind.i64 0))]
 [(0, Ob.amb),
 (1, Ob.box 35 [C.int IntKind.i64 (Prod.fst x), C.int IntKind.i64 (Prod.fst (Prod.snd x)), C.str (Prod.snd (Prod.snd x))]),
 (2,
 Ob.box 40
 [C.int IntKind.i64 (Prod.fst c), C.int IntKind.i64 (Prod.fst (Prod.snd c)),
 C.sl Lt (Prod.snd (Prod.snd c))]),
 (3, Ob.box 75 [C.fn 74 []]), (4, Ob.box 75 [C.fn 74 []]),
 (5,
 Ob.box 48
 [C.int IntKind.u8
 (Prod.fst
 (Lv.get L Lt (Prod.snd (Prod.snd c))
 (Lv.toN L (Prod.fst x_2)))),
 C.str
 (Prod.fst
 (Prod.snd
 (Lv.get L Lt (Prod.snd (Prod.snd c))
 (Lv.toN L (Prod.fst x_2))))),
 C.int IntKind.i64
 (Prod.snd
 (Prod.snd
 (Lv.get L Lt (Prod.snd (Prod.snd c))
 (Lv.toN L (Prod.fst x_2)))))]),
 (8,
 Ob.row 48 Lt
 (Lv.app L Lt
 (Lv.take L Lt
 (Lv.app L Lt []
 (Lv.drop L Lt
 (Lv.take L Lt l (Lv.toN L (Prod.fst c)))
 (Lv.toN L (Lv.cast L 0))))
 (Lv.add L (Lv.llen L Lt [])
 (Lv.llen L Lt
 (Lv.drop L Lt
 (Lv.take L Lt l (Lv.toN L (Prod.fst c)))
 (Lv.toN L (Lv.cast L 0))))))
 (Prod.snd (Prod.snd c))))]
 9)
 (VC.obl
 (J
 (Lv.app L Lt
 (Lv.take L Lt
 (Lv.app L Lt []
 (Lv.drop L Lt
 (Lv.take L Lt l (Lv.toN L (Prod.fst c)))
 (Lv.toN L (Lv.cast L 0))))
 (Lv.add L (Lv.llen L Lt [])
 (Lv.llen L Lt
 (Lv.drop L Lt
 (Lv.take L Lt l (Lv.toN L (Prod.fst c)))
 (Lv.toN L (Lv.cast L 0))))))
 (Prod.snd (Prod.snd c)),
 0, ()))
 (VC.all (List (Int × ByteArray × Int) × Int × Unit) fun (x_3 : List (Int × ByteArray × Int) × Int × Unit) =>
 VC.imp (J x_3)
 (VC.br
 (Lv.cmp L BinOp.lss (Prod.fst (Prod.snd x_3))
 (Lv.cast L
 (Lv.llen L Lt
 (Lv.drop L Lt
 (Lv.take L Lt l
 (Lv.toN L (Lv.cast L (Lv.llen L Lt l))))
 (Lv.toN L
 (Lv.ar L BinOp.sub IntKind.i64
 (Lv.cast L (Lv.llen L Lt l))
 (Prod.fst (Prod.snd c))))))))
 (VC.obl
 (Lv.inR L (Prod.fst (Prod.snd x_3))
 (Lv.llen L Lt
 (Lv.drop L Lt
 (Lv.take L Lt l
 (Lv.toN L (Lv.cast L (Lv.llen L Lt l))))
 (Lv.toN L
 (Lv.ar L BinOp.sub IntKind.i64
 (Lv.cast L (Lv.llen L Lt l))
 (Prod.fst (Prod.snd c)))))))
 (VC.obl
 (Lv.room L
 (Lv.add L
 (Lv.llen L Lt
 (Lv.take L Lt (Prod.fst x_3)
 (Lv.llen L Lt (Prod.fst x_3))))
 (Lv.llen L Lt
 (Lv.take L Lt
 [(Prod.fst
 (Lv.get L Lt
 (Lv.drop L Lt
 (Lv.take L Lt l
 (Lv.toN L
 (Lv.cast L (Lv.llen L Lt l))))
 (Lv.toN L
 (Lv.ar L BinOp.sub IntKind.i64
 (Lv.cast L (Lv.llen L Lt l))
 (Prod.fst (Prod.snd c)))))
 (Lv.toN L (Prod.fst (Prod.snd x_3)))),
 Prod.fst
 (Prod.snd
 (Lv.get L Lt
 (Lv.drop L Lt
 (Lv.take L Lt l
 (Lv.toN L
 (Lv.cast L (Lv.llen L Lt l))))
 (Lv.toN L
 (Lv.ar L BinOp.sub IntKind.i64
 (Lv.cast L (Lv.llen L Lt l))
 (Prod.fst (Prod.snd c)))))
 (Lv.toN L (Prod.fst (Prod.snd x_3))))),
 Lv.ar L BinOp.add IntKind.i64
 (Prod.snd
 (Prod.snd
 (Lv.get L Lt
 (Lv.drop L Lt
 (Lv.take L Lt l
 (Lv.toN L
 (Lv.cast L (Lv.llen L Lt l))))
 (Lv.toN L
 (Lv.ar L BinOp.sub IntKind.i64
 (Lv.cast L (Lv.llen L Lt l))
 (Prod.fst (Prod.snd c)))))
 (Lv.toN L (Prod.fst (Prod.snd x_3))))))
 (Lv.ar L BinOp.sub IntKind.i64 (Lv.cast L (Lv.slen L (Prod.snd (Prod.snd x))))
 (Lv.ar L BinOp.sub IntKind.i64 (Prod.fst (Prod.snd x)) (Prod.fst x))))]
 1)))
 32)
 (VC.ok
 (St.mk 131
 [(4, V.c (C.ptr 1 0)),
 (8,
 V.c
 (C.own 8
 (Lv.add L
 (Lv.llen L Lt
 (Lv.take L Lt (Prod.fst x_3)
 (Lv.llen L Lt (Prod.fst x_3))))
 (Lv.llen L Lt
 (Lv.take L Lt
 [(Prod.fst
 (Lv.get L Lt
 (Lv.drop L Lt
 (Lv.take L Lt l
 (Lv.toN L
 (Lv.cast L
 (Lv.llen L Lt l))))
 (Lv.toN L
 (Lv.ar L BinOp.sub IntKind.i64
 (Lv.cast L
 (Lv.llen L Lt l))
 (Prod.fst (Prod.snd c)))))
 (Lv.toN L (Prod.fst (Prod.snd x_3)))),
 Prod.fst
 (Prod.snd
 (Lv.get L Lt
 (Lv.drop L Lt
 (Lv.take L Lt l
 (Lv.toN L
 (Lv.cast L
 (Lv.llen L Lt
 l))))
 (Lv.toN L
 (Lv.ar L BinOp.sub IntKind.i64
 (Lv.cast L
 (Lv.llen L Lt l))
 (Prod.fst (Prod.snd c)))))
 (Lv.toN L (Prod.fst (Prod.snd x_3))))),
 Lv.ar L BinOp.add IntKind.i64
 (Prod.snd
 (Prod.snd
 (Lv.get L Lt
 (Lv.drop L Lt
 (Lv.take L Lt l
 (Lv.toN L
 (Lv.cast L
 (Lv.llen L Lt
 l))))
 (Lv.toN L
 (Lv.ar L BinOp.sub IntKind.i64
 (Lv.cast L
 (Lv.llen L Lt
 l))
 (Prod.fst (Prod.snd c)))))
 (Lv.toN L (Prod.fst (Prod.snd x_3))))))
 (Lv.ar L BinOp.sub IntKind.i64 (Lv.cast L (Lv.slen L (Prod.snd (Prod.snd x))))
 (Lv.ar L BinOp.sub IntKind.i64 (Prod.fst (Prod.snd x)) (Prod.fst x))))]
 1))))),
 (106,
 V.c
 (C.sl Lt
 (Lv.drop L Lt
 (Lv.take L Lt l
 (Lv.toN L
 (Lv.cast L (Lv.llen L Lt l))))
 (Lv.toN L
 (Lv.ar L BinOp.sub IntKind.i64
 (Lv.cast L (Lv.llen L Lt l))
 (Prod.fst (Prod.snd c))))))),
 (107,
 V.c
 (C.int IntKind.i64
 (Lv.cast L
 (Lv.llen L Lt
 (Lv.drop L Lt
 (Lv.take L Lt l
 (Lv.toN L
 (Lv.cast L (Lv.llen L Lt l))))
 (Lv.toN L
 (Lv.ar L BinOp.sub IntKind.i64
 (Lv.cast L (Lv.llen L Lt l))
 (Prod.fst (Prod.snd c))))))))),
 (108, V.c (C.int IntKind.i64 (Lv.ar L BinOp.add IntKind.i64 (Prod.fst (Prod.snd x_3)) 1)))]
 [(0, Ob.amb),
 (1,
 Ob.box 35
 [C.int IntKind.i64 (Prod.fst x), C.int IntKind.i64 (Prod.fst (Prod.snd x)), C.str (Prod.snd (Prod.snd x))]),
 (2,
 Ob.box 40
 [C.int IntKind.i64 (Prod.fst c), C.int IntKind.i64 (Prod.fst (Prod.snd c)),
 C.sl Lt (Prod.snd (Prod.snd c))]),
 (3, Ob.box 75 [C.fn 74 []]), (4, Ob.box 75 [C.fn 74 []]),
 (5,
 Ob.box 48
 [C.int IntKind.u8
 (Prod.fst
 (Lv.get L Lt (Prod.snd (Prod.snd c))
 (Lv.toN L (Prod.fst x_2)))),
 C.str
 (Prod.fst
 (Prod.snd
 (Lv.get L Lt
 (Prod.snd (Prod.snd c)) (Lv.toN L (Prod.fst x_2))))),
 C.int IntKind.i64
 (Prod.snd
 (Prod.snd
 (Lv.get L Lt
 (Prod.snd (Prod.snd c)) (Lv.toN L (Prod.fst x_2)))))]),
 (8,
 Ob.row 48 Lt
 (Lv.app L Lt
 (Lv.take L Lt (Prod.fst x_3)
 (Lv.llen L Lt (Prod.fst x_3)))
 (Lv.take L Lt
 [(Prod.fst
 (Lv.get L Lt
 (Lv.drop L Lt
 (Lv.take L Lt l
 (Lv.toN L
 (Lv.cast L
 (Lv.llen L Lt l))))
 (Lv.toN L
 (Lv.ar L BinOp.sub IntKind.i64
 (Lv.cast L
 (Lv.llen L Lt l))
 (Prod.fst (Prod.snd c)))))
 (Lv.toN L (Prod.fst (Prod.snd x_3)))),
 Prod.fst
 (Prod.snd
 (Lv.get L Lt
 (Lv.drop L Lt
 (Lv.take L Lt l
 (Lv.toN L
 (Lv.cast L
 (Lv.llen L Lt l))))
 (Lv.toN L
 (Lv.ar L BinOp.sub IntKind.i64
 (Lv.cast L
 (Lv.llen L Lt l))
 (Prod.fst (Prod.snd c)))))
 (Lv.toN L (Prod.fst (Prod.snd x_3))))),
 Lv.ar L BinOp.add IntKind.i64
 (Prod.snd
 (Prod.snd
 (Lv.get L Lt
 (Lv.drop L Lt
 (Lv.take L Lt l
 (Lv.toN L
 (Lv.cast L
 (Lv.llen L Lt l))))
 (Lv.toN L
 (Lv.ar L BinOp.sub IntKind.i64
 (Lv.cast L
 (Lv.llen L Lt l))
 (Prod.fst (Prod.snd c)))))
 (Lv.toN L (Prod.fst (Prod.snd x_3))))))
 (Lv.ar L BinOp.sub IntKind.i64 (Lv.cast L (Lv.slen L (Prod.snd (Prod.snd x))))
 (Lv.ar L BinOp.sub IntKind.i64 (Prod.fst (Prod.snd x)) (Prod.fst x))))]
 1)))]
 9 =
 St.mk 131
 [(4, V.c (C.ptr 1 0)),
 (8,
 V.c
 (C.own 8
 (Lv.llen L Lt
 (Lv.app L Lt
 (Lv.take L Lt (Prod.fst x_3)
 (Lv.llen L Lt (Prod.fst x_3)))
 (Lv.take L Lt
 [(Prod.fst
 (Lv.get L Lt
 (Lv.drop L Lt
 (Lv.take L Lt l
 (Lv.toN L
 (Lv.cast L
 (Lv.llen L Lt l))))
 (Lv.toN L
 (Lv.ar L BinOp.sub IntKind.i64
 (Lv.cast L
 (Lv.llen L Lt l))
 (Prod.fst (Prod.snd c)))))
 (Lv.toN L (Prod.fst (Prod.snd x_3)))),
 Prod.fst
 (Prod.snd
 (Lv.get L Lt
 (Lv.drop L Lt
 (Lv.take L Lt l
 (Lv.toN L
 (Lv.cast L
 (Lv.llen L Lt
 l))))
 (Lv.toN L
 (Lv.ar L BinOp.sub IntKind.i64
 (Lv.cast L
 (Lv.llen L Lt l))
 (Prod.fst (Prod.snd c)))))
 (Lv.toN L (Prod.fst (Prod.snd x_3))))),
 Lv.ar L BinOp.add IntKind.i64
 (Prod.snd
 (Prod.snd
 (Lv.get L Lt
 (Lv.drop L Lt
 (Lv.take L Lt l
 (Lv.toN L
 (Lv.cast L
 (Lv.llen L Lt
 l))))
 (Lv.toN L
 (Lv.ar L BinOp.sub IntKind.i64
 (Lv.cast L
 (Lv.llen L Lt
 l))
 (Prod.fst (Prod.snd c)))))
 (Lv.toN L (Prod.fst (Prod.snd x_3))))))
 (Lv.ar L BinOp.sub IntKind.i64 (Lv.cast L (Lv.slen L (Prod.snd (Prod.snd x))))
 (Lv.ar L BinOp.sub IntKind.i64 (Prod.fst (Prod.snd x)) (Prod.fst x))))]
 1))))),
 (106,
 V.c
 (C.sl Lt
 (Lv.drop L Lt
 (Lv.take L Lt l
 (Lv.toN L
 (Lv.cast L (Lv.llen L Lt l))))
 (Lv.toN L
 (Lv.ar L BinOp.sub IntKind.i64
 (Lv.cast L (Lv.llen L Lt l))
 (Prod.fst (Prod.snd c))))))),
 (107,
 V.c
 (C.int IntKind.i64
 (Lv.cast L
 (Lv.llen L Lt
 (Lv.drop L Lt
 (Lv.take L Lt l
 (Lv.toN L
 (Lv.cast L (Lv.llen L Lt l))))
 (Lv.toN L
 (Lv.ar L BinOp.sub IntKind.i64
 (Lv.cast L (Lv.llen L Lt l))
 (Prod.fst (Prod.snd c))))))))),
 (108, V.c (C.int IntKind.i64 (Lv.ar L BinOp.add IntKind.i64 (Prod.fst (Prod.snd x_3)) 1)))]
 [(0, Ob.amb),
 (1,
 Ob.box 35
 [C.int IntKind.i64 (Prod.fst x), C.int IntKind.i64 (Prod.fst (Prod.snd x)), C.str (Prod.snd (Prod.snd x))]),
 (2,
 Ob.box 40
 [C.int IntKind.i64 (Prod.fst c), C.int IntKind.i64 (Prod.fst (Prod.snd c)),
 C.sl Lt (Prod.snd (Prod.snd c))]),
 (3, Ob.box 75 [C.fn 74 []]), (4, Ob.box 75 [C.fn 74 []]),
 (5,
 Ob.box 48
 [C.int IntKind.u8
 (Prod.fst
 (Lv.get L Lt (Prod.snd (Prod.snd c))
 (Lv.toN L (Prod.fst x_2)))),
 C.str
 (Prod.fst
 (Prod.snd
 (Lv.get L Lt
 (Prod.snd (Prod.snd c)) (Lv.toN L (Prod.fst x_2))))),
 C.int IntKind.i64
 (Prod.snd
 (Prod.snd
 (Lv.get L Lt
 (Prod.snd (Prod.snd c)) (Lv.toN L (Prod.fst x_2)))))]),
 (8,
 Ob.row 48 Lt
 (Lv.app L Lt
 (Lv.take L Lt (Prod.fst x_3)
 (Lv.llen L Lt (Prod.fst x_3)))
 (Lv.take L Lt
 [(Prod.fst
 (Lv.get L Lt
 (Lv.drop L Lt
 (Lv.take L Lt l
 (Lv.toN L
 (Lv.cast L
 (Lv.llen L Lt l))))
 (Lv.toN L
 (Lv.ar L BinOp.sub IntKind.i64
 (Lv.cast L
 (Lv.llen L Lt l))
 (Prod.fst (Prod.snd c)))))
 (Lv.toN L (Prod.fst (Prod.snd x_3)))),
 Prod.fst
 (Prod.snd
 (Lv.get L Lt
 (Lv.drop L Lt
 (Lv.take L Lt l
 (Lv.toN L
 (Lv.cast L
 (Lv.llen L Lt l))))
 (Lv.toN L
 (Lv.ar L BinOp.sub IntKind.i64
 (Lv.cast L
 (Lv.llen L Lt l))
 (Prod.fst (Prod.snd c)))))
 (Lv.toN L (Prod.fst (Prod.snd x_3))))),
 Lv.ar L BinOp.add IntKind.i64
 (Prod.snd
 (Prod.snd
 (Lv.get L Lt
 (Lv.drop L Lt
 (Lv.take L Lt l
 (Lv.toN L
 (Lv.cast L
 (Lv.llen L Lt l))))
 (Lv.toN L
 (Lv.ar L BinOp.sub IntKind.i64
 (Lv.cast L
 (Lv.llen L Lt l))
 (Prod.fst (Prod.snd c)))))
 (Lv.toN L (Prod.fst (Prod.snd x_3))))))
 (Lv.ar L BinOp.sub IntKind.i64 (Lv.cast L (Lv.slen L (Prod.snd (Prod.snd x))))
 (Lv.ar L BinOp.sub IntKind.i64 (Prod.fst (Prod.snd x)) (Prod.fst x))))]
 1)))]
 9 ∧
 J
 (Lv.app L Lt
 (Lv.take L Lt (Prod.fst x_3)
 (Lv.llen L Lt (Prod.fst x_3)))
 (Lv.take L Lt
 [(Prod.fst
 (Lv.get L Lt
 (Lv.drop L Lt
 (Lv.take L Lt l
 (Lv.toN L
 (Lv.cast L
 (Lv.llen L Lt l))))
 (Lv.toN L
 (Lv.ar L BinOp.sub IntKind.i64
 (Lv.cast L (Lv.llen L Lt l))
 (Prod.fst (Prod.snd c)))))
 (Lv.toN L (Prod.fst (Prod.snd x_3)))),
 Prod.fst
 (Prod.snd
 (Lv.get L Lt
 (Lv.drop L Lt
 (Lv.take L Lt l
 (Lv.toN L
 (Lv.cast L
 (Lv.llen L Lt l))))
 (Lv.toN L
 (Lv.ar L BinOp.sub IntKind.i64
 (Lv.cast L
 (Lv.llen L Lt l))
 (Prod.fst (Prod.snd c)))))
 (Lv.toN L (Prod.fst (Prod.snd x_3))))),
 Lv.ar L BinOp.add IntKind.i64
 (Prod.snd
 (Prod.snd
 (Lv.get L Lt
 (Lv.drop L Lt
 (Lv.take L Lt l
 (Lv.toN L
 (Lv.cast L
 (Lv.llen L Lt l))))
 (Lv.toN L
 (Lv.ar L BinOp.sub IntKind.i64
 (Lv.cast L
 (Lv.llen L Lt l))
 (Prod.fst (Prod.snd c)))))
 (Lv.toN L (Prod.fst (Prod.snd x_3))))))
 (Lv.ar L BinOp.sub IntKind.i64 (Lv.cast L (Lv.slen L (Prod.snd (Prod.snd x))))
 (Lv.ar L BinOp.sub IntKind.i64 (Prod.fst (Prod.snd x)) (Prod.fst x))))]
 1),
 Lv.ar L BinOp.add IntKind.i64 (Prod.fst (Prod.snd x_3)) 1, ()) ∧
 nu
 (Lv.app L Lt
 (Lv.take L Lt (Prod.fst x_3)
 (Lv.llen L Lt (Prod.fst x_3)))
 (Lv.take L Lt
 [(Prod.fst
 (Lv.get L Lt
 (Lv.drop L Lt
 (Lv.take L Lt l
 (Lv.toN L
 (Lv.cast L
 (Lv.llen L Lt l))))
 (Lv.toN L
 (Lv.ar L BinOp.sub IntKind.i64
 (Lv.cast L
 (Lv.llen L Lt l))
 (Prod.fst (Prod.snd c)))))
 (Lv.toN L (Prod.fst (Prod.snd x_3)))),
 Prod.fst
 (Prod.snd
 (Lv.get L Lt
 (Lv.drop L Lt
 (Lv.take L Lt l
 (Lv.toN L
 (Lv.cast L
 (Lv.llen L Lt l))))
 (Lv.toN L
 (Lv.ar L BinOp.sub IntKind.i64
 (Lv.cast L
 (Lv.llen L Lt l))
 (Prod.fst (Prod.snd c)))))
 (Lv.toN L (Prod.fst (Prod.snd x_3))))),
 Lv.ar L BinOp.add IntKind.i64
 (Prod.snd
 (Prod.snd
 (Lv.get L Lt
 (Lv.drop L Lt
 (Lv.take L Lt l
 (Lv.toN L
 (Lv.cast L
 (Lv.llen L Lt l))))
 (Lv.toN L
 (Lv.ar L BinOp.sub IntKind.i64
 (Lv.cast L
 (Lv.llen L Lt l))
 (Prod.fst (Prod.snd c)))))
 (Lv.toN L (Prod.fst (Prod.snd x_3))))))
 (Lv.ar L BinOp.sub IntKind.i64 (Lv.cast L (Lv.slen L (Prod.snd (Prod.snd x))))
 (Lv.ar L BinOp.sub IntKind.i64 (Prod.fst (Prod.snd x)) (Prod.fst x))))]
 1),
 Lv.ar L BinOp.add IntKind.i64 (Prod.fst (Prod.snd x_3)) 1, ()) <
 nu x_3))))
 (VC.ok
 ((Lv.take L Lt (Prod.fst x_3)
 (Lv.llen L Lt (Prod.fst x_3)),
 0, ()) =
 (Prod.fst (LexF.patch F l x c), Prod.snd (LexF.patch F l x c), ()))))))))))))))))
 (VC.br (Lv.cmp L BinOp.geq (Int.negSucc 0) 0) (VC.ok (([], 3, ()) = (Prod.fst (LexF.patch F l x c), Prod.snd (LexF.patch F l x c), ())))
 (VC.br
 (Lv.cmp L BinOp.gtr
 (Lv.ar L BinOp.add IntKind.i64
 (Lv.ar L BinOp.add IntKind.i64 (Prod.fst c)
 (Lv.cast L (Lv.llen L Lt (Prod.snd (Prod.snd c)))))
 (Prod.fst (Prod.snd c)))
 900)
 (VC.ok (([], 5, ()) = (Prod.fst (LexF.patch F l x c), Prod.snd (LexF.patch F l x c), ())))
 (VC.obl (Lv.le3 L (Lv.cast L 0) (Prod.fst c) (Lv.llen L Lt l))
 (VC.obl
 (Lv.room L
 (Lv.add L (Lv.llen L Lt [])
 (Lv.llen L Lt
 (Lv.drop L Lt
 (Lv.take L Lt l (Lv.toN L (Prod.fst c))) (Lv.toN L (Lv.cast L 0)))))
 32)
 (VC.obl
 (Lv.room L
 (Lv.add L
 (Lv.llen L Lt
 (Lv.take L Lt
 (Lv.app L Lt []
 (Lv.drop L Lt
 (Lv.take L Lt l (Lv.toN L (Prod.fst c))) (Lv.toN L (Lv.cast L 0))))
 (Lv.add L (Lv.llen L Lt [])
 (Lv.llen L Lt
 (Lv.drop L Lt
 (Lv.take L Lt l (Lv.toN L (Prod.fst c)))
 (Lv.toN L (Lv.cast L 0)))))))
 (Lv.llen L Lt (Prod.snd (Prod.snd c))))
 32)
 (VC.obl
 (Lv.le3 L
 (Lv.ar L BinOp.sub IntKind.i64 (Lv.cast L (Lv.llen L Lt l))
 (Prod.fst (Prod.snd c)))
 (Lv.cast L (Lv.llen L Lt l))
 (Lv.llen L Lt l))
 (VC.obl
 (St.mk 131
 [(4, V.c (C.ptr 1 0)),
 (8,
 V.c
 (C.own 7
 (Lv.add L
 (Lv.llen L Lt
 (Lv.take L Lt
 (Lv.app L Lt []
 (Lv.drop L Lt
 (Lv.take L Lt l (Lv.toN L (Prod.fst c)))
 (Lv.toN L (Lv.cast L 0))))
 (Lv.add L (Lv.llen L Lt [])
 (Lv.llen L Lt
 (Lv.drop L Lt
 (Lv.take L Lt l (Lv.toN L (Prod.fst c)))
 (Lv.toN L (Lv.cast L 0)))))))
 (Lv.llen L Lt (Prod.snd (Prod.snd c)))))),
 (106,
 V.c
 (C.sl Lt
 (Lv.drop L Lt
 (Lv.take L Lt l
 (Lv.toN L (Lv.cast L (Lv.llen L Lt l))))
 (Lv.toN L
 (Lv.ar L BinOp.sub IntKind.i64 (Lv.cast L (Lv.llen L Lt l))
 (Prod.fst (Prod.snd c))))))),
 (107,
 V.c
 (C.int IntKind.i64
 (Lv.cast L
 (Lv.llen L Lt
 (Lv.drop L Lt
 (Lv.take L Lt l
 (Lv.toN L (Lv.cast L (Lv.llen L Lt l))))
 (Lv.toN L
 (Lv.ar L BinOp.sub IntKind.i64
 (Lv.cast L (Lv.llen L Lt l))
 (Prod.fst (Prod.snd c))))))))),
 (108, V.c (C.int IntKind.i64 0))]
 [(0, Ob.amb), (1, Ob.box 35 [C.int IntKind.i64 (Prod.fst x), C.int IntKind.i64 (Prod.fst (Prod.snd x)), C.str (Prod.snd (Prod.snd x))]),
 (2,
 Ob.box 40
 [C.int IntKind.i64 (Prod.fst c), C.int IntKind.i64 (Prod.fst (Prod.snd c)),
 C.sl Lt (Prod.snd (Prod.snd c))]),
 (3, Ob.box 75 [C.fn 74 []]), (4, Ob.box 75 [C.fn 74 []]),
 (7,
 Ob.row 48 Lt
 (Lv.app L Lt
 (Lv.take L Lt
 (Lv.app L Lt []
 (Lv.drop L Lt
 (Lv.take L Lt l (Lv.toN L (Prod.fst c)))
 (Lv.toN L (Lv.cast L 0))))
 (Lv.add L (Lv.llen L Lt [])
 (Lv.llen L Lt
 (Lv.drop L Lt
 (Lv.take L Lt l (Lv.toN L (Prod.fst c)))
 (Lv.toN L (Lv.cast L 0))))))
 (Prod.snd (Prod.snd c))))]
 8 =
 St.mk 131
 [(4, V.c (C.ptr 1 0)),
 (8,
 V.c
 (C.own 7
 (Lv.llen L Lt
 (Lv.app L Lt
 (Lv.take L Lt
 (Lv.app L Lt []
 (Lv.drop L Lt
 (Lv.take L Lt l (Lv.toN L (Prod.fst c)))
 (Lv.toN L (Lv.cast L 0))))
 (Lv.add L (Lv.llen L Lt [])
 (Lv.llen L Lt
 (Lv.drop L Lt
 (Lv.take L Lt l (Lv.toN L (Prod.fst c)))
 (Lv.toN L (Lv.cast L 0))))))
 (Prod.snd (Prod.snd c)))))),
 (106,
 V.c
 (C.sl Lt
 (Lv.drop L Lt
 (Lv.take L Lt l
 (Lv.toN L (Lv.cast L (Lv.llen L Lt l))))
 (Lv.toN L
 (Lv.ar L BinOp.sub IntKind.i64 (Lv.cast L (Lv.llen L Lt l))
 (Prod.fst (Prod.snd c))))))),
 (107,
 V.c
 (C.int IntKind.i64
 (Lv.cast L
 (Lv.llen L Lt
 (Lv.drop L Lt
 (Lv.take L Lt l
 (Lv.toN L (Lv.cast L (Lv.llen L Lt l))))
 (Lv.toN L
 (Lv.ar L BinOp.sub IntKind.i64
 (Lv.cast L (Lv.llen L Lt l))
 (Prod.fst (Prod.snd c))))))))),
 (108, V.c (C.int IntKind.i64 0))]
 [(0, Ob.amb), (1, Ob.box 35 [C.int IntKind.i64 (Prod.fst x), C.int IntKind.i64 (Prod.fst (Prod.snd x)), C.str (Prod.snd (Prod.snd x))]),
 (2,
 Ob.box 40
 [C.int IntKind.i64 (Prod.fst c), C.int IntKind.i64 (Prod.fst (Prod.snd c)),
 C.sl Lt (Prod.snd (Prod.snd c))]),
 (3, Ob.box 75 [C.fn 74 []]), (4, Ob.box 75 [C.fn 74 []]),
 (7,
 Ob.row 48 Lt
 (Lv.app L Lt
 (Lv.take L Lt
 (Lv.app L Lt []
 (Lv.drop L Lt
 (Lv.take L Lt l (Lv.toN L (Prod.fst c)))
 (Lv.toN L (Lv.cast L 0))))
 (Lv.add L (Lv.llen L Lt [])
 (Lv.llen L Lt
 (Lv.drop L Lt
 (Lv.take L Lt l (Lv.toN L (Prod.fst c)))
 (Lv.toN L (Lv.cast L 0))))))
 (Prod.snd (Prod.snd c))))]
 8)
 (VC.obl
 (J
 (Lv.app L Lt
 (Lv.take L Lt
 (Lv.app L Lt []
 (Lv.drop L Lt
 (Lv.take L Lt l (Lv.toN L (Prod.fst c)))
 (Lv.toN L (Lv.cast L 0))))
 (Lv.add L (Lv.llen L Lt [])
 (Lv.llen L Lt
 (Lv.drop L Lt
 (Lv.take L Lt l (Lv.toN L (Prod.fst c)))
 (Lv.toN L (Lv.cast L 0))))))
 (Prod.snd (Prod.snd c)),
 0, ()))
 (VC.all (List (Int × ByteArray × Int) × Int × Unit) fun (x_3 : List (Int × ByteArray × Int) × Int × Unit) =>
 VC.imp (J x_3)
 (VC.br
 (Lv.cmp L BinOp.lss (Prod.fst (Prod.snd x_3))
 (Lv.cast L
 (Lv.llen L Lt
 (Lv.drop L Lt
 (Lv.take L Lt l
 (Lv.toN L (Lv.cast L (Lv.llen L Lt l))))
 (Lv.toN L
 (Lv.ar L BinOp.sub IntKind.i64
 (Lv.cast L (Lv.llen L Lt l))
 (Prod.fst (Prod.snd c))))))))
 (VC.obl
 (Lv.inR L (Prod.fst (Prod.snd x_3))
 (Lv.llen L Lt
 (Lv.drop L Lt
 (Lv.take L Lt l
 (Lv.toN L (Lv.cast L (Lv.llen L Lt l))))
 (Lv.toN L
 (Lv.ar L BinOp.sub IntKind.i64
 (Lv.cast L (Lv.llen L Lt l))
 (Prod.fst (Prod.snd c)))))))
 (VC.obl
 (Lv.room L
 (Lv.add L
 (Lv.llen L Lt
 (Lv.take L Lt (Prod.fst x_3)
 (Lv.llen L Lt (Prod.fst x_3))))
 (Lv.llen L Lt
 (Lv.take L Lt
 [(Prod.fst
 (Lv.get L Lt
 (Lv.drop L Lt
 (Lv.take L Lt l
 (Lv.toN L (Lv.cast L (Lv.llen L Lt l))))
 (Lv.toN L
 (Lv.ar L BinOp.sub IntKind.i64
 (Lv.cast L (Lv.llen L Lt l))
 (Prod.fst (Prod.snd c)))))
 (Lv.toN L (Prod.fst (Prod.snd x_3)))),
 Prod.fst
 (Prod.snd
 (Lv.get L Lt
 (Lv.drop L Lt
 (Lv.take L Lt l
 (Lv.toN L (Lv.cast L (Lv.llen L Lt l))))
 (Lv.toN L
 (Lv.ar L BinOp.sub IntKind.i64
 (Lv.cast L (Lv.llen L Lt l))
 (Prod.fst (Prod.snd c)))))
 (Lv.toN L (Prod.fst (Prod.snd x_3))))),
 Lv.ar L BinOp.add IntKind.i64
 (Prod.snd
 (Prod.snd
 (Lv.get L Lt
 (Lv.drop L Lt
 (Lv.take L Lt l
 (Lv.toN L
 (Lv.cast L (Lv.llen L Lt l))))
 (Lv.toN L
 (Lv.ar L BinOp.sub IntKind.i64
 (Lv.cast L (Lv.llen L Lt l))
 (Prod.fst (Prod.snd c)))))
 (Lv.toN L (Prod.fst (Prod.snd x_3))))))
 (Lv.ar L BinOp.sub IntKind.i64 (Lv.cast L (Lv.slen L (Prod.snd (Prod.snd x))))
 (Lv.ar L BinOp.sub IntKind.i64 (Prod.fst (Prod.snd x)) (Prod.fst x))))]
 1)))
 32)
 (VC.ok
 (St.mk 131
 [(4, V.c (C.ptr 1 0)),
 (8,
 V.c
 (C.own 7
 (Lv.add L
 (Lv.llen L Lt
 (Lv.take L Lt (Prod.fst x_3)
 (Lv.llen L Lt (Prod.fst x_3))))
 (Lv.llen L Lt
 (Lv.take L Lt
 [(Prod.fst
 (Lv.get L Lt
 (Lv.drop L Lt
 (Lv.take L Lt l
 (Lv.toN L
 (Lv.cast L
 (Lv.llen L Lt l))))
 (Lv.toN L
 (Lv.ar L BinOp.sub IntKind.i64
 (Lv.cast L
 (Lv.llen L Lt l))
 (Prod.fst (Prod.snd c)))))
 (Lv.toN L (Prod.fst (Prod.snd x_3)))),
 Prod.fst
 (Prod.snd
 (Lv.get L Lt
 (Lv.drop L Lt
 (Lv.take L Lt l
 (Lv.toN L
 (Lv.cast L
 (Lv.llen L Lt l))))
 (Lv.toN L
 (Lv.ar L BinOp.sub IntKind.i64
 (Lv.cast L
 (Lv.llen L Lt l))
 (Prod.fst (Prod.snd c)))))
 (Lv.toN L (Prod.fst (Prod.snd x_3))))),
 Lv.ar L BinOp.add IntKind.i64
 (Prod.snd
 (Prod.snd
 (Lv.get L Lt
 (Lv.drop L Lt
 (Lv.take L Lt l
 (Lv.toN L
 (Lv.cast L
 (Lv.llen L Lt l))))
 (Lv.toN L
 (Lv.ar L BinOp.sub IntKind.i64
 (Lv.cast L
 (Lv.llen L Lt l))
 (Prod.fst (Prod.snd c)))))
 (Lv.toN L (Prod.fst (Prod.snd x_3))))))
 (Lv.ar L BinOp.sub IntKind.i64 (Lv.cast L (Lv.slen L (Prod.snd (Prod.snd x))))
 (Lv.ar L BinOp.sub IntKind.i64 (Prod.fst (Prod.snd x)) (Prod.fst x))))]
 1))))),
 (106,
 V.c
 (C.sl Lt
 (Lv.drop L Lt
 (Lv.take L Lt l
 (Lv.toN L (Lv.cast L (Lv.llen L Lt l))))
 (Lv.toN L
 (Lv.ar L BinOp.sub IntKind.i64
 (Lv.cast L (Lv.llen L Lt l))
 (Prod.fst (Prod.snd c))))))),
 (107,
 V.c
 (C.int IntKind.i64
 (Lv.cast L
 (Lv.llen L Lt
 (Lv.drop L Lt
 (Lv.take L Lt l
 (Lv.toN L
 (Lv.cast L (Lv.llen L Lt l))))
 (Lv.toN L
 (Lv.ar L BinOp.sub IntKind.i64
 (Lv.cast L (Lv.llen L Lt l))
 (Prod.fst (Prod.snd c))))))))),
 (108, V.c (C.int IntKind.i64 (Lv.ar L BinOp.add IntKind.i64 (Prod.fst (Prod.snd x_3)) 1)))]
 [(0, Ob.amb),
 (1,
 Ob.box 35
 [C.int IntKind.i64 (Prod.fst x), C.int IntKind.i64 (Prod.fst (Prod.snd x)), C.str (Prod.snd (Prod.snd x))]),
 (2,
 Ob.box 40
 [C.int IntKind.i64 (Prod.fst c), C.int IntKind.i64 (Prod.fst (Prod.snd c)),
 C.sl Lt (Prod.snd (Prod.snd c))]),
 (3, Ob.box 75 [C.fn 74 []]), (4, Ob.box 75 [C.fn 74 []]),
 (7,
 Ob.row 48 Lt
 (Lv.app L Lt
 (Lv.take L Lt (Prod.fst x_3)
 (Lv.llen L Lt (Prod.fst x_3)))
 (Lv.take L Lt
 [(Prod.fst
 (Lv.get L Lt
 (Lv.drop L Lt
 (Lv.take L Lt l
 (Lv.toN L
 (Lv.cast L (Lv.llen L Lt l))))
 (Lv.toN L
 (Lv.ar L BinOp.sub IntKind.i64
 (Lv.cast L (Lv.llen L Lt l))
 (Prod.fst (Prod.snd c)))))
 (Lv.toN L (Prod.fst (Prod.snd x_3)))),
 Prod.fst
 (Prod.snd
 (Lv.get L Lt
 (Lv.drop L Lt
 (Lv.take L Lt l
 (Lv.toN L
 (Lv.cast L
 (Lv.llen L Lt l))))
 (Lv.toN L
 (Lv.ar L BinOp.sub IntKind.i64
 (Lv.cast L (Lv.llen L Lt l))
 (Prod.fst (Prod.snd c)))))
 (Lv.toN L (Prod.fst (Prod.snd x_3))))),
 Lv.ar L BinOp.add IntKind.i64
 (Prod.snd
 (Prod.snd
 (Lv.get L Lt
 (Lv.drop L Lt
 (Lv.take L Lt l
 (Lv.toN L
 (Lv.cast L
 (Lv.llen L Lt l))))
 (Lv.toN L
 (Lv.ar L BinOp.sub IntKind.i64
 (Lv.cast L
 (Lv.llen L Lt l))
 (Prod.fst (Prod.snd c)))))
 (Lv.toN L (Prod.fst (Prod.snd x_3))))))
 (Lv.ar L BinOp.sub IntKind.i64 (Lv.cast L (Lv.slen L (Prod.snd (Prod.snd x))))
 (Lv.ar L BinOp.sub IntKind.i64 (Prod.fst (Prod.snd x)) (Prod.fst x))))]
 1)))]
 8 =
 St.mk 131
 [(4, V.c (C.ptr 1 0)),
 (8,
 V.c
 (C.own 7
 (Lv.llen L Lt
 (Lv.app L Lt
 (Lv.take L Lt (Prod.fst x_3)
 (Lv.llen L Lt (Prod.fst x_3)))
 (Lv.take L Lt
 [(Prod.fst
 (Lv.get L Lt
 (Lv.drop L Lt
 (Lv.take L Lt l
 (Lv.toN L
 (Lv.cast L
 (Lv.llen L Lt l))))
 (Lv.toN L
 (Lv.ar L BinOp.sub IntKind.i64
 (Lv.cast L
 (Lv.llen L Lt l))
 (Prod.fst (Prod.snd c)))))
 (Lv.toN L (Prod.fst (Prod.snd x_3)))),
 Prod.fst
 (Prod.snd
 (Lv.get L Lt
 (Lv.drop L Lt
 (Lv.take L Lt l
 (Lv.toN L
 (Lv.cast L
 (Lv.llen L Lt l))))
 (Lv.toN L
 (Lv.ar L BinOp.sub IntKind.i64
 (Lv.cast L
 (Lv.llen L Lt l))
 (Prod.fst (Prod.snd c)))))
 (Lv.toN L (Prod.fst (Prod.snd x_3))))),
 Lv.ar L BinOp.add IntKind.i64
 (Prod.snd
 (Prod.snd
 (Lv.get L Lt
 (Lv.drop L Lt
 (Lv.take L Lt l
 (Lv.toN L
 (Lv.cast L
 (Lv.llen L Lt l))))
 (Lv.toN L
 (Lv.ar L BinOp.sub IntKind.i64
 (Lv.cast L
 (Lv.llen L Lt l))
 (Prod.fst (Prod.snd c)))))
 (Lv.toN L (Prod.fst (Prod.snd x_3))))))
 (Lv.ar L BinOp.sub IntKind.i64 (Lv.cast L (Lv.slen L (Prod.snd (Prod.snd x))))
 (Lv.ar L BinOp.sub IntKind.i64 (Prod.fst (Prod.snd x)) (Prod.fst x))))]
 1))))),
 (106,
 V.c
 (C.sl Lt
 (Lv.drop L Lt
 (Lv.take L Lt l
 (Lv.toN L (Lv.cast L (Lv.llen L Lt l))))
 (Lv.toN L
 (Lv.ar L BinOp.sub IntKind.i64
 (Lv.cast L (Lv.llen L Lt l))
 (Prod.fst (Prod.snd c))))))),
 (107,
 V.c
 (C.int IntKind.i64
 (Lv.cast L
 (Lv.llen L Lt
 (Lv.drop L Lt
 (Lv.take L Lt l
 (Lv.toN L
 (Lv.cast L (Lv.llen L Lt l))))
 (Lv.toN L
 (Lv.ar L BinOp.sub IntKind.i64
 (Lv.cast L (Lv.llen L Lt l))
 (Prod.fst (Prod.snd c))))))))),
 (108, V.c (C.int IntKind.i64 (Lv.ar L BinOp.add IntKind.i64 (Prod.fst (Prod.snd x_3)) 1)))]
 [(0, Ob.amb),
 (1,
 Ob.box 35
 [C.int IntKind.i64 (Prod.fst x), C.int IntKind.i64 (Prod.fst (Prod.snd x)), C.str (Prod.snd (Prod.snd x))]),
 (2,
 Ob.box 40
 [C.int IntKind.i64 (Prod.fst c), C.int IntKind.i64 (Prod.fst (Prod.snd c)),
 C.sl Lt (Prod.snd (Prod.snd c))]),
 (3, Ob.box 75 [C.fn 74 []]), (4, Ob.box 75 [C.fn 74 []]),
 (7,
 Ob.row 48 Lt
 (Lv.app L Lt
 (Lv.take L Lt (Prod.fst x_3)
 (Lv.llen L Lt (Prod.fst x_3)))
 (Lv.take L Lt
 [(Prod.fst
 (Lv.get L Lt
 (Lv.drop L Lt
 (Lv.take L Lt l
 (Lv.toN L
 (Lv.cast L (Lv.llen L Lt l))))
 (Lv.toN L
 (Lv.ar L BinOp.sub IntKind.i64
 (Lv.cast L (Lv.llen L Lt l))
 (Prod.fst (Prod.snd c)))))
 (Lv.toN L (Prod.fst (Prod.snd x_3)))),
 Prod.fst
 (Prod.snd
 (Lv.get L Lt
 (Lv.drop L Lt
 (Lv.take L Lt l
 (Lv.toN L
 (Lv.cast L
 (Lv.llen L Lt l))))
 (Lv.toN L
 (Lv.ar L BinOp.sub IntKind.i64
 (Lv.cast L (Lv.llen L Lt l))
 (Prod.fst (Prod.snd c)))))
 (Lv.toN L (Prod.fst (Prod.snd x_3))))),
 Lv.ar L BinOp.add IntKind.i64
 (Prod.snd
 (Prod.snd
 (Lv.get L Lt
 (Lv.drop L Lt
 (Lv.take L Lt l
 (Lv.toN L
 (Lv.cast L
 (Lv.llen L Lt l))))
 (Lv.toN L
 (Lv.ar L BinOp.sub IntKind.i64
 (Lv.cast L
 (Lv.llen L Lt l))
 (Prod.fst (Prod.snd c)))))
 (Lv.toN L (Prod.fst (Prod.snd x_3))))))
 (Lv.ar L BinOp.sub IntKind.i64 (Lv.cast L (Lv.slen L (Prod.snd (Prod.snd x))))
 (Lv.ar L BinOp.sub IntKind.i64 (Prod.fst (Prod.snd x)) (Prod.fst x))))]
 1)))]
 8 ∧
 J
 (Lv.app L Lt
 (Lv.take L Lt (Prod.fst x_3)
 (Lv.llen L Lt (Prod.fst x_3)))
 (Lv.take L Lt
 [(Prod.fst
 (Lv.get L Lt
 (Lv.drop L Lt
 (Lv.take L Lt l
 (Lv.toN L
 (Lv.cast L (Lv.llen L Lt l))))
 (Lv.toN L
 (Lv.ar L BinOp.sub IntKind.i64
 (Lv.cast L (Lv.llen L Lt l))
 (Prod.fst (Prod.snd c)))))
 (Lv.toN L (Prod.fst (Prod.snd x_3)))),
 Prod.fst
 (Prod.snd
 (Lv.get L Lt
 (Lv.drop L Lt
 (Lv.take L Lt l
 (Lv.toN L
 (Lv.cast L (Lv.llen L Lt l))))
 (Lv.toN L
 (Lv.ar L BinOp.sub IntKind.i64
 (Lv.cast L (Lv.llen L Lt l))
 (Prod.fst (Prod.snd c)))))
 (Lv.toN L (Prod.fst (Prod.snd x_3))))),
 Lv.ar L BinOp.add IntKind.i64
 (Prod.snd
 (Prod.snd
 (Lv.get L Lt
 (Lv.drop L Lt
 (Lv.take L Lt l
 (Lv.toN L
 (Lv.cast L (Lv.llen L Lt l))))
 (Lv.toN L
 (Lv.ar L BinOp.sub IntKind.i64
 (Lv.cast L (Lv.llen L Lt l))
 (Prod.fst (Prod.snd c)))))
 (Lv.toN L (Prod.fst (Prod.snd x_3))))))
 (Lv.ar L BinOp.sub IntKind.i64 (Lv.cast L (Lv.slen L (Prod.snd (Prod.snd x))))
 (Lv.ar L BinOp.sub IntKind.i64 (Prod.fst (Prod.snd x)) (Prod.fst x))))]
 1),
 Lv.ar L BinOp.add IntKind.i64 (Prod.fst (Prod.snd x_3)) 1, ()) ∧
 nu
 (Lv.app L Lt
 (Lv.take L Lt (Prod.fst x_3)
 (Lv.llen L Lt (Prod.fst x_3)))
 (Lv.take L Lt
 [(Prod.fst
 (Lv.get L Lt
 (Lv.drop L Lt
 (Lv.take L Lt l
 (Lv.toN L
 (Lv.cast L (Lv.llen L Lt l))))
 (Lv.toN L
 (Lv.ar L BinOp.sub IntKind.i64
 (Lv.cast L (Lv.llen L Lt l))
 (Prod.fst (Prod.snd c)))))
 (Lv.toN L (Prod.fst (Prod.snd x_3)))),
 Prod.fst
 (Prod.snd
 (Lv.get L Lt
 (Lv.drop L Lt
 (Lv.take L Lt l
 (Lv.toN L
 (Lv.cast L (Lv.llen L Lt l))))
 (Lv.toN L
 (Lv.ar L BinOp.sub IntKind.i64
 (Lv.cast L (Lv.llen L Lt l))
 (Prod.fst (Prod.snd c)))))
 (Lv.toN L (Prod.fst (Prod.snd x_3))))),
 Lv.ar L BinOp.add IntKind.i64
 (Prod.snd
 (Prod.snd
 (Lv.get L Lt
 (Lv.drop L Lt
 (Lv.take L Lt l
 (Lv.toN L
 (Lv.cast L
 (Lv.llen L Lt l))))
 (Lv.toN L
 (Lv.ar L BinOp.sub IntKind.i64
 (Lv.cast L (Lv.llen L Lt l))
 (Prod.fst (Prod.snd c)))))
 (Lv.toN L (Prod.fst (Prod.snd x_3))))))
 (Lv.ar L BinOp.sub IntKind.i64 (Lv.cast L (Lv.slen L (Prod.snd (Prod.snd x))))
 (Lv.ar L BinOp.sub IntKind.i64 (Prod.fst (Prod.snd x)) (Prod.fst x))))]
 1),
 Lv.ar L BinOp.add IntKind.i64 (Prod.fst (Prod.snd x_3)) 1, ()) <
 nu x_3))))
 (VC.ok
 ((Lv.take L Lt (Prod.fst x_3)
 (Lv.llen L Lt (Prod.fst x_3)),
 0, ()) =
 (Prod.fst (LexF.patch F l x c), Prod.snd (LexF.patch F l x c), ())))))))))))))))))))))))))))
 (VC.ok (([], 3, ()) = (Prod.fst (LexF.patch F l x c), Prod.snd (LexF.patch F l x c), ())))))
 (VC.ok (([], 3, ()) = (Prod.fst (LexF.patch F l x c), Prod.snd (LexF.patch F l x c), ())))))))
theorem n40_eq (L : Lv) (F : LexF) (I : List Lx → Ds [It] → Prop) (mu : List Lx → Ds [It] → Nat) (J : Ds [.sl Lt, It] → Prop) (nu : Ds [.sl Lt, It] → Nat) (l : List Lx) (x : Ed) (c : Ch) : vcI L F [73, 74] [(62, D62 a0), (95, D95 a0), (96, D96 a0), (117, D117 (a117e L I mu))] 4 (D40 (a40 L J nu)) (S40 F) (l, x, c, ()) = n40 L F I mu J nu l x c := by kernel_rfl
theorem n40_go (L : Lv) (F : LexF) (I : List Lx → Ds [It] → Prop) (mu : List Lx → Ds [It] → Nat) (J : Ds [.sl Lt, It] → Prop) (nu : Ds [.sl Lt, It] → Nat) (l : List Lx) (x : Ed) (c : Ch) (h : VC.holds (n40 L F I mu J nu l x c)) : Holds (vcI L F [73, 74] [(62, D62 a0), (95, D95 a0), (96, D96 a0), (117, D117 (a117e L I mu))] 4 (D40 (a40 L J nu)) (S40 F) (l, x, c, ())) := Holds.of_eq (n40_eq L F I mu J nu l x c) h

theorem place_iff (n : Int) : isPlaceF n = true ↔ 0 ≤ n ∧ n ≤ 2500 := by unfold isPlaceF; simp
theorem place_no (n : Int) : isPlaceF n = false ↔ n < 0 ∨ 2500 < n := by unfold isPlaceF; simp; omega
theorem patch_e5 {l : List Lx} {x : Ed} {c : Ch} (h : 900 < l.length ∨ 900 < c.2.2.length ∨ 2500 < x.2.2.size) : patchF l x c = ([], 5) := by unfold patchF; rw [if_pos h]
theorem patch_e3 {l : List Lx} {x : Ed} {c : Ch} (h : l.length ≤ 900 ∧ c.2.2.length ≤ 900 ∧ x.2.2.size ≤ 2500) (h2 : isPlaceF x.1 = false ∨ isPlaceF x.2.1 = false ∨ x.2.1 < x.1 ∨ c.1 < 0 ∨ c.2.1 < 0 ∨ (l.length : Int) < c.1 ∨ (l.length : Int) - c.1 < c.2.1 ∨ arePlacesF l = false ∨ arePlacesF c.2.2 = false) : patchF l x c = ([], 3) := by
  unfold patchF; rw [if_neg (by omega), if_pos h2]
def patchOk (l : List Lx) (x : Ed) (c : Ch) : Prop := (l.length ≤ 900 ∧ c.2.2.length ≤ 900 ∧ x.2.2.size ≤ 2500) ∧ isPlaceF x.1 = true ∧ isPlaceF x.2.1 = true ∧ x.1 ≤ x.2.1 ∧ 0 ≤ c.1 ∧ 0 ≤ c.2.1 ∧ c.1 ≤ l.length ∧ c.2.1 ≤ l.length - c.1 ∧ arePlacesF l = true ∧ arePlacesF c.2.2 = true
theorem patchOk_no {l : List Lx} {x : Ed} {c : Ch} (h : patchOk l x c) : ¬ (isPlaceF x.1 = false ∨ isPlaceF x.2.1 = false ∨ x.2.1 < x.1 ∨ c.1 < 0 ∨ c.2.1 < 0 ∨ (l.length : Int) < c.1 ∨ (l.length : Int) - c.1 < c.2.1 ∨ arePlacesF l = false ∨ arePlacesF c.2.2 = false) := by
  obtain ⟨_, h1, h2, h3, h4, h5, h6, h7, h8, h9⟩ := h
  rw [h1, h2, h8, h9]
  simp only [Bool.true_eq_false, false_or, or_false]
  omega
theorem patch_l5 {l : List Lx} {x : Ed} {c : Ch} (h : patchOk l x c) (h2 : 900 < c.1 + c.2.2.length + c.2.1) : patchF l x c = ([], 5) := by
  have hn := patchOk_no h
  obtain ⟨h0, _⟩ := h
  unfold patchF; rw [if_neg (by omega), if_neg hn, if_pos h2]
theorem patch_ok {l : List Lx} {x : Ed} {c : Ch} (h : patchOk l x c) (h2 : ¬ 900 < c.1 + c.2.2.length + c.2.1) : patchF l x c = (l.take c.1.toNat ++ c.2.2 ++ (l.drop ((l.length : Int) - c.2.1).toNat).map fun t => (t.1, t.2.1, t.2.2 + ((x.2.2.size : Int) - (x.2.1 - x.1))), 0) := by
  have hn := patchOk_no h
  obtain ⟨h0, _⟩ := h
  unfold patchF; rw [if_neg (by omega), if_neg hn, if_neg h2]
theorem ok40 (F : LexF) (hpl : F.pL = pLF) (h : F.patch = patchF) (hp : F.isPlace = isPlaceF) (hq : F.isPlaced = fun x => isPlaceF x.2.2) (k1 : SpecOk prog 73 (S73 F)) (k2 : SpecOk prog 74 (S74 F)) : SpecOk prog 40 (S40 F) := by
  refine contract_by hm hE D40 fnok40 _ fun (z : List Lx × Ed × Ch × Unit) hpre => ?_
  obtain ⟨l, ⟨a, b, t⟩, ⟨c, d, m⟩, ⟨⟩⟩ := z
  obtain ⟨p1, p2, p3⟩ : F.pL l ∧ F.pS t ∧ F.pL m := hpre
  rw [hpl] at p1 p3
  obtain ⟨g1, g2⟩ := p1
  obtain ⟨g3, g4⟩ := p3
  let I : List Lx → Int × Unit → Prop := fun q z => 0 ≤ z.1 ∧ z.1 ≤ q.length ∧ (q.take z.1.toNat).all (fun x => isPlaceF x.2.2) = true
  let mu : List Lx → Int × Unit → Nat := fun q z => (q.length - z.1).toNat
  let f : Lx → Lx := fun y => (y.1, y.2.1, y.2.2 + ((t.size : Int) - (b - a)))
  let J : List Lx × Int × Unit → Prop := fun z => 0 ≤ z.2.1 ∧ z.2.1 ≤ (l.drop ((l.length : Int) - d).toNat).length ∧ z.1 = l.take c.toNat ++ m ++ ((l.drop ((l.length : Int) - d).toNat).take z.2.1.toNat).map f
  let nu : List Lx × Int × Unit → Nat := fun z => ((l.drop ((l.length : Int) - d).toNat).length - z.2.1).toNat
  refine pack _ 4 (a40 Lv.std J nu) (inlT_ok [(62, D62 a0), (95, D95 a0), (96, D96 a0), (117, D117 (a117e Lv.std I mu))] (fOnly F [73, 74]) (by simp only [List.forall_mem_cons]; exact ⟨fnok62 _, fnok95 _, fnok96 _, fnok117 _, fun _ h => by cases h⟩)
    (only_ok (F := F) (l := [73, 74]) (by simp only [List.forall_mem_cons]; exact ⟨at_ok k1 (by kernel_rfl), at_ok k2 (by kernel_rfl), fun _ h => by cases h⟩))) ?_
  refine n40_go Lv.std F I mu J nu l (a, b, t) (c, d, m) ?_
  simp only [n40, VC.holds, std_cmp, std_scmp, std_ar_add, std_ar_sub, std_ar_mul, std_ar, std_dv, std_shf, std_conv, std_mn, std_mx, std_beq, std_bnot, std_band, std_scat, std_byte, std_ext, std_slen, std_strOf, std_bytes, std_llen, std_get, std_setl, std_app, std_take, std_drop, std_rep, std_mhas, std_mval, std_mput, std_cast, std_toN, std_sub, std_add, std_inR, std_le3, std_leN, std_ltN, std_ne0, std_nonneg, std_catOk, std_room, std_mkOk, cmp_lss_t, cmp_lss_f, cmp_leq_t, cmp_leq_f, cmp_gtr_t, cmp_gtr_f, cmp_geq_t, cmp_geq_f, cmp_eql_t, cmp_eql_f, cmp_neq_t, cmp_neq_f, scmp_eql_t, scmp_eql_f, scmp_neq_t, scmp_neq_f, dflt_int, dflt_bool, dflt_str, dflt_sl, dflt_pair, h, hp, hq, Prod.mk.injEq, and_true, true_and, List.length_nil, Nat.zero_add, List.nil_append, Int.toNat_zero, List.drop_zero, List.take_length, nc0]
  refine ⟨fun e => by rw [patch_e5 (by simp only; omega)]; exact ⟨rfl, rfl⟩, fun e1 => ⟨fun e => by rw [patch_e5 (by simp only; omega)]; exact ⟨rfl, rfl⟩, fun e2 => ⟨fun e => by rw [patch_e5 (by simp only; omega)]; exact ⟨rfl, rfl⟩, fun e3 => ?_⟩⟩⟩
  have e0 : l.length ≤ 900 ∧ m.length ≤ 900 ∧ t.size ≤ 2500 := by omega
  have hno : ∀ hh, [] = (patchF l (a, b, t) (c, d, m)).1 ∧ 3 = (patchF l (a, b, t) (c, d, m)).2 := fun hh => by rw [patch_e3 (x := (a, b, t)) (c := (c, d, m)) e0 hh]; exact ⟨rfl, rfl⟩
  simp only at hno
  refine ⟨fun q1 => ⟨fun q2 => ⟨fun e => hno (.inr (.inr (.inl e))), fun q3 => ⟨fun e => hno (.inr (.inr (.inr (.inl e)))), fun q4 => ⟨fun e => hno (.inr (.inr (.inr (.inr (.inl e))))), fun q5 => ⟨fun e => hno (.inr (.inr (.inr (.inr (.inr (.inl e)))))), fun q6 => ?_⟩⟩⟩⟩, fun e => hno (.inr (.inl e))⟩, fun e => hno (.inl e)⟩
  have w1 : IntKind.i64.wrap ((l.length : Int) - c) = l.length - c := wrap_i64 (by omega) (by omega)
  rw [w1]
  refine ⟨fun e => hno (.inr (.inr (.inr (.inr (.inr (.inr (.inl e))))))), fun q7 => ⟨⟨by show (0 : Int) ≤ 0; omega, by show (0 : Int) ≤ l.length; omega, rfl⟩, ?_⟩⟩
  rintro ⟨i, _⟩ ⟨h0, h1, h2⟩
  simp only at h0 h1 h2 ⊢
  have step : ∀ (q : List Lx) (i : Int), q.length ≤ 1000 → 0 ≤ i → i < q.length → (q.take i.toNat).all (fun x => isPlaceF x.2.2) = true → (isPlaceF (q[i.toNat]?.getD (0, ByteArray.empty, 0)).2.2 = true → I q (IntKind.i64.wrap (i + 1), ()) ∧ mu q (IntKind.i64.wrap (i + 1), ()) < mu q (i, ())) ∧ (isPlaceF (q[i.toNat]?.getD (0, ByteArray.empty, 0)).2.2 = false → arePlacesF q = false) := by
    intro q i hq hi0 hi1 hi2
    obtain ⟨k, rfl⟩ : ∃ k : Nat, i = k := ⟨i.toNat, by omega⟩
    have hk : k < q.length := by omega
    have ew : IntKind.i64.wrap ((k : Int) + 1) = (k : Int) + 1 := by rw [wrap_i64 (by omega) (by omega)]
    simp only [ew, Int.toNat_natCast, List.getElem?_eq_getElem hk, Option.getD_some] at hi2 ⊢
    refine ⟨fun hR => ⟨⟨by show (0 : Int) ≤ (k : Int) + 1; omega, by show (k : Int) + 1 ≤ q.length; omega, ?_⟩, by show ((q.length : Int) - ((k : Int) + 1)).toNat < ((q.length : Int) - k).toNat; omega⟩, fun hR => all_no (f := fun x : Lx => isPlaceF x.2.2) k hk hR⟩
    show (q.take ((k : Int) + 1).toNat).all (fun x => isPlaceF x.2.2) = true
    rw [show ((k : Int) + 1).toNat = k + 1 by omega]
    exact all_step (f := fun x : Lx => isPlaceF x.2.2) k hk hi2 hR
  refine ⟨fun hlt => ⟨⟨h0, hlt⟩, (step l i g1 h0 hlt h2).1, fun hR => ⟨fun _ => hno (.inr (.inr (.inr (.inr (.inr (.inr (.inr (.inl ((step l i g1 h0 hlt h2).2 hR))))))))), fun hneg => absurd hneg (by omega)⟩⟩, fun hge => ?_⟩
  have hi : i = l.length := by omega
  subst hi
  rw [Int.toNat_natCast, List.take_length] at h2
  refine ⟨fun hneg => absurd hneg (by omega), fun _ => ⟨⟨by show (0 : Int) ≤ 0; omega, by show (0 : Int) ≤ m.length; omega, rfl⟩, ?_⟩⟩
  rintro ⟨i, _⟩ ⟨h3, h4, h5⟩
  simp only at h3 h4 h5 ⊢
  refine ⟨fun hlt => ⟨⟨h3, hlt⟩, (step m i g3 h3 hlt h5).1, fun hR => ⟨fun _ => hno (.inr (.inr (.inr (.inr (.inr (.inr (.inr (.inr ((step m i g3 h3 hlt h5).2 hR))))))))), fun hneg => absurd hneg (by omega)⟩⟩, fun hge => ?_⟩
  have hi : i = m.length := by omega
  subst hi
  rw [Int.toNat_natCast, List.take_length] at h5
  have hok : patchOk l (a, b, t) (c, d, m) := ⟨e0, q1, q2, q3, q4, q5, q6, q7, h2, h5⟩
  have w2 : IntKind.i64.wrap (c + (m.length : Int)) = c + m.length := wrap_i64 (by omega) (by omega)
  have w3 : IntKind.i64.wrap (c + (m.length : Int) + d) = c + m.length + d := wrap_i64 (by omega) (by omega)
  have w4 : IntKind.i64.wrap ((l.length : Int) - d) = l.length - d := wrap_i64 (by omega) (by omega)
  have p4 := (place_iff a).1 q1
  have p5 := (place_iff b).1 q2
  have w5 : IntKind.i64.wrap (b - a) = b - a := wrap_i64 (by omega) (by omega)
  have w6 : IntKind.i64.wrap ((t.size : Int) - (b - a)) = (t.size : Int) - (b - a) := wrap_i64 (by omega) (by omega)
  have w7 : (l.take c.toNat).length = c.toNat := by rw [List.length_take]; omega
  simp only [w2, w3, w4, w5, w6, w7, Int.toNat_natCast, List.take_length, List.length_append]
  refine ⟨fun hneg => absurd hneg (by omega), fun _ => ⟨fun hbig => by rw [patch_l5 hok (by simp only; omega)]; exact ⟨rfl, rfl⟩, fun hsm => ?_⟩⟩
  have hres := patch_ok hok (by simp only; omega)
  simp only at hres
  rw [hres]
  have hdl : (l.drop ((l.length : Int) - d).toNat).length = d.toNat := by rw [List.length_drop]; omega
  have hdl2 : (l.drop ((l.length : Int) - d).toNat).length = d.toNat := hdl
  generalize htl : l.drop ((l.length : Int) - d).toNat = tl at hres hdl ⊢
  have hmem : ∀ y ∈ tl, 0 ≤ y.2.2 ∧ y.2.2 ≤ 2500 := fun y hy => (place_iff _).1 (all_at (f := fun x : Lx => isPlaceF x.2.2) h2 y (by rw [← htl] at hy; exact List.mem_of_mem_drop hy))
  refine ⟨⟨by omega, by omega, by omega⟩, ⟨by omega, by omega⟩, ⟨by omega, by omega⟩, ⟨by omega, by omega, by omega⟩, trivial, ⟨by show (0 : Int) ≤ 0; omega, by show (0 : Int) ≤ (l.drop ((l.length : Int) - d).toNat).length; omega, ?_⟩, ?_⟩
  · show _ = l.take c.toNat ++ m ++ ([] : List Lx)
    rw [List.append_nil]
  rintro ⟨o, i, _⟩ ⟨j0, j1, j2⟩
  simp only at j0 j1 j2 ⊢
  rw [htl] at j1 j2
  refine ⟨fun hlt => ?_, fun hge => ?_⟩
  · obtain ⟨k, rfl⟩ : ∃ k : Nat, i = k := ⟨i.toNat, by omega⟩
    have hk : k < tl.length := by omega
    have hm' := hmem tl[k] (List.getElem_mem _)
    have ew : IntKind.i64.wrap ((k : Int) + 1) = (k : Int) + 1 := wrap_i64 (by omega) (by omega)
    have ol : o.length ≤ 3000 := by
      rw [j2, List.length_append, List.length_append, List.length_map, List.length_take, List.length_take]; omega
    simp only [ew, Int.toNat_natCast, List.getElem?_eq_getElem hk, Option.getD_some]
    have w8 : IntKind.i64.wrap (tl[k].2.2 + ((t.size : Int) - (b - a))) = tl[k].2.2 + ((t.size : Int) - (b - a)) := wrap_i64 (by omega) (by omega)
    simp only [w8, List.take_succ_cons, List.take_zero, List.length_cons, List.length_nil]
    refine ⟨⟨by omega, by omega⟩, ⟨by omega, by omega⟩, trivial, ⟨by show (0 : Int) ≤ (k : Int) + 1; omega, by show (k : Int) + 1 ≤ (l.drop ((l.length : Int) - d).toNat).length; omega, ?_⟩, ?_⟩
    · show o ++ [f tl[k]] = l.take c.toNat ++ m ++ ((l.drop ((l.length : Int) - d).toNat).take ((k : Int) + 1).toNat).map f
      rw [htl, show ((k : Int) + 1).toNat = k + 1 by omega, take_snoc tl k hk, List.map_append, j2, Int.toNat_natCast]
      simp only [List.map_cons, List.map_nil, List.append_assoc]
    · show (((l.drop ((l.length : Int) - d).toNat).length : Int) - ((k : Int) + 1)).toNat < (((l.drop ((l.length : Int) - d).toNat).length : Int) - k).toNat
      omega
  · have hi : i = tl.length := by omega
    subst hi
    rw [Int.toNat_natCast, List.take_length] at j2
    exact ⟨j2, trivial⟩
theorem patch_pL {l : List Lx} {x : Ed} {c : Ch} (h1 : pLF l) (h2 : pLF c.2.2) : pLF (patchF l x c).1 := by
  have h0 : pLF [] := ⟨by simp, fun x hx => by cases hx⟩
  unfold patchF
  split
  · exact h0
  · split
    · exact h0
    · rename_i hn
      split
      · exact h0
      · rename_i hs
        simp only [not_or] at hn
        obtain ⟨_, _, _, n4, n5, n6, n7, _, _⟩ := hn
        refine ⟨?_, fun y hy => ?_⟩
        · simp only [List.length_append, List.length_take, List.length_map, List.length_drop]; omega
        · simp only [List.mem_append, List.mem_map] at hy
          rcases hy with (hy | hy) | ⟨z, hz, rfl⟩
          · exact h1.2 _ (List.mem_of_mem_take hy)
          · exact h2.2 _ hy
          · have := h1.2 z (List.mem_of_mem_drop hz)
            exact this
end Go.Proofs.Tryd
set_option autoImplicit false
set_option linter.all false
namespace Go.Proofs.Tryd
open Go Go.VM
set_option maxRecDepth 100000
theorem h40 : SpecOk prog 40 (S40 FF) := ok40 FF rfl rfl rfl rfl h73 h74
end Go.Proofs.Tryd
