/- What some functions of the lexer compute, proved through the condition generator. No condition of ours. -/
import Derived.Test.YthmlejcfgbpcbaaDoorL2
import Derived.Test.YthmlejcfgbpcbaaDoorV1
import Derived.Shelf.Strings.Builder1
import Derived.Shelf.Strings.Builder2
import Derived.Shelf.Small.Strs
import Derived.Shelf.Strings.BuilderF
import Derived.Shelf.Utf8.RuneCount
import Derived.Shelf.Strconv.Atoi
import Derived.Shelf.Strconv.Itoa0
import Derived.Shelf.Strconv.Itoa1
import Derived.Shelf.LaysM
import Derived.Shelf.Strconv.Itoa2
import Derived.Shelf.Strconv.Itoa3
import Derived.Shelf.Strconv.AtoiErrFast
import Derived.Shelf.Strconv.ParseIntEmpty
import Derived.Shelf.Strconv.AtoiFail
import Derived.Shelf.Strconv.Clone
import Derived.Shelf.Strconv.SyntaxError
import Derived.Shelf.LaysC
import Derived.Shelf.Strconv.ToError
import Derived.Shelf.Strconv.Lower
import Derived.Shelf.Strconv.ParseUint10
import Derived.Shelf.Strconv.ParseUint10Empty
import Derived.Shelf.Strconv.ParseUint10Any
import Derived.Shelf.Strconv.ParseInt10
import Derived.Shelf.Strconv.AtoiLong
import Derived.Shelf.Strconv.AtoiInnerAll
import Derived.Shelf.Strconv.RangeError
import Derived.Shelf.Strconv.ToErrorRange
import Derived.Shelf.Strconv.AtoiAll
import Derived.Shelf.Strings.Search1
import Derived.Shelf.Strings.Search2
import Derived.Shelf.Strings.Search3
import Derived.Shelf.Strings.Count
import Derived.Shelf.Strings.Shaped
import Derived.Shelf.Strings.LastIndex
import Derived.Shelf.Strings.Prefix
import Derived.Shelf.Strings.Split
import Derived.Shelf.Strings.SplitShaped
import Derived.Shelf.Unicode.Decode
import Derived.Shelf.Strings.RuneCount
import Derived.Shelf.Strings.Explode
import Derived.Shelf.Bits.Mul64
import Derived.Shelf.Strings.Repeat
import Derived.Shelf.Unicode.DecodeSlow
import Derived.Shelf.Unicode.DecodeAny
import Derived.Test.YthmlejcfgbpcbaaDoorProg
set_option autoImplicit false
set_option linter.all false
namespace Go.Proofs.Tryd
open Go Go.VM
set_option maxRecDepth 100000
abbrev Pt : Ty := .pair It It
structure LexG where
  coms : ByteArray → List (Int × Int × Unit)
  rep : ByteArray → Int → ByteArray
  pRep : ByteArray → Int → Prop
  comments : ByteArray → List (Int × Int) × Int × Int
  blank : ByteArray → ByteArray × Int × Int
  rComments : ByteArray → List (Int × Int) × Int × Int
  rBlank : ByteArray → ByteArray × Int × Int
  same : List (Int × Int) → List (Int × Int) → Bool
  pSl : List (Int × Int) → Prop
theorem at103 : prog.funcs[103]? = some f103 := by kernel_rfl
theorem at78 : prog.funcs[78]? = some f78 := by kernel_rfl
def pl0 : Nat → Plan := fun _ => []
noncomputable def D103 (ann : Nat → LAnn) : FnD := ⟨f103.body.getD .skip, f103.ntmps, f103.results.toList, pl0, ann⟩
theorem fnok103 (ann : Nat → LAnn) : FnOk prog 103 (D103 ann) := ⟨f103, at103, by kernel_rfl, by kernel_rfl, rfl, rfl, by kernel_rfl⟩
noncomputable def D78 (ann : Nat → LAnn) : FnD := ⟨f78.body.getD .skip, f78.ntmps, f78.results.toList, pl0, ann⟩
theorem fnok78 (ann : Nat → LAnn) : FnOk prog 78 (D78 ann) := ⟨f78, at78, by kernel_rfl, by kernel_rfl, rfl, rfl, by kernel_rfl⟩
def I103 (F : LexF) (G : LexG) : VM.It := ⟨[.str], [It, It], fun x => F.pS x.1, fun x => G.coms x.1⟩
def S48 (G : LexG) : VM.Spec := ⟨[.str], [.sl Pt, It, It], fun _ => True, fun x => ((G.comments x.1).1, (G.comments x.1).2.1, (G.comments x.1).2.2, ())⟩
def S47 (G : LexG) : VM.Spec := ⟨[.str], [.str, It, It], fun _ => True, fun x => ((G.blank x.1).1, (G.blank x.1).2.1, (G.blank x.1).2.2, ())⟩
def S49 (G : LexG) : VM.Spec := ⟨[.str], [.sl Pt, It, It], fun _ => True, fun x => ((G.rComments x.1).1, (G.rComments x.1).2.1, (G.rComments x.1).2.2, ())⟩
def S50 (G : LexG) : VM.Spec := ⟨[.str], [.str, It, It], fun _ => True, fun x => ((G.rBlank x.1).1, (G.rBlank x.1).2.1, (G.rBlank x.1).2.2, ())⟩
def S51 (G : LexG) : VM.Spec := ⟨[.sl Pt, .sl Pt], [.bool], fun x => G.pSl x.1, fun x => (G.same x.1 x.2.1, ())⟩
def S79 (G : LexG) : VM.Spec := ⟨[.str, It], [.str], fun x => G.pRep x.1 x.2.1, fun x => (G.rep x.1 x.2.1, ())⟩
noncomputable def fT2 (F : LexF) (G : LexG) : FuncId → FT
  | 103 => .it (I103 F G) | 78 => .inl (D78 a0) | 48 => .spec (S48 G) | 47 => .spec (S47 G) | 49 => .spec (S49 G) | 50 => .spec (S50 G) | 51 => .spec (S51 G) | 79 => .spec (S79 G)
  | g => fT F g
noncomputable def vc2 (L : Lv) (F : LexF) (G : LexG) (l : List Nat) (d : FnD) (sp : VM.Spec) (x : Ds sp.ins) : VC := contractVC L E01 (callG L E01 (only (fT2 F G) l) 1) (spcOf (only (fT2 F G) l)) d sp x
def a103 (L : Lv) (I : Nat → Ds [It] → Prop) (mu : Ds [It] → Nat) : Nat → Option IAnn
  | 0 => anY L [0, 1, 3] [] [.s 3 It] I mu
  | _ => none
def a48 (L : Lv) (I : Nat → Ds [.sl Pt] → Prop) : Nat → LAnn
  | 0 => anR L [2] [(2, some 0, 93, Pt)] [.br 2 0 Pt] I
  | _ => .no
def a47 (L : Lv) (I : Nat → Ds [.str] → Prop) : Nat → LAnn
  | 0 => anR L [1] [] [.b 1 0 .str] I
  | _ => .no
def a49 (L : Lv) (I : Ds [.sl Pt, It, It] → Prop) (mu : Ds [.sl Pt, It, It] → Nat) : Nat → LAnn
  | 0 => anH L [0, 7, 8, 9] [(7, none, 93, Pt)] [.r 7 Pt, .s 8 It, .s 9 It] I mu
  | _ => .no
def a50 (L : Lv) (I : Ds [.str, It] → Prop) (mu : Ds [.str, It] → Nat) (J : Int → Ds [.str, It] → Prop) (nu : Int → Ds [.str, It] → Nat) : Nat → LAnn
  | 0 => anH L [0, 5, 8, 9] [] [.s 8 .str, .s 9 It] I mu
  | 2 => anHi L [0, 5, 8, 9, 10, 11] [] [.s 10 .str, .s 11 It] 9 J nu
  | _ => .no
def a51 (L : Lv) (I : Ds [It] → Prop) (mu : Ds [It] → Nat) : Nat → LAnn
  | 0 => anH L [0, 1, 5] [] [.s 5 It] I mu
  | _ => .no
def i103 (L : Lv) (F : LexF) (G : LexG) (I : Nat → Ds [It] → Prop) (mu : Ds [It] → Nat) (l : Nat) (s : ByteArray)  : VC :=
 VC.obl True
 (VC.obl
 (St.mk 27 [(0, V.c (C.yld l)), (1, V.ipt [C.str s]), (3, V.c (C.int IntKind.i64 (LexF.indexByte F s 37)))] [(0, Ob.amb)] 1 =
 St.mk 27 [(0, V.c (C.yld l)), (1, V.ipt [C.str s]), (3, V.c (C.int IntKind.i64 (LexF.indexByte F s 37)))] [(0, Ob.amb)] 1)
 (VC.obl (I 0 (LexF.indexByte F s 37, ()))
 (VC.all (Int × Unit) fun (x : Int × Unit) =>
 VC.all Nat fun (x_1 : Nat) =>
 VC.imp (I x_1 x)
 (VC.br (Lv.cmp L BinOp.geq (Prod.fst x) 0)
 (VC.obl (LexF.pAt F s (Prod.fst x) ∧ LexF.pS F s)
 (VC.obl (l = l)
 (VC.obl (Lv.nth L (Int × Int × Unit) (LexG.coms G s) x_1 (Prod.fst x, LexF.comment F s (Prod.fst x), ()))
 (VC.all Bool fun (x_2 : Bool) =>
 VC.br x_2
 (VC.obl (Lv.le3 L (LexF.comment F s (Prod.fst x)) (Lv.cast L (Lv.slen L s)) (Lv.slen L s))
 (VC.obl True
 (VC.br (Lv.cmp L BinOp.lss (LexF.indexByte F (Lv.ext L s (Lv.toN L (LexF.comment F s (Prod.fst x))) (Lv.toN L (Lv.cast L (Lv.slen L s)))) 37) 0)
 (VC.ok (Nat.succ x_1 = Lv.cnt L (Int × Int × Unit) (LexG.coms G s)))
 (VC.ok
 (St.mk 27
 [(0, V.c (C.yld l)), (1, V.ipt [C.str s]),
 (3,
 V.c
 (C.int IntKind.i64
 (Lv.ar L BinOp.add IntKind.i64 (LexF.comment F s (Prod.fst x))
 (LexF.indexByte F (Lv.ext L s (Lv.toN L (LexF.comment F s (Prod.fst x))) (Lv.toN L (Lv.cast L (Lv.slen L s)))) 37))))]
 [(0, Ob.amb)] 1 =
 St.mk 27
 [(0, V.c (C.yld l)), (1, V.ipt [C.str s]),
 (3,
 V.c
 (C.int IntKind.i64
 (Lv.ar L BinOp.add IntKind.i64 (LexF.comment F s (Prod.fst x))
 (LexF.indexByte F (Lv.ext L s (Lv.toN L (LexF.comment F s (Prod.fst x))) (Lv.toN L (Lv.cast L (Lv.slen L s)))) 37))))]
 [(0, Ob.amb)] 1 ∧
 I (Nat.succ x_1)
 (Lv.ar L BinOp.add IntKind.i64 (LexF.comment F s (Prod.fst x))
 (LexF.indexByte F (Lv.ext L s (Lv.toN L (LexF.comment F s (Prod.fst x))) (Lv.toN L (Lv.cast L (Lv.slen L s)))) 37),
 ()) ∧
 mu
 (Lv.ar L BinOp.add IntKind.i64 (LexF.comment F s (Prod.fst x))
 (LexF.indexByte F (Lv.ext L s (Lv.toN L (LexF.comment F s (Prod.fst x))) (Lv.toN L (Lv.cast L (Lv.slen L s)))) 37),
 ()) <
 mu x)))))
 (VC.ok True)))))
 (VC.ok (x_1 = Lv.cnt L (Int × Int × Unit) (LexG.coms G s)))))))
theorem i103_eq (L : Lv) (F : LexF) (G : LexG) (I : Nat → Ds [It] → Prop) (mu : Ds [It] → Nat) (l : Nat) (s : ByteArray) : iterVC L E01 (callG L E01 (only (fT2 F G) [84, 104]) 0) (spcOf (only (fT2 F G) [84, 104])) (D103 a0).code (D103 a0).ntmps (D103 a0).pl (a103 L I mu) (I103 F G) l (s, ()) = i103 L F G I mu l s := by kernel_rfl
theorem i103_go (L : Lv) (F : LexF) (G : LexG) (I : Nat → Ds [It] → Prop) (mu : Ds [It] → Nat) (l : Nat) (s : ByteArray) (h : VC.holds (i103 L F G I mu l s)) : Holds (iterVC L E01 (callG L E01 (only (fT2 F G) [84, 104]) 0) (spcOf (only (fT2 F G) [84, 104])) (D103 a0).code (D103 a0).ntmps (D103 a0).pl (a103 L I mu) (I103 F G) l (s, ())) := Holds.of_eq (i103_eq L F G I mu l s) h
def n48 (L : Lv) (F : LexF) (G : LexG) (I : Nat → Ds [.sl Pt] → Prop) (s : ByteArray)  : VC :=
 VC.obl True
 (VC.br (Lv.cmp L BinOp.neq (Prod.snd (LexF.chk F s)) 0)
 (VC.ok
 (([], Prod.fst (LexF.chk F s), Prod.snd (LexF.chk F s), ()) =
 (Prod.fst (LexG.comments G s), Prod.fst (Prod.snd (LexG.comments G s)), Prod.snd (Prod.snd (LexG.comments G s)), ())))
 (VC.obl (LexF.pS F s)
 (VC.obl
 (St.mk 29 [(2, V.c (C.ptr 1 0))] [(0, Ob.amb), (1, Ob.box 58 [C.own 4 0]), (4, Ob.row 93 (Ty.pair (Ty.int IntKind.i64) (Ty.int IntKind.i64)) [])] 5 =
 St.mk 29 [(2, V.c (C.ptr 1 0))]
 [(0, Ob.amb), (1, Ob.box 58 [C.own 4 (Lv.llen L (Ty.pair (Ty.int IntKind.i64) (Ty.int IntKind.i64)) [])]), (4, Ob.row 93 (Ty.pair (Ty.int IntKind.i64) (Ty.int IntKind.i64)) [])] 5)
 (VC.obl (I 0 ([], ()))
 (VC.all Bool fun (x : Bool) =>
 VC.br x
 (VC.all (List (Int × Int) × Unit) fun (x : List (Int × Int) × Unit) =>
 VC.all Nat fun (x_1 : Nat) =>
 VC.all (Int × Int × Unit) fun (x_2 : Int × Int × Unit) =>
 VC.imp (Lv.nth L (Int × Int × Unit) (LexG.coms G s) x_1 x_2 ∧ I x_1 x)
 (VC.obl
 (Lv.room L
 (Lv.add L
 (Lv.llen L (Ty.pair (Ty.int IntKind.i64) (Ty.int IntKind.i64))
 (Lv.take L (Ty.pair (Ty.int IntKind.i64) (Ty.int IntKind.i64)) (Prod.fst x) (Lv.llen L (Ty.pair (Ty.int IntKind.i64) (Ty.int IntKind.i64)) (Prod.fst x))))
 (Lv.llen L (Ty.pair (Ty.int IntKind.i64) (Ty.int IntKind.i64)) (Lv.take L (Ty.pair (Ty.int IntKind.i64) (Ty.int IntKind.i64)) [(Prod.fst x_2, Prod.fst (Prod.snd x_2))] 1)))
 16)
 (VC.ok
 (St.mk 29 [(2, V.c (C.ptr 1 0))]
 [(0, Ob.amb),
 (1,
 Ob.box 58
 [C.own 4
 (Lv.add L
 (Lv.llen L (Ty.pair (Ty.int IntKind.i64) (Ty.int IntKind.i64))
 (Lv.take L (Ty.pair (Ty.int IntKind.i64) (Ty.int IntKind.i64)) (Prod.fst x) (Lv.llen L (Ty.pair (Ty.int IntKind.i64) (Ty.int IntKind.i64)) (Prod.fst x))))
 (Lv.llen L (Ty.pair (Ty.int IntKind.i64) (Ty.int IntKind.i64))
 (Lv.take L (Ty.pair (Ty.int IntKind.i64) (Ty.int IntKind.i64)) [(Prod.fst x_2, Prod.fst (Prod.snd x_2))] 1)))]),
 (4,
 Ob.row 93 (Ty.pair (Ty.int IntKind.i64) (Ty.int IntKind.i64))
 (Lv.app L (Ty.pair (Ty.int IntKind.i64) (Ty.int IntKind.i64))
 (Lv.take L (Ty.pair (Ty.int IntKind.i64) (Ty.int IntKind.i64)) (Prod.fst x) (Lv.llen L (Ty.pair (Ty.int IntKind.i64) (Ty.int IntKind.i64)) (Prod.fst x)))
 (Lv.take L (Ty.pair (Ty.int IntKind.i64) (Ty.int IntKind.i64)) [(Prod.fst x_2, Prod.fst (Prod.snd x_2))] 1)))]
 5 =
 St.mk 29 [(2, V.c (C.ptr 1 0))]
 [(0, Ob.amb),
 (1,
 Ob.box 58
 [C.own 4
 (Lv.llen L (Ty.pair (Ty.int IntKind.i64) (Ty.int IntKind.i64))
 (Lv.app L (Ty.pair (Ty.int IntKind.i64) (Ty.int IntKind.i64))
 (Lv.take L (Ty.pair (Ty.int IntKind.i64) (Ty.int IntKind.i64)) (Prod.fst x) (Lv.llen L (Ty.pair (Ty.int IntKind.i64) (Ty.int IntKind.i64)) (Prod.fst x)))
 (Lv.take L (Ty.pair (Ty.int IntKind.i64) (Ty.int IntKind.i64)) [(Prod.fst x_2, Prod.fst (Prod.snd x_2))] 1)))]),
 (4,
 Ob.row 93 (Ty.pair (Ty.int IntKind.i64) (Ty.int IntKind.i64))
 (Lv.app L (Ty.pair (Ty.int IntKind.i64) (Ty.int IntKind.i64))
 (Lv.take L (Ty.pair (Ty.int IntKind.i64) (Ty.int IntKind.i64)) (Prod.fst x) (Lv.llen L (Ty.pair (Ty.int IntKind.i64) (Ty.int IntKind.i64)) (Prod.fst x)))
 (Lv.take L (Ty.pair (Ty.int IntKind.i64) (Ty.int IntKind.i64)) [(Prod.fst x_2, Prod.fst (Prod.snd x_2))] 1)))]
 5 ∧
 I (Nat.succ x_1)
 (Lv.app L (Ty.pair (Ty.int IntKind.i64) (Ty.int IntKind.i64))
 (Lv.take L (Ty.pair (Ty.int IntKind.i64) (Ty.int IntKind.i64)) (Prod.fst x) (Lv.llen L (Ty.pair (Ty.int IntKind.i64) (Ty.int IntKind.i64)) (Prod.fst x)))
 (Lv.take L (Ty.pair (Ty.int IntKind.i64) (Ty.int IntKind.i64)) [(Prod.fst x_2, Prod.fst (Prod.snd x_2))] 1),
 ())))))
 (VC.all (List (Int × Int) × Unit) fun (x : List (Int × Int) × Unit) =>
 VC.imp (I (Lv.cnt L (Int × Int × Unit) (LexG.coms G s)) x)
 (VC.ok
 ((Lv.take L (Ty.pair (Ty.int IntKind.i64) (Ty.int IntKind.i64)) (Prod.fst x) (Lv.llen L (Ty.pair (Ty.int IntKind.i64) (Ty.int IntKind.i64)) (Prod.fst x)), 0, 0, ()) =
 (Prod.fst (LexG.comments G s), Prod.fst (Prod.snd (LexG.comments G s)), Prod.snd (Prod.snd (LexG.comments G s)), ())))))))))
theorem n48_eq (L : Lv) (F : LexF) (G : LexG) (I : Nat → Ds [.sl Pt] → Prop) (s : ByteArray) : vc2 L F G [56, 78, 103] (D48 (a48 L I)) (S48 G) (s, ()) = n48 L F G I s := by kernel_rfl
theorem n48_go (L : Lv) (F : LexF) (G : LexG) (I : Nat → Ds [.sl Pt] → Prop) (s : ByteArray) (h : VC.holds (n48 L F G I s)) : Holds (vc2 L F G [56, 78, 103] (D48 (a48 L I)) (S48 G) (s, ())) := Holds.of_eq (n48_eq L F G I s) h
def n47 (L : Lv) (F : LexF) (G : LexG) (I : Nat → Ds [.str] → Prop) (s : ByteArray)  : VC :=
 VC.obl True
 (VC.br (Lv.cmp L BinOp.neq (Prod.snd (LexF.chk F s)) 0)
 (VC.ok
 ((ByteArray.mk #[], Prod.fst (LexF.chk F s), Prod.snd (LexF.chk F s), ()) =
 (Prod.fst (LexG.blank G s), Prod.fst (Prod.snd (LexG.blank G s)), Prod.snd (Prod.snd (LexG.blank G s)), ())))
 (VC.obl (LexF.pS F s)
 (VC.obl (St.mk 35 [(1, V.c (C.ptr 1 0))] [(0, Ob.amb), (1, Ob.box 9 [C.str s])] 3 = St.mk 35 [(1, V.c (C.ptr 1 0))] [(0, Ob.amb), (1, Ob.box 9 [C.str s])] 3)
 (VC.obl (I 0 (s, ()))
 (VC.all Bool fun (x : Bool) =>
 VC.br x
 (VC.all (ByteArray × Unit) fun (x : ByteArray × Unit) =>
 VC.all Nat fun (x_1 : Nat) =>
 VC.all (Int × Int × Unit) fun (x_2 : Int × Int × Unit) =>
 VC.imp (Lv.nth L (Int × Int × Unit) (LexG.coms G s) x_1 x_2 ∧ I x_1 x)
 (VC.obl (Lv.le3 L (Lv.cast L 0) (Prod.fst x_2) (Lv.slen L (Prod.fst x)))
 (VC.obl
 (LexG.pRep G (ByteArray.mk (Array.mk [UInt8.ofBitVec (BitVec.ofFin (Fin.mk 32 (Nat.mod_lt 32 (BitVec.ofNat._proof_1 8))))]))
 (Lv.ar L BinOp.sub IntKind.i64 (Prod.fst (Prod.snd x_2)) (Prod.fst x_2)))
 (VC.obl
 (Lv.catOk L (Lv.ext L (Prod.fst x) (Lv.toN L (Lv.cast L 0)) (Lv.toN L (Prod.fst x_2)))
 (LexG.rep G (ByteArray.mk (Array.mk [UInt8.ofBitVec (BitVec.ofFin (Fin.mk 32 (Nat.mod_lt 32 (BitVec.ofNat._proof_1 8))))]))
 (Lv.ar L BinOp.sub IntKind.i64 (Prod.fst (Prod.snd x_2)) (Prod.fst x_2))))
 (VC.obl (Lv.le3 L (Prod.fst (Prod.snd x_2)) (Lv.cast L (Lv.slen L (Prod.fst x))) (Lv.slen L (Prod.fst x)))
 (VC.obl
 (Lv.catOk L
 (Lv.scat L (Lv.ext L (Prod.fst x) (Lv.toN L (Lv.cast L 0)) (Lv.toN L (Prod.fst x_2)))
 (LexG.rep G (ByteArray.mk (Array.mk [UInt8.ofBitVec (BitVec.ofFin (Fin.mk 32 (Nat.mod_lt 32 (BitVec.ofNat._proof_1 8))))]))
 (Lv.ar L BinOp.sub IntKind.i64 (Prod.fst (Prod.snd x_2)) (Prod.fst x_2))))
 (Lv.ext L (Prod.fst x) (Lv.toN L (Prod.fst (Prod.snd x_2))) (Lv.toN L (Lv.cast L (Lv.slen L (Prod.fst x))))))
 (VC.ok
 (St.mk 35 [(1, V.c (C.ptr 1 0))]
 [(0, Ob.amb),
 (1,
 Ob.box 9
 [C.str
 (Lv.scat L
 (Lv.scat L (Lv.ext L (Prod.fst x) (Lv.toN L (Lv.cast L 0)) (Lv.toN L (Prod.fst x_2)))
 (LexG.rep G (ByteArray.mk (Array.mk [UInt8.ofBitVec (BitVec.ofFin (Fin.mk 32 (Nat.mod_lt 32 (BitVec.ofNat._proof_1 8))))]))
 (Lv.ar L BinOp.sub IntKind.i64 (Prod.fst (Prod.snd x_2)) (Prod.fst x_2))))
 (Lv.ext L (Prod.fst x) (Lv.toN L (Prod.fst (Prod.snd x_2))) (Lv.toN L (Lv.cast L (Lv.slen L (Prod.fst x))))))])]
 3 =
 St.mk 35 [(1, V.c (C.ptr 1 0))]
 [(0, Ob.amb),
 (1,
 Ob.box 9
 [C.str
 (Lv.scat L
 (Lv.scat L (Lv.ext L (Prod.fst x) (Lv.toN L (Lv.cast L 0)) (Lv.toN L (Prod.fst x_2)))
 (LexG.rep G (ByteArray.mk (Array.mk [UInt8.ofBitVec (BitVec.ofFin (Fin.mk 32 (Nat.mod_lt 32 (BitVec.ofNat._proof_1 8))))]))
 (Lv.ar L BinOp.sub IntKind.i64 (Prod.fst (Prod.snd x_2)) (Prod.fst x_2))))
 (Lv.ext L (Prod.fst x) (Lv.toN L (Prod.fst (Prod.snd x_2))) (Lv.toN L (Lv.cast L (Lv.slen L (Prod.fst x))))))])]
 3 ∧
 I (Nat.succ x_1)
 (Lv.scat L
 (Lv.scat L (Lv.ext L (Prod.fst x) (Lv.toN L (Lv.cast L 0)) (Lv.toN L (Prod.fst x_2)))
 (LexG.rep G (ByteArray.mk (Array.mk [UInt8.ofBitVec (BitVec.ofFin (Fin.mk 32 (Nat.mod_lt 32 (BitVec.ofNat._proof_1 8))))]))
 (Lv.ar L BinOp.sub IntKind.i64 (Prod.fst (Prod.snd x_2)) (Prod.fst x_2))))
 (Lv.ext L (Prod.fst x) (Lv.toN L (Prod.fst (Prod.snd x_2))) (Lv.toN L (Lv.cast L (Lv.slen L (Prod.fst x))))),
 ())))))))))
 (VC.all (ByteArray × Unit) fun (x : ByteArray × Unit) =>
 VC.imp (I (Lv.cnt L (Int × Int × Unit) (LexG.coms G s)) x)
 (VC.ok ((Prod.fst x, 0, 0, ()) = (Prod.fst (LexG.blank G s), Prod.fst (Prod.snd (LexG.blank G s)), Prod.snd (Prod.snd (LexG.blank G s)), ())))))))))
theorem n47_eq (L : Lv) (F : LexF) (G : LexG) (I : Nat → Ds [.str] → Prop) (s : ByteArray) : vc2 L F G [56, 78, 79, 103] (D47 (a47 L I)) (S47 G) (s, ()) = n47 L F G I s := by kernel_rfl
theorem n47_go (L : Lv) (F : LexF) (G : LexG) (I : Nat → Ds [.str] → Prop) (s : ByteArray) (h : VC.holds (n47 L F G I s)) : Holds (vc2 L F G [56, 78, 79, 103] (D47 (a47 L I)) (S47 G) (s, ())) := Holds.of_eq (n47_eq L F G I s) h
def n49 (L : Lv) (F : LexF) (G : LexG) (I : Ds [.sl Pt, It, It] → Prop) (mu : Ds [.sl Pt, It, It] → Nat) (s : ByteArray)  : VC :=
 VC.obl True
 (VC.br (Lv.cmp L BinOp.neq (Prod.snd (LexF.chk F s)) 0)
 (VC.ok
 (([], Prod.fst (LexF.chk F s), Prod.snd (LexF.chk F s), ()) =
 (Prod.fst (LexG.rComments G s), Prod.fst (Prod.snd (LexG.rComments G s)), Prod.snd (Prod.snd (LexG.rComments G s)), ())))
 (VC.obl
 (St.mk 55 [(0, V.c (C.str s)), (7, V.c (C.own 2 0)), (8, V.c (C.int IntKind.i64 (Int.negSucc 0))), (9, V.c (C.int IntKind.i64 0))]
 [(0, Ob.amb), (2, Ob.row 93 (Ty.pair (Ty.int IntKind.i64) (Ty.int IntKind.i64)) [])] 3 =
 St.mk 55
 [(0, V.c (C.str s)), (7, V.c (C.own 2 (Lv.llen L (Ty.pair (Ty.int IntKind.i64) (Ty.int IntKind.i64)) []))), (8, V.c (C.int IntKind.i64 (Int.negSucc 0))), (9, V.c (C.int IntKind.i64 0))]
 [(0, Ob.amb), (2, Ob.row 93 (Ty.pair (Ty.int IntKind.i64) (Ty.int IntKind.i64)) [])] 3)
 (VC.obl (I ([], Int.negSucc 0, 0, ()))
 (VC.all (List (Int × Int) × Int × Int × Unit) fun (x : List (Int × Int) × Int × Int × Unit) =>
 VC.imp (I x)
 (VC.br (Lv.cmp L BinOp.leq (Prod.fst (Prod.snd (Prod.snd x))) (Lv.cast L (Lv.slen L s)))
 (VC.br (Lv.cmp L BinOp.eql (Prod.fst (Prod.snd (Prod.snd x))) (Lv.cast L (Lv.slen L s)))
 (VC.br (Lv.cmp L BinOp.geq (Prod.fst (Prod.snd x)) 0)
 (VC.obl
 (Lv.room L
 (Lv.add L
 (Lv.llen L (Ty.pair (Ty.int IntKind.i64) (Ty.int IntKind.i64))
 (Lv.take L (Ty.pair (Ty.int IntKind.i64) (Ty.int IntKind.i64)) (Prod.fst x) (Lv.llen L (Ty.pair (Ty.int IntKind.i64) (Ty.int IntKind.i64)) (Prod.fst x))))
 (Lv.llen L (Ty.pair (Ty.int IntKind.i64) (Ty.int IntKind.i64))
 (Lv.take L (Ty.pair (Ty.int IntKind.i64) (Ty.int IntKind.i64)) [(Prod.fst (Prod.snd x), Prod.fst (Prod.snd (Prod.snd x)))] 1)))
 16)
 (VC.ok
 (St.mk 55
 [(0, V.c (C.str s)),
 (7,
 V.c
 (C.own 2
 (Lv.add L
 (Lv.llen L (Ty.pair (Ty.int IntKind.i64) (Ty.int IntKind.i64))
 (Lv.take L (Ty.pair (Ty.int IntKind.i64) (Ty.int IntKind.i64)) (Prod.fst x) (Lv.llen L (Ty.pair (Ty.int IntKind.i64) (Ty.int IntKind.i64)) (Prod.fst x))))
 (Lv.llen L (Ty.pair (Ty.int IntKind.i64) (Ty.int IntKind.i64))
 (Lv.take L (Ty.pair (Ty.int IntKind.i64) (Ty.int IntKind.i64)) [(Prod.fst (Prod.snd x), Prod.fst (Prod.snd (Prod.snd x)))] 1))))),
 (8, V.c (C.int IntKind.i64 (Int.negSucc 0))), (9, V.c (C.int IntKind.i64 (Lv.ar L BinOp.add IntKind.i64 (Prod.fst (Prod.snd (Prod.snd x))) 1)))]
 [(0, Ob.amb),
 (2,
 Ob.row 93 (Ty.pair (Ty.int IntKind.i64) (Ty.int IntKind.i64))
 (Lv.app L (Ty.pair (Ty.int IntKind.i64) (Ty.int IntKind.i64))
 (Lv.take L (Ty.pair (Ty.int IntKind.i64) (Ty.int IntKind.i64)) (Prod.fst x) (Lv.llen L (Ty.pair (Ty.int IntKind.i64) (Ty.int IntKind.i64)) (Prod.fst x)))
 (Lv.take L (Ty.pair (Ty.int IntKind.i64) (Ty.int IntKind.i64)) [(Prod.fst (Prod.snd x), Prod.fst (Prod.snd (Prod.snd x)))] 1)))]
 3 =
 St.mk 55
 [(0, V.c (C.str s)),
 (7,
 V.c
 (C.own 2
 (Lv.llen L (Ty.pair (Ty.int IntKind.i64) (Ty.int IntKind.i64))
 (Lv.app L (Ty.pair (Ty.int IntKind.i64) (Ty.int IntKind.i64))
 (Lv.take L (Ty.pair (Ty.int IntKind.i64) (Ty.int IntKind.i64)) (Prod.fst x) (Lv.llen L (Ty.pair (Ty.int IntKind.i64) (Ty.int IntKind.i64)) (Prod.fst x)))
 (Lv.take L (Ty.pair (Ty.int IntKind.i64) (Ty.int IntKind.i64)) [(Prod.fst (Prod.snd x), Prod.fst (Prod.snd (Prod.snd x)))] 1))))),
 (8, V.c (C.int IntKind.i64 (Int.negSucc 0))), (9, V.c (C.int IntKind.i64 (Lv.ar L BinOp.add IntKind.i64 (Prod.fst (Prod.snd (Prod.snd x))) 1)))]
 [(0, Ob.amb),
 (2,
 Ob.row 93 (Ty.pair (Ty.int IntKind.i64) (Ty.int IntKind.i64))
 (Lv.app L (Ty.pair (Ty.int IntKind.i64) (Ty.int IntKind.i64))
 (Lv.take L (Ty.pair (Ty.int IntKind.i64) (Ty.int IntKind.i64)) (Prod.fst x) (Lv.llen L (Ty.pair (Ty.int IntKind.i64) (Ty.int IntKind.i64)) (Prod.fst x)))
 (Lv.take L (Ty.pair (Ty.int IntKind.i64) (Ty.int IntKind.i64)) [(Prod.fst (Prod.snd x), Prod.fst (Prod.snd (Prod.snd x)))] 1)))]
 3 ∧
 I
 (Lv.app L (Ty.pair (Ty.int IntKind.i64) (Ty.int IntKind.i64))
 (Lv.take L (Ty.pair (Ty.int IntKind.i64) (Ty.int IntKind.i64)) (Prod.fst x) (Lv.llen L (Ty.pair (Ty.int IntKind.i64) (Ty.int IntKind.i64)) (Prod.fst x)))
 (Lv.take L (Ty.pair (Ty.int IntKind.i64) (Ty.int IntKind.i64)) [(Prod.fst (Prod.snd x), Prod.fst (Prod.snd (Prod.snd x)))] 1),
 Int.negSucc 0, Lv.ar L BinOp.add IntKind.i64 (Prod.fst (Prod.snd (Prod.snd x))) 1, ()) ∧
 mu
 (Lv.app L (Ty.pair (Ty.int IntKind.i64) (Ty.int IntKind.i64))
 (Lv.take L (Ty.pair (Ty.int IntKind.i64) (Ty.int IntKind.i64)) (Prod.fst x) (Lv.llen L (Ty.pair (Ty.int IntKind.i64) (Ty.int IntKind.i64)) (Prod.fst x)))
 (Lv.take L (Ty.pair (Ty.int IntKind.i64) (Ty.int IntKind.i64)) [(Prod.fst (Prod.snd x), Prod.fst (Prod.snd (Prod.snd x)))] 1),
 Int.negSucc 0, Lv.ar L BinOp.add IntKind.i64 (Prod.fst (Prod.snd (Prod.snd x))) 1, ()) <
 mu x)))
 (VC.ok
 (St.mk 55
 [(0, V.c (C.str s)), (7, V.c (C.own 2 (Lv.llen L (Ty.pair (Ty.int IntKind.i64) (Ty.int IntKind.i64)) (Prod.fst x)))), (8, V.c (C.int IntKind.i64 (Int.negSucc 0))),
 (9, V.c (C.int IntKind.i64 (Lv.ar L BinOp.add IntKind.i64 (Prod.fst (Prod.snd (Prod.snd x))) 1)))]
 [(0, Ob.amb), (2, Ob.row 93 (Ty.pair (Ty.int IntKind.i64) (Ty.int IntKind.i64)) (Prod.fst x))] 3 =
 St.mk 55
 [(0, V.c (C.str s)), (7, V.c (C.own 2 (Lv.llen L (Ty.pair (Ty.int IntKind.i64) (Ty.int IntKind.i64)) (Prod.fst x)))), (8, V.c (C.int IntKind.i64 (Int.negSucc 0))),
 (9, V.c (C.int IntKind.i64 (Lv.ar L BinOp.add IntKind.i64 (Prod.fst (Prod.snd (Prod.snd x))) 1)))]
 [(0, Ob.amb), (2, Ob.row 93 (Ty.pair (Ty.int IntKind.i64) (Ty.int IntKind.i64)) (Prod.fst x))] 3 ∧
 I (Prod.fst x, Int.negSucc 0, Lv.ar L BinOp.add IntKind.i64 (Prod.fst (Prod.snd (Prod.snd x))) 1, ()) ∧
 mu (Prod.fst x, Int.negSucc 0, Lv.ar L BinOp.add IntKind.i64 (Prod.fst (Prod.snd (Prod.snd x))) 1, ()) < mu x)))
 (VC.obl (Lv.inR L (Prod.fst (Prod.snd (Prod.snd x))) (Lv.slen L s))
 (VC.br (Lv.cmp L BinOp.eql (Lv.byte L s (Prod.fst (Prod.snd (Prod.snd x)))) 10)
 (VC.br (Lv.cmp L BinOp.geq (Prod.fst (Prod.snd x)) 0)
 (VC.obl
 (Lv.room L
 (Lv.add L
 (Lv.llen L (Ty.pair (Ty.int IntKind.i64) (Ty.int IntKind.i64))
 (Lv.take L (Ty.pair (Ty.int IntKind.i64) (Ty.int IntKind.i64)) (Prod.fst x) (Lv.llen L (Ty.pair (Ty.int IntKind.i64) (Ty.int IntKind.i64)) (Prod.fst x))))
 (Lv.llen L (Ty.pair (Ty.int IntKind.i64) (Ty.int IntKind.i64))
 (Lv.take L (Ty.pair (Ty.int IntKind.i64) (Ty.int IntKind.i64)) [(Prod.fst (Prod.snd x), Prod.fst (Prod.snd (Prod.snd x)))] 1)))
 16)
 (VC.ok
 (St.mk 55
 [(0, V.c (C.str s)),
 (7,
 V.c
 (C.own 2
 (Lv.add L
 (Lv.llen L (Ty.pair (Ty.int IntKind.i64) (Ty.int IntKind.i64))
 (Lv.take L (Ty.pair (Ty.int IntKind.i64) (Ty.int IntKind.i64)) (Prod.fst x) (Lv.llen L (Ty.pair (Ty.int IntKind.i64) (Ty.int IntKind.i64)) (Prod.fst x))))
 (Lv.llen L (Ty.pair (Ty.int IntKind.i64) (Ty.int IntKind.i64))
 (Lv.take L (Ty.pair (Ty.int IntKind.i64) (Ty.int IntKind.i64)) [(Prod.fst (Prod.snd x), Prod.fst (Prod.snd (Prod.snd x)))] 1))))),
 (8, V.c (C.int IntKind.i64 (Int.negSucc 0))), (9, V.c (C.int IntKind.i64 (Lv.ar L BinOp.add IntKind.i64 (Prod.fst (Prod.snd (Prod.snd x))) 1)))]
 [(0, Ob.amb),
 (2,
 Ob.row 93 (Ty.pair (Ty.int IntKind.i64) (Ty.int IntKind.i64))
 (Lv.app L (Ty.pair (Ty.int IntKind.i64) (Ty.int IntKind.i64))
 (Lv.take L (Ty.pair (Ty.int IntKind.i64) (Ty.int IntKind.i64)) (Prod.fst x) (Lv.llen L (Ty.pair (Ty.int IntKind.i64) (Ty.int IntKind.i64)) (Prod.fst x)))
 (Lv.take L (Ty.pair (Ty.int IntKind.i64) (Ty.int IntKind.i64)) [(Prod.fst (Prod.snd x), Prod.fst (Prod.snd (Prod.snd x)))] 1)))]
 3 =
 St.mk 55
 [(0, V.c (C.str s)),
 (7,
 V.c
 (C.own 2
 (Lv.llen L (Ty.pair (Ty.int IntKind.i64) (Ty.int IntKind.i64))
 (Lv.app L (Ty.pair (Ty.int IntKind.i64) (Ty.int IntKind.i64))
 (Lv.take L (Ty.pair (Ty.int IntKind.i64) (Ty.int IntKind.i64)) (Prod.fst x) (Lv.llen L (Ty.pair (Ty.int IntKind.i64) (Ty.int IntKind.i64)) (Prod.fst x)))
 (Lv.take L (Ty.pair (Ty.int IntKind.i64) (Ty.int IntKind.i64)) [(Prod.fst (Prod.snd x), Prod.fst (Prod.snd (Prod.snd x)))] 1))))),
 (8, V.c (C.int IntKind.i64 (Int.negSucc 0))), (9, V.c (C.int IntKind.i64 (Lv.ar L BinOp.add IntKind.i64 (Prod.fst (Prod.snd (Prod.snd x))) 1)))]
 [(0, Ob.amb),
 (2,
 Ob.row 93 (Ty.pair (Ty.int IntKind.i64) (Ty.int IntKind.i64))
 (Lv.app L (Ty.pair (Ty.int IntKind.i64) (Ty.int IntKind.i64))
 (Lv.take L (Ty.pair (Ty.int IntKind.i64) (Ty.int IntKind.i64)) (Prod.fst x) (Lv.llen L (Ty.pair (Ty.int IntKind.i64) (Ty.int IntKind.i64)) (Prod.fst x)))
 (Lv.take L (Ty.pair (Ty.int IntKind.i64) (Ty.int IntKind.i64)) [(Prod.fst (Prod.snd x), Prod.fst (Prod.snd (Prod.snd x)))] 1)))]
 3 ∧
 I
 (Lv.app L (Ty.pair (Ty.int IntKind.i64) (Ty.int IntKind.i64))
 (Lv.take L (Ty.pair (Ty.int IntKind.i64) (Ty.int IntKind.i64)) (Prod.fst x) (Lv.llen L (Ty.pair (Ty.int IntKind.i64) (Ty.int IntKind.i64)) (Prod.fst x)))
 (Lv.take L (Ty.pair (Ty.int IntKind.i64) (Ty.int IntKind.i64)) [(Prod.fst (Prod.snd x), Prod.fst (Prod.snd (Prod.snd x)))] 1),
 Int.negSucc 0, Lv.ar L BinOp.add IntKind.i64 (Prod.fst (Prod.snd (Prod.snd x))) 1, ()) ∧
 mu
 (Lv.app L (Ty.pair (Ty.int IntKind.i64) (Ty.int IntKind.i64))
 (Lv.take L (Ty.pair (Ty.int IntKind.i64) (Ty.int IntKind.i64)) (Prod.fst x) (Lv.llen L (Ty.pair (Ty.int IntKind.i64) (Ty.int IntKind.i64)) (Prod.fst x)))
 (Lv.take L (Ty.pair (Ty.int IntKind.i64) (Ty.int IntKind.i64)) [(Prod.fst (Prod.snd x), Prod.fst (Prod.snd (Prod.snd x)))] 1),
 Int.negSucc 0, Lv.ar L BinOp.add IntKind.i64 (Prod.fst (Prod.snd (Prod.snd x))) 1, ()) <
 mu x)))
 (VC.ok
 (St.mk 55
 [(0, V.c (C.str s)), (7, V.c (C.own 2 (Lv.llen L (Ty.pair (Ty.int IntKind.i64) (Ty.int IntKind.i64)) (Prod.fst x)))), (8, V.c (C.int IntKind.i64 (Int.negSucc 0))),
 (9, V.c (C.int IntKind.i64 (Lv.ar L BinOp.add IntKind.i64 (Prod.fst (Prod.snd (Prod.snd x))) 1)))]
 [(0, Ob.amb), (2, Ob.row 93 (Ty.pair (Ty.int IntKind.i64) (Ty.int IntKind.i64)) (Prod.fst x))] 3 =
 St.mk 55
 [(0, V.c (C.str s)), (7, V.c (C.own 2 (Lv.llen L (Ty.pair (Ty.int IntKind.i64) (Ty.int IntKind.i64)) (Prod.fst x)))), (8, V.c (C.int IntKind.i64 (Int.negSucc 0))),
 (9, V.c (C.int IntKind.i64 (Lv.ar L BinOp.add IntKind.i64 (Prod.fst (Prod.snd (Prod.snd x))) 1)))]
 [(0, Ob.amb), (2, Ob.row 93 (Ty.pair (Ty.int IntKind.i64) (Ty.int IntKind.i64)) (Prod.fst x))] 3 ∧
 I (Prod.fst x, Int.negSucc 0, Lv.ar L BinOp.add IntKind.i64 (Prod.fst (Prod.snd (Prod.snd x))) 1, ()) ∧
 mu (Prod.fst x, Int.negSucc 0, Lv.ar L BinOp.add IntKind.i64 (Prod.fst (Prod.snd (Prod.snd x))) 1, ()) < mu x)))
 (VC.obl (Lv.inR L (Prod.fst (Prod.snd (Prod.snd x))) (Lv.slen L s))
 (VC.br (Lv.cmp L BinOp.eql (Lv.byte L s (Prod.fst (Prod.snd (Prod.snd x)))) 37)
 (VC.br (Lv.cmp L BinOp.lss (Prod.fst (Prod.snd x)) 0)
 (VC.ok
 (St.mk 55
 [(0, V.c (C.str s)), (7, V.c (C.own 2 (Lv.llen L (Ty.pair (Ty.int IntKind.i64) (Ty.int IntKind.i64)) (Prod.fst x)))),
 (8, V.c (C.int IntKind.i64 (Prod.fst (Prod.snd (Prod.snd x))))), (9, V.c (C.int IntKind.i64 (Lv.ar L BinOp.add IntKind.i64 (Prod.fst (Prod.snd (Prod.snd x))) 1)))]
 [(0, Ob.amb), (2, Ob.row 93 (Ty.pair (Ty.int IntKind.i64) (Ty.int IntKind.i64)) (Prod.fst x))] 3 =
 St.mk 55
 [(0, V.c (C.str s)), (7, V.c (C.own 2 (Lv.llen L (Ty.pair (Ty.int IntKind.i64) (Ty.int IntKind.i64)) (Prod.fst x)))),
 (8, V.c (C.int IntKind.i64 (Prod.fst (Prod.snd (Prod.snd x))))), (9, V.c (C.int IntKind.i64 (Lv.ar L BinOp.add IntKind.i64 (Prod.fst (Prod.snd (Prod.snd x))) 1)))]
 [(0, Ob.amb), (2, Ob.row 93 (Ty.pair (Ty.int IntKind.i64) (Ty.int IntKind.i64)) (Prod.fst x))] 3 ∧
 I (Prod.fst x, Prod.fst (Prod.snd (Prod.snd x)), Lv.ar L BinOp.add IntKind.i64 (Prod.fst (Prod.snd (Prod.snd x))) 1, ()) ∧
 mu (Prod.fst x, Prod.fst (Prod.snd (Prod.snd x)), Lv.ar L BinOp.add IntKind.i64 (Prod.fst (Prod.snd (Prod.snd x))) 1, ()) < mu x))
 (VC.ok
 (St.mk 55
 [(0, V.c (C.str s)), (7, V.c (C.own 2 (Lv.llen L (Ty.pair (Ty.int IntKind.i64) (Ty.int IntKind.i64)) (Prod.fst x)))),
 (8, V.c (C.int IntKind.i64 (Prod.fst (Prod.snd x)))), (9, V.c (C.int IntKind.i64 (Lv.ar L BinOp.add IntKind.i64 (Prod.fst (Prod.snd (Prod.snd x))) 1)))]
 [(0, Ob.amb), (2, Ob.row 93 (Ty.pair (Ty.int IntKind.i64) (Ty.int IntKind.i64)) (Prod.fst x))] 3 =
 St.mk 55
 [(0, V.c (C.str s)), (7, V.c (C.own 2 (Lv.llen L (Ty.pair (Ty.int IntKind.i64) (Ty.int IntKind.i64)) (Prod.fst x)))),
 (8, V.c (C.int IntKind.i64 (Prod.fst (Prod.snd x)))), (9, V.c (C.int IntKind.i64 (Lv.ar L BinOp.add IntKind.i64 (Prod.fst (Prod.snd (Prod.snd x))) 1)))]
 [(0, Ob.amb), (2, Ob.row 93 (Ty.pair (Ty.int IntKind.i64) (Ty.int IntKind.i64)) (Prod.fst x))] 3 ∧
 I (Prod.fst x, Prod.fst (Prod.snd x), Lv.ar L BinOp.add IntKind.i64 (Prod.fst (Prod.snd (Prod.snd x))) 1, ()) ∧
 mu (Prod.fst x, Prod.fst (Prod.snd x), Lv.ar L BinOp.add IntKind.i64 (Prod.fst (Prod.snd (Prod.snd x))) 1, ()) < mu x)))
 (VC.ok
 (St.mk 55
 [(0, V.c (C.str s)), (7, V.c (C.own 2 (Lv.llen L (Ty.pair (Ty.int IntKind.i64) (Ty.int IntKind.i64)) (Prod.fst x)))),
 (8, V.c (C.int IntKind.i64 (Prod.fst (Prod.snd x)))), (9, V.c (C.int IntKind.i64 (Lv.ar L BinOp.add IntKind.i64 (Prod.fst (Prod.snd (Prod.snd x))) 1)))]
 [(0, Ob.amb), (2, Ob.row 93 (Ty.pair (Ty.int IntKind.i64) (Ty.int IntKind.i64)) (Prod.fst x))] 3 =
 St.mk 55
 [(0, V.c (C.str s)), (7, V.c (C.own 2 (Lv.llen L (Ty.pair (Ty.int IntKind.i64) (Ty.int IntKind.i64)) (Prod.fst x)))),
 (8, V.c (C.int IntKind.i64 (Prod.fst (Prod.snd x)))), (9, V.c (C.int IntKind.i64 (Lv.ar L BinOp.add IntKind.i64 (Prod.fst (Prod.snd (Prod.snd x))) 1)))]
 [(0, Ob.amb), (2, Ob.row 93 (Ty.pair (Ty.int IntKind.i64) (Ty.int IntKind.i64)) (Prod.fst x))] 3 ∧
 I (Prod.fst x, Prod.fst (Prod.snd x), Lv.ar L BinOp.add IntKind.i64 (Prod.fst (Prod.snd (Prod.snd x))) 1, ()) ∧
 mu (Prod.fst x, Prod.fst (Prod.snd x), Lv.ar L BinOp.add IntKind.i64 (Prod.fst (Prod.snd (Prod.snd x))) 1, ()) < mu x)))))))
 (VC.ok
 ((Lv.take L (Ty.pair (Ty.int IntKind.i64) (Ty.int IntKind.i64)) (Prod.fst x) (Lv.llen L (Ty.pair (Ty.int IntKind.i64) (Ty.int IntKind.i64)) (Prod.fst x)), 0, 0, ()) =
 (Prod.fst (LexG.rComments G s), Prod.fst (Prod.snd (LexG.rComments G s)), Prod.snd (Prod.snd (LexG.rComments G s)), ()))))))))
theorem n49_eq (L : Lv) (F : LexF) (G : LexG) (I : Ds [.sl Pt, It, It] → Prop) (mu : Ds [.sl Pt, It, It] → Nat) (s : ByteArray) : vc2 L F G [59] (D49 (a49 L I mu)) (S49 G) (s, ()) = n49 L F G I mu s := by kernel_rfl
theorem n49_go (L : Lv) (F : LexF) (G : LexG) (I : Ds [.sl Pt, It, It] → Prop) (mu : Ds [.sl Pt, It, It] → Nat) (s : ByteArray) (h : VC.holds (n49 L F G I mu s)) : Holds (vc2 L F G [59] (D49 (a49 L I mu)) (S49 G) (s, ())) := Holds.of_eq (n49_eq L F G I mu s) h
def n50 (L : Lv) (F : LexF) (G : LexG) (I : Ds [.str, It] → Prop) (mu : Ds [.str, It] → Nat) (J : Int → Ds [.str, It] → Prop) (nu : Int → Ds [.str, It] → Nat) (s : ByteArray)  : VC :=
 VC.obl True
 (VC.br (Lv.cmp L BinOp.neq (Prod.snd (Prod.snd (LexG.rComments G s))) 0)
 (VC.ok
 ((ByteArray.mk #[], Prod.fst (Prod.snd (LexG.rComments G s)), Prod.snd (Prod.snd (LexG.rComments G s)), ()) =
 (Prod.fst (LexG.rBlank G s), Prod.fst (Prod.snd (LexG.rBlank G s)), Prod.snd (Prod.snd (LexG.rBlank G s)), ())))
 (VC.obl
 (St.mk 59
 [(0, V.c (C.str s)), (5, V.c (C.sl (Ty.pair (Ty.int IntKind.i64) (Ty.int IntKind.i64)) (Prod.fst (LexG.rComments G s)))), (8, V.c (C.str (ByteArray.mk #[]))), (9, V.c (C.int IntKind.i64 0))]
 [(0, Ob.amb)] 1 =
 St.mk 59
 [(0, V.c (C.str s)), (5, V.c (C.sl (Ty.pair (Ty.int IntKind.i64) (Ty.int IntKind.i64)) (Prod.fst (LexG.rComments G s)))), (8, V.c (C.str (ByteArray.mk (Array.mk [])))),
 (9, V.c (C.int IntKind.i64 0))]
 [(0, Ob.amb)] 1)
 (VC.obl (I (ByteArray.mk (Array.mk []), 0, ()))
 (VC.all (ByteArray × Int × Unit) fun (x : ByteArray × Int × Unit) =>
 VC.imp (I x)
 (VC.br (Lv.cmp L BinOp.lss (Prod.fst (Prod.snd x)) (Lv.cast L (Lv.slen L s)))
 (VC.obl (Lv.le3 L (Prod.fst (Prod.snd x)) (Lv.ar L BinOp.add IntKind.i64 (Prod.fst (Prod.snd x)) 1) (Lv.slen L s))
 (VC.obl
 (St.mk 59
 [(0, V.c (C.str s)), (5, V.c (C.sl (Ty.pair (Ty.int IntKind.i64) (Ty.int IntKind.i64)) (Prod.fst (LexG.rComments G s)))), (8, V.c (C.str (Prod.fst x))),
 (9, V.c (C.int IntKind.i64 (Prod.fst (Prod.snd x)))),
 (10, V.c (C.str (Lv.ext L s (Lv.toN L (Prod.fst (Prod.snd x))) (Lv.toN L (Lv.ar L BinOp.add IntKind.i64 (Prod.fst (Prod.snd x)) 1))))), (11, V.c (C.int IntKind.i64 0))]
 [(0, Ob.amb)] 1 =
 St.mk 59
 [(0, V.c (C.str s)), (5, V.c (C.sl (Ty.pair (Ty.int IntKind.i64) (Ty.int IntKind.i64)) (Prod.fst (LexG.rComments G s)))), (8, V.c (C.str (Prod.fst x))),
 (9, V.c (C.int IntKind.i64 (Prod.fst (Prod.snd x)))),
 (10, V.c (C.str (Lv.ext L s (Lv.toN L (Prod.fst (Prod.snd x))) (Lv.toN L (Lv.ar L BinOp.add IntKind.i64 (Prod.fst (Prod.snd x)) 1))))), (11, V.c (C.int IntKind.i64 0))]
 [(0, Ob.amb)] 1)
 (VC.obl (J (Prod.fst (Prod.snd x)) (Lv.ext L s (Lv.toN L (Prod.fst (Prod.snd x))) (Lv.toN L (Lv.ar L BinOp.add IntKind.i64 (Prod.fst (Prod.snd x)) 1)), 0, ()))
 (VC.all (ByteArray × Int × Unit) fun (x_1 : ByteArray × Int × Unit) =>
 VC.imp (J (Prod.fst (Prod.snd x)) x_1)
 (VC.br (Lv.cmp L BinOp.lss (Prod.fst (Prod.snd x_1)) (Lv.cast L (Lv.llen L (Ty.pair (Ty.int IntKind.i64) (Ty.int IntKind.i64)) (Prod.fst (LexG.rComments G s)))))
 (VC.obl (Lv.inR L (Prod.fst (Prod.snd x_1)) (Lv.llen L (Ty.pair (Ty.int IntKind.i64) (Ty.int IntKind.i64)) (Prod.fst (LexG.rComments G s))))
 (VC.br
 (Lv.cmp L BinOp.leq (Prod.fst (Lv.get L (Ty.pair (Ty.int IntKind.i64) (Ty.int IntKind.i64)) (Prod.fst (LexG.rComments G s)) (Lv.toN L (Prod.fst (Prod.snd x_1)))))
 (Prod.fst (Prod.snd x)))
 (VC.obl (Lv.inR L (Prod.fst (Prod.snd x_1)) (Lv.llen L (Ty.pair (Ty.int IntKind.i64) (Ty.int IntKind.i64)) (Prod.fst (LexG.rComments G s))))
 (VC.br
 (Lv.cmp L BinOp.lss (Prod.fst (Prod.snd x))
 (Prod.snd (Lv.get L (Ty.pair (Ty.int IntKind.i64) (Ty.int IntKind.i64)) (Prod.fst (LexG.rComments G s)) (Lv.toN L (Prod.fst (Prod.snd x_1))))))
 (VC.ok
 (St.mk 59
 [(0, V.c (C.str s)), (5, V.c (C.sl (Ty.pair (Ty.int IntKind.i64) (Ty.int IntKind.i64)) (Prod.fst (LexG.rComments G s)))), (8, V.c (C.str (Prod.fst x))),
 (9, V.c (C.int IntKind.i64 (Prod.fst (Prod.snd x)))), (10, V.c (C.str (ByteArray.mk #[32]))),
 (11, V.c (C.int IntKind.i64 (Lv.ar L BinOp.add IntKind.i64 (Prod.fst (Prod.snd x_1)) 1)))]
 [(0, Ob.amb)] 1 =
 St.mk 59
 [(0, V.c (C.str s)), (5, V.c (C.sl (Ty.pair (Ty.int IntKind.i64) (Ty.int IntKind.i64)) (Prod.fst (LexG.rComments G s)))), (8, V.c (C.str (Prod.fst x))),
 (9, V.c (C.int IntKind.i64 (Prod.fst (Prod.snd x)))),
 (10, V.c (C.str (ByteArray.mk (Array.mk [UInt8.ofBitVec (BitVec.ofFin (Fin.mk 32 (Nat.mod_lt 32 (BitVec.ofNat._proof_1 8))))])))),
 (11, V.c (C.int IntKind.i64 (Lv.ar L BinOp.add IntKind.i64 (Prod.fst (Prod.snd x_1)) 1)))]
 [(0, Ob.amb)] 1 ∧
 J (Prod.fst (Prod.snd x))
 (ByteArray.mk (Array.mk [UInt8.ofBitVec (BitVec.ofFin (Fin.mk 32 (Nat.mod_lt 32 (BitVec.ofNat._proof_1 8))))]),
 Lv.ar L BinOp.add IntKind.i64 (Prod.fst (Prod.snd x_1)) 1, ()) ∧
 nu (Prod.fst (Prod.snd x))
 (ByteArray.mk (Array.mk [UInt8.ofBitVec (BitVec.ofFin (Fin.mk 32 (Nat.mod_lt 32 (BitVec.ofNat._proof_1 8))))]),
 Lv.ar L BinOp.add IntKind.i64 (Prod.fst (Prod.snd x_1)) 1, ()) <
 nu (Prod.fst (Prod.snd x)) x_1))
 (VC.ok
 (St.mk 59
 [(0, V.c (C.str s)), (5, V.c (C.sl (Ty.pair (Ty.int IntKind.i64) (Ty.int IntKind.i64)) (Prod.fst (LexG.rComments G s)))), (8, V.c (C.str (Prod.fst x))),
 (9, V.c (C.int IntKind.i64 (Prod.fst (Prod.snd x)))), (10, V.c (C.str (Prod.fst x_1))),
 (11, V.c (C.int IntKind.i64 (Lv.ar L BinOp.add IntKind.i64 (Prod.fst (Prod.snd x_1)) 1)))]
 [(0, Ob.amb)] 1 =
 St.mk 59
 [(0, V.c (C.str s)), (5, V.c (C.sl (Ty.pair (Ty.int IntKind.i64) (Ty.int IntKind.i64)) (Prod.fst (LexG.rComments G s)))), (8, V.c (C.str (Prod.fst x))),
 (9, V.c (C.int IntKind.i64 (Prod.fst (Prod.snd x)))), (10, V.c (C.str (Prod.fst x_1))),
 (11, V.c (C.int IntKind.i64 (Lv.ar L BinOp.add IntKind.i64 (Prod.fst (Prod.snd x_1)) 1)))]
 [(0, Ob.amb)] 1 ∧
 J (Prod.fst (Prod.snd x)) (Prod.fst x_1, Lv.ar L BinOp.add IntKind.i64 (Prod.fst (Prod.snd x_1)) 1, ()) ∧
 nu (Prod.fst (Prod.snd x)) (Prod.fst x_1, Lv.ar L BinOp.add IntKind.i64 (Prod.fst (Prod.snd x_1)) 1, ()) < nu (Prod.fst (Prod.snd x)) x_1))))
 (VC.ok
 (St.mk 59
 [(0, V.c (C.str s)), (5, V.c (C.sl (Ty.pair (Ty.int IntKind.i64) (Ty.int IntKind.i64)) (Prod.fst (LexG.rComments G s)))), (8, V.c (C.str (Prod.fst x))),
 (9, V.c (C.int IntKind.i64 (Prod.fst (Prod.snd x)))), (10, V.c (C.str (Prod.fst x_1))),
 (11, V.c (C.int IntKind.i64 (Lv.ar L BinOp.add IntKind.i64 (Prod.fst (Prod.snd x_1)) 1)))]
 [(0, Ob.amb)] 1 =
 St.mk 59
 [(0, V.c (C.str s)), (5, V.c (C.sl (Ty.pair (Ty.int IntKind.i64) (Ty.int IntKind.i64)) (Prod.fst (LexG.rComments G s)))), (8, V.c (C.str (Prod.fst x))),
 (9, V.c (C.int IntKind.i64 (Prod.fst (Prod.snd x)))), (10, V.c (C.str (Prod.fst x_1))),
 (11, V.c (C.int IntKind.i64 (Lv.ar L BinOp.add IntKind.i64 (Prod.fst (Prod.snd x_1)) 1)))]
 [(0, Ob.amb)] 1 ∧
 J (Prod.fst (Prod.snd x)) (Prod.fst x_1, Lv.ar L BinOp.add IntKind.i64 (Prod.fst (Prod.snd x_1)) 1, ()) ∧
 nu (Prod.fst (Prod.snd x)) (Prod.fst x_1, Lv.ar L BinOp.add IntKind.i64 (Prod.fst (Prod.snd x_1)) 1, ()) < nu (Prod.fst (Prod.snd x)) x_1))))
 (VC.obl (Lv.catOk L (Prod.fst x) (Prod.fst x_1))
 (VC.ok
 (St.mk 59
 [(0, V.c (C.str s)), (5, V.c (C.sl (Ty.pair (Ty.int IntKind.i64) (Ty.int IntKind.i64)) (Prod.fst (LexG.rComments G s)))),
 (8, V.c (C.str (Lv.scat L (Prod.fst x) (Prod.fst x_1)))), (9, V.c (C.int IntKind.i64 (Lv.ar L BinOp.add IntKind.i64 (Prod.fst (Prod.snd x)) 1)))]
 [(0, Ob.amb)] 1 =
 St.mk 59
 [(0, V.c (C.str s)), (5, V.c (C.sl (Ty.pair (Ty.int IntKind.i64) (Ty.int IntKind.i64)) (Prod.fst (LexG.rComments G s)))),
 (8, V.c (C.str (Lv.scat L (Prod.fst x) (Prod.fst x_1)))), (9, V.c (C.int IntKind.i64 (Lv.ar L BinOp.add IntKind.i64 (Prod.fst (Prod.snd x)) 1)))]
 [(0, Ob.amb)] 1 ∧
 I (Lv.scat L (Prod.fst x) (Prod.fst x_1), Lv.ar L BinOp.add IntKind.i64 (Prod.fst (Prod.snd x)) 1, ()) ∧
 mu (Lv.scat L (Prod.fst x) (Prod.fst x_1), Lv.ar L BinOp.add IntKind.i64 (Prod.fst (Prod.snd x)) 1, ()) < mu x))))))))
 (VC.ok ((Prod.fst x, 0, 0, ()) = (Prod.fst (LexG.rBlank G s), Prod.fst (Prod.snd (LexG.rBlank G s)), Prod.snd (Prod.snd (LexG.rBlank G s)), ()))))))))
theorem n50_eq (L : Lv) (F : LexF) (G : LexG) (I : Ds [.str, It] → Prop) (mu : Ds [.str, It] → Nat) (J : Int → Ds [.str, It] → Prop) (nu : Int → Ds [.str, It] → Nat) (s : ByteArray) : vc2 L F G [49] (D50 (a50 L I mu J nu)) (S50 G) (s, ()) = n50 L F G I mu J nu s := by kernel_rfl
theorem n50_go (L : Lv) (F : LexF) (G : LexG) (I : Ds [.str, It] → Prop) (mu : Ds [.str, It] → Nat) (J : Int → Ds [.str, It] → Prop) (nu : Int → Ds [.str, It] → Nat) (s : ByteArray) (h : VC.holds (n50 L F G I mu J nu s)) : Holds (vc2 L F G [49] (D50 (a50 L I mu J nu)) (S50 G) (s, ())) := Holds.of_eq (n50_eq L F G I mu J nu s) h
def n51 (L : Lv) (F : LexF) (G : LexG) (I : Ds [It] → Prop) (mu : Ds [It] → Nat) (a b : List (Int × Int))  : VC :=
 VC.br (Lv.cmp L BinOp.neq (Lv.cast L (Lv.llen L (Ty.pair (Ty.int IntKind.i64) (Ty.int IntKind.i64)) a)) (Lv.cast L (Lv.llen L (Ty.pair (Ty.int IntKind.i64) (Ty.int IntKind.i64)) b)))
 (VC.ok ((false, ()) = (LexG.same G a b, ())))
 (VC.obl
 (St.mk 26 [(0, V.c (C.sl (Ty.pair (Ty.int IntKind.i64) (Ty.int IntKind.i64)) a)), (1, V.c (C.sl (Ty.pair (Ty.int IntKind.i64) (Ty.int IntKind.i64)) b)), (5, V.c (C.int IntKind.i64 0))]
 [(0, Ob.amb)] 1 =
 St.mk 26 [(0, V.c (C.sl (Ty.pair (Ty.int IntKind.i64) (Ty.int IntKind.i64)) a)), (1, V.c (C.sl (Ty.pair (Ty.int IntKind.i64) (Ty.int IntKind.i64)) b)), (5, V.c (C.int IntKind.i64 0))]
 [(0, Ob.amb)] 1)
 (VC.obl (I (0, ()))
 (VC.all (Int × Unit) fun (x : Int × Unit) =>
 VC.imp (I x)
 (VC.br (Lv.cmp L BinOp.lss (Prod.fst x) (Lv.cast L (Lv.llen L (Ty.pair (Ty.int IntKind.i64) (Ty.int IntKind.i64)) a)))
 (VC.obl (Lv.inR L (Prod.fst x) (Lv.llen L (Ty.pair (Ty.int IntKind.i64) (Ty.int IntKind.i64)) a))
 (VC.obl (Lv.inR L (Prod.fst x) (Lv.llen L (Ty.pair (Ty.int IntKind.i64) (Ty.int IntKind.i64)) b))
 (VC.br
 (Lv.bnot L
 (Lv.band L
 (Lv.cmp L BinOp.eql (Prod.fst (Lv.get L (Ty.pair (Ty.int IntKind.i64) (Ty.int IntKind.i64)) a (Lv.toN L (Prod.fst x))))
 (Prod.fst (Lv.get L (Ty.pair (Ty.int IntKind.i64) (Ty.int IntKind.i64)) b (Lv.toN L (Prod.fst x)))))
 (Lv.band L
 (Lv.cmp L BinOp.eql (Prod.snd (Lv.get L (Ty.pair (Ty.int IntKind.i64) (Ty.int IntKind.i64)) a (Lv.toN L (Prod.fst x))))
 (Prod.snd (Lv.get L (Ty.pair (Ty.int IntKind.i64) (Ty.int IntKind.i64)) b (Lv.toN L (Prod.fst x)))))
 true)))
 (VC.ok ((false, ()) = (LexG.same G a b, ())))
 (VC.ok
 (St.mk 26
 [(0, V.c (C.sl (Ty.pair (Ty.int IntKind.i64) (Ty.int IntKind.i64)) a)), (1, V.c (C.sl (Ty.pair (Ty.int IntKind.i64) (Ty.int IntKind.i64)) b)),
 (5, V.c (C.int IntKind.i64 (Lv.ar L BinOp.add IntKind.i64 (Prod.fst x) 1)))]
 [(0, Ob.amb)] 1 =
 St.mk 26
 [(0, V.c (C.sl (Ty.pair (Ty.int IntKind.i64) (Ty.int IntKind.i64)) a)), (1, V.c (C.sl (Ty.pair (Ty.int IntKind.i64) (Ty.int IntKind.i64)) b)),
 (5, V.c (C.int IntKind.i64 (Lv.ar L BinOp.add IntKind.i64 (Prod.fst x) 1)))]
 [(0, Ob.amb)] 1 ∧
 I (Lv.ar L BinOp.add IntKind.i64 (Prod.fst x) 1, ()) ∧ mu (Lv.ar L BinOp.add IntKind.i64 (Prod.fst x) 1, ()) < mu x)))))
 (VC.ok ((true, ()) = (LexG.same G a b, ())))))))
theorem n51_eq (L : Lv) (F : LexF) (G : LexG) (I : Ds [It] → Prop) (mu : Ds [It] → Nat) (a b : List (Int × Int)) : vc2 L F G [] (D51 (a51 L I mu)) (S51 G) (a, b, ()) = n51 L F G I mu a b := by kernel_rfl
theorem n51_go (L : Lv) (F : LexF) (G : LexG) (I : Ds [It] → Prop) (mu : Ds [It] → Nat) (a b : List (Int × Int)) (h : VC.holds (n51 L F G I mu a b)) : Holds (vc2 L F G [] (D51 (a51 L I mu)) (S51 G) (a, b, ())) := Holds.of_eq (n51_eq L F G I mu a b) h
def n18 (L : Lv) (F : LexF) (G : LexG) (s : ByteArray)  : VC :=
 VC.obl True
 (VC.br (LexF.short F s)
 (VC.obl True
 (VC.obl True
 (VC.obl True
 (VC.obl True
 (VC.obl (LexG.pSl G (Prod.fst (LexG.comments G s)))
 (VC.br (LexG.same G (Prod.fst (LexG.comments G s)) (Prod.fst (LexG.rComments G s)))
 (VC.br (Lv.cmp L BinOp.eql (Prod.fst (Prod.snd (LexG.comments G s))) (Prod.fst (Prod.snd (LexG.rComments G s))))
 (VC.br (Lv.cmp L BinOp.eql (Prod.snd (Prod.snd (LexG.comments G s))) (Prod.snd (Prod.snd (LexG.rComments G s))))
 (VC.br (Lv.scmp L BinOp.eql (Prod.fst (LexG.blank G s)) (Prod.fst (LexG.rBlank G s)))
 (VC.br (Lv.cmp L BinOp.eql (Prod.fst (Prod.snd (LexG.blank G s))) (Prod.fst (Prod.snd (LexG.rBlank G s))))
 (VC.br (Lv.cmp L BinOp.eql (Prod.snd (Prod.snd (LexG.blank G s))) (Prod.snd (Prod.snd (LexG.rBlank G s))))
 (VC.obl True (VC.br (LexF.awake F) (VC.ok ((true, ()) = (true, ()))) (VC.ok ((false, ()) = (true, ())))))
 (VC.ok ((false, ()) = (true, ()))))
 (VC.ok ((false, ()) = (true, ()))))
 (VC.ok ((false, ()) = (true, ()))))
 (VC.ok ((false, ()) = (true, ()))))
 (VC.ok ((false, ()) = (true, ()))))
 (VC.ok ((false, ()) = (true, ())))))))))
 (VC.obl True (VC.br (LexF.awake F) (VC.ok ((true, ()) = (true, ()))) (VC.ok ((false, ()) = (true, ()))))))
theorem n18_eq (L : Lv) (F : LexF) (G : LexG) (s : ByteArray) : vc2 L F G [21, 22, 47, 48, 49, 50, 51] (D18 a0) law1 (s, ()) = n18 L F G s := by kernel_rfl
theorem n18_go (L : Lv) (F : LexF) (G : LexG) (s : ByteArray) (h : VC.holds (n18 L F G s)) : Holds (vc2 L F G [21, 22, 47, 48, 49, 50, 51] (D18 a0) law1 (s, ())) := Holds.of_eq (n18_eq L F G s) h

/-! ### comments, in plain Lean -/
def rcN (s : ByteArray) : Nat → Int → List (Int × Int)
  | 0, fr => if 0 ≤ fr then [(fr, s.size)] else []
  | n + 1, fr =>
    let i := (s.size : Int) - (n + 1 : Nat)
    if byteAt s i = 10 then (if 0 ≤ fr then (fr, i) :: rcN s n (-1) else rcN s n (-1)) else if byteAt s i = 37 ∧ fr < 0 then rcN s n i else rcN s n fr
def cmL (s : ByteArray) : List (Int × Int) := rcN s s.size (-1)
def tup3 (p : Int × Int) : Int × Int × Unit := (p.1, p.2, ())
def comsF (s : ByteArray) : List (Int × Int × Unit) := (cmL s).map tup3
def commentsF (s : ByteArray) : List (Int × Int) × Int × Int := if (chk s).2 ≠ 0 then ([], (chk s).1, (chk s).2) else (cmL s, 0, 0)
theorem rcN_step (s : ByteArray) (i fr : Int) (h0 : 0 ≤ i) (h1 : i < s.size) : rcN s ((s.size : Int) - i).toNat fr =
    if byteAt s i = 10 then (if 0 ≤ fr then (fr, i) :: rcN s ((s.size : Int) - (i + 1)).toNat (-1) else rcN s ((s.size : Int) - (i + 1)).toNat (-1)) else if byteAt s i = 37 ∧ fr < 0 then rcN s ((s.size : Int) - (i + 1)).toNat i else rcN s ((s.size : Int) - (i + 1)).toNat fr := by
  obtain ⟨n, hn⟩ : ∃ n : Nat, (s.size : Int) - i = (n + 1 : Nat) := ⟨((s.size : Int) - i - 1).toNat, by omega⟩
  have e1 : ((s.size : Int) - i).toNat = n + 1 := by omega
  have e2 : ((s.size : Int) - (i + 1)).toNat = n := by omega
  have e3 : (s.size : Int) - (n + 1 : Nat) = i := by omega
  rw [e1, e2, rcN, e3]
theorem rcN_done (s : ByteArray) (i fr : Int) (h1 : s.size ≤ i) : rcN s ((s.size : Int) - i).toNat fr = if 0 ≤ fr then [(fr, (s.size : Int))] else [] := by
  have e1 : ((s.size : Int) - i).toNat = 0 := by omega
  rw [e1, rcN]
/-- No sign of a comment: on. -/
theorem rcN_skip (s : ByteArray) : ∀ (n : Nat) (i : Int), 0 ≤ i → i + n ≤ s.size → (∀ m, i ≤ m → m < i + n → byteAt s m ≠ 37) → rcN s ((s.size : Int) - i).toNat (-1) = rcN s ((s.size : Int) - (i + n)).toNat (-1)
  | 0, i, _, _, _ => by simp
  | n + 1, i, h0, h1, h2 => by
    have hs : rcN s ((s.size : Int) - i).toNat (-1) = rcN s ((s.size : Int) - (i + 1)).toNat (-1) := by
      rw [rcN_step s i (-1) h0 (by omega)]
      split
      · rw [if_neg (by omega)]
      · rw [if_neg (fun h => h2 i (by omega) (by omega) h.1)]
    rw [hs, rcN_skip s n (i + 1) (by omega) (by omega) (fun m hm hlt => h2 m (by omega) (by omega))]
    congr 2; omega
/-- Within a comment: on to its end. -/
theorem rcN_in (s : ByteArray) (fr : Int) (hf : 0 ≤ fr) : ∀ (n : Nat) (i : Int), 0 ≤ i → i + n ≤ s.size → (∀ m, i ≤ m → m < i + n → byteAt s m ≠ 10) → rcN s ((s.size : Int) - i).toNat fr = rcN s ((s.size : Int) - (i + n)).toNat fr
  | 0, i, _, _, _ => by simp
  | n + 1, i, h0, h1, h2 => by
    rw [rcN_step s i fr h0 (by omega), if_neg (h2 i (by omega) (by omega)), if_neg (fun h => by omega), rcN_in s fr hf n (i + 1) (by omega) (by omega) (fun m hm hlt => h2 m (by omega) (by omega))]
    congr 2; omega
theorem ext_at (s : ByteArray) (i m : Int) (h0 : 0 ≤ i) (hm : 0 ≤ m) (h : m < s.size - i) : byteAt (s.extract i.toNat s.size) m = byteAt s (i + m) := by
  rw [byteAt_ext hm (by omega)]; congr 1; omega
theorem rc_next (s : ByteArray) (p : Int) (h0 : 0 ≤ p) (h1 : p ≤ s.size) : (idxB (s.extract p.toNat s.size) 37 < 0 → rcN s ((s.size : Int) - p).toNat (-1) = []) ∧
    (0 ≤ idxB (s.extract p.toNat s.size) 37 → p + idxB (s.extract p.toNat s.size) 37 < s.size ∧ byteAt s (p + idxB (s.extract p.toNat s.size) 37) = 37 ∧ rcN s ((s.size : Int) - p).toNat (-1) = rcN s ((s.size : Int) - (p + idxB (s.extract p.toNat s.size) 37)).toNat (-1)) := by
  have hsz := ext_size s p.toNat s.size
  have hx := idxB_spec (s.extract p.toNat s.size) 37 (by omega) (by omega)
  generalize idxB (s.extract p.toNat s.size) 37 = n at *
  rcases hx with ⟨q1, q2⟩ | ⟨q1, q2, q3, q4⟩
  · refine ⟨fun _ => ?_, fun h => by omega⟩
    rw [rcN_skip s ((s.size : Int) - p).toNat p h0 (by omega) (fun m hm hlt => by
      have := q2 (m - p) (by omega) (by omega)
      rw [ext_at s p (m - p) h0 (by omega) (by omega), show p + (m - p) = m by omega] at this
      exact this), rcN_done s _ _ (by omega), if_neg (by omega)]
  · refine ⟨fun h => by omega, fun _ => ⟨by omega, ?_, ?_⟩⟩
    · rw [← ext_at s p n h0 q1 (by omega)]; exact q3
    · rw [rcN_skip s n.toNat p h0 (by omega) (fun m hm hlt => by
        have := q4 (m - p) (by omega) (by omega)
        rw [ext_at s p (m - p) h0 (by omega) (by omega), show p + (m - p) = m by omega] at this
        exact this)]
      congr 2; omega
theorem rc_comment (s : ByteArray) (i : Int) (h0 : 0 ≤ i) (h1 : i < s.size) (hb : byteAt s i = 37) : rcN s ((s.size : Int) - i).toNat (-1) = (i, commentF s i) :: rcN s ((s.size : Int) - commentF s i).toNat (-1) ∧ i < commentF s i ∧ commentF s i ≤ s.size := by
  obtain ⟨_, c1, c2⟩ := gap_comment s i h0 h1 hb
  refine ⟨?_, c1, c2⟩
  have hsz := ext_size s i.toNat s.size
  have hx := idxB_spec (s.extract i.toNat s.size) 10 (by omega) (by omega)
  rw [rcN_step s i (-1) h0 h1, if_neg (by omega), if_pos ⟨hb, by omega⟩]
  have hin : ∀ m, i + 1 ≤ m → m < i + 1 + ((commentF s i - (i + 1)).toNat : Nat) → byteAt s m ≠ 10 := fun m hm hlt => by
    have hlt' : m < commentF s i := by omega
    simp only [commentF] at hlt'
    rcases hx with ⟨q1, q2⟩ | ⟨q1, q2, q3, q4⟩
    · have := q2 (m - i) (by omega) (by omega)
      rw [ext_at s i (m - i) h0 (by omega) (by omega), show i + (m - i) = m by omega] at this
      exact this
    · rw [if_pos q1] at hlt'
      have := q4 (m - i) (by omega) (by omega)
      rw [ext_at s i (m - i) h0 (by omega) (by omega), show i + (m - i) = m by omega] at this
      exact this
  rw [rcN_in s i h0 (commentF s i - (i + 1)).toNat (i + 1) (by omega) (by omega) hin, show i + 1 + ((commentF s i - (i + 1)).toNat : Int) = commentF s i by omega]
  by_cases hend : commentF s i = s.size
  · rw [rcN_done s _ _ (by omega), rcN_done s _ _ (by omega), if_pos h0, if_neg (by omega)]
    exact congrArg (fun e => [(i, e)]) hend.symm
  · have h10 : byteAt s (commentF s i) = 10 := by
      simp only [commentF] at hend ⊢
      rcases hx with ⟨q1, q2⟩ | ⟨q1, q2, q3, q4⟩
      · rw [if_neg (by omega)] at hend; exact absurd rfl hend
      · rw [if_pos q1, ← ext_at s i _ h0 q1 (by omega)]; exact q3
    have e1 := rcN_step s (commentF s i) i (by omega) (by omega)
    have e2 := rcN_step s (commentF s i) (-1) (by omega) (by omega)
    rw [if_pos h10, if_pos h0] at e1
    rw [if_pos h10, if_neg (by omega)] at e2
    rw [e1, e2]
/-- Comments lie one behind the other. -/
theorem rcN_bounds (s : ByteArray) : ∀ (n : Nat) (fr : Int), n ≤ s.size → fr < (s.size : Int) - n → ∀ p ∈ rcN s n fr, 0 ≤ p.1 ∧ p.1 < p.2 ∧ p.2 ≤ s.size
  | 0, fr, _, h2, p, hp => by
    simp only [rcN] at hp
    split at hp
    · simp only [List.mem_singleton] at hp; subst hp; simp only; omega
    · cases hp
  | n + 1, fr, h1, h2, p, hp => by
    simp only [rcN] at hp
    split at hp
    · split at hp
      · rcases List.mem_cons.1 hp with rfl | hp
        · simp only; omega
        · exact rcN_bounds s n (-1) (by omega) (by omega) p hp
      · exact rcN_bounds s n (-1) (by omega) (by omega) p hp
    · split at hp
      · exact rcN_bounds s n _ (by omega) (by omega) p hp
      · exact rcN_bounds s n fr (by omega) (by omega) p hp
theorem cmL_bounds (s : ByteArray) : ∀ p ∈ cmL s, 0 ≤ p.1 ∧ p.1 < p.2 ∧ p.2 ≤ s.size := rcN_bounds s s.size (-1) (Nat.le_refl _) (by omega)
theorem drop_map {α β : Type} (f : α → β) (l : List α) (j : Nat) : (l.map f).drop j = (l.drop j).map f := by rw [List.map_drop]

theorem ok103 (F : LexF) (G : LexG) (hs : F.pS = fun s => s.size ≤ 1000000) (hp : F.pAt = fun s i => 0 ≤ i ∧ i ≤ s.size) (h : F.comment = commentF) (hi : F.indexByte = idxB) (hg : G.coms = comsF) (k1 : SpecOk prog 84 (S84 F)) (k2 : SpecOk prog 104 (S104 F)) : ItOk prog 103 (I103 F G) := by
  let I : ByteArray → Nat → Int × Unit → Prop := fun s j x => j ≤ (comsF s).length ∧ (x.1 < 0 → (comsF s).drop j = []) ∧ (0 ≤ x.1 → x.1 < s.size ∧ byteAt s x.1 = 37 ∧ (comsF s).drop j = (rcN s ((s.size : Int) - x.1).toNat (-1)).map tup3)
  let mu : ByteArray → Int × Unit → Nat := fun s x => ((s.size : Int) - x.1).toNat
  refine iter_by hm hE (fnok103 a0) rfl (I103 F G) rfl (fns := only (fT2 F G) [84, 104]) (only_tab (tb_cons (tb_sp k1 (by kernel_rfl)) (tb_cons (tb_sp k2 (by kernel_rfl)) tb_nil))) 0 (fun x => a103 Lv.std (I x.1) (mu x.1)) ?_
  rintro l ⟨s, ⟨⟩⟩ hpre
  have hsz : s.size ≤ 1000000 := by have := hpre; simp only [I103, hs] at this; exact this
  refine i103_go Lv.std F G (I s) (mu s) l s ?_
  simp only [i103, VC.holds, std_cmp, std_scmp, std_ar_add, std_ar_sub, std_ar_mul, std_ar, std_dv, std_shf, std_conv, std_mn, std_mx, std_beq, std_bnot, std_band, std_scat, std_byte, std_ext, std_slen, std_strOf, std_bytes, std_llen, std_get, std_setl, std_app, std_take, std_drop, std_rep, std_mhas, std_mval, std_mput, std_cast, std_toN, std_sub, std_add, std_inR, std_le3, std_leN, std_ltN, std_ne0, std_nonneg, std_catOk, std_room, std_mkOk, std_nth, std_cnt, cmp_lss_t, cmp_lss_f, cmp_leq_t, cmp_leq_f, cmp_gtr_t, cmp_gtr_f, cmp_geq_t, cmp_geq_f, cmp_eql_t, cmp_eql_f, cmp_neq_t, cmp_neq_f, scmp_eql_t, scmp_eql_f, scmp_neq_t, scmp_neq_f, dflt_int, dflt_bool, dflt_str, dflt_sl, dflt_pair, h, hi, hs, hp, hg, Prod.mk.injEq, and_true, true_and]
  have hI : ∀ p : Int, 0 ≤ p → p ≤ s.size → ∀ j, j ≤ (comsF s).length → (comsF s).drop j = (rcN s ((s.size : Int) - p).toNat (-1)).map tup3 → (0 ≤ idxB (s.extract p.toNat s.size) 37 → I s j (p + idxB (s.extract p.toNat s.size) 37, ())) ∧ (idxB (s.extract p.toNat s.size) 37 < 0 → (comsF s).drop j = []) := by
    intro p p0 p1 j hj hd
    obtain ⟨n1, n2⟩ := rc_next s p p0 p1
    refine ⟨fun hx => ?_, fun hx => by rw [hd, n1 hx]; rfl⟩
    obtain ⟨q1, q2, q3⟩ := n2 hx
    exact ⟨hj, fun h => by simp only at h; omega, fun _ => ⟨q1, q2, by rw [hd, q3]⟩⟩
  have h00 := hI 0 (by omega) (by omega) 0 (Nat.zero_le _) (by rw [show ((s.size : Int) - 0).toNat = s.size by omega]; rfl)
  rw [show s.extract (0 : Int).toNat s.size = s from ba_ext2 (by rw [ext_size]; simp) (fun i hi hi2 => by rw [ext_size] at hi2; rw [byteAt_ext hi (by simp at hi2 ⊢; omega)]; simp), Int.zero_add] at h00
  refine ⟨?_, ?_⟩
  · by_cases hx : 0 ≤ idxB s 37
    · exact h00.1 hx
    · exact ⟨Nat.zero_le _, fun _ => h00.2 (by omega), fun h => absurd h hx⟩
  rintro ⟨x, ⟨⟩⟩ j ⟨i1, i2, i3⟩
  simp only at i2 i3 ⊢
  refine ⟨fun hx => ?_, fun hx => drop_nil (i2 (by omega)) i1⟩
  obtain ⟨k1, k2, k3⟩ := i3 hx
  obtain ⟨c1, c2, c3⟩ := rc_comment s x hx k1 k2
  rw [c1] at k3
  obtain ⟨d1, d2, d3⟩ := drop_cons k3
  refine ⟨⟨⟨hx, by omega⟩, hsz⟩, d1, fun b => ⟨fun _ => ⟨⟨by omega, c3, Int.le_refl _⟩, fun hn => ?_, fun hn => ?_⟩, fun _ => trivial⟩⟩
  · rw [Int.toNat_natCast] at hn
    exact drop_nil ((hI (commentF s x) (by omega) c3 (j + 1) d3 d2).2 hn) d3
  · rw [Int.toNat_natCast] at hn ⊢
    have h1 := (hI (commentF s x) (by omega) c3 (j + 1) d3 d2).1 hn
    have h2 := (h1.2.2 (by simp only; omega)).1
    simp only at h2
    rw [wrap_i64 (by omega) (by omega)]
    exact ⟨h1, by show ((s.size : Int) - (commentF s x + idxB (s.extract (commentF s x).toNat s.size) 37)).toNat < ((s.size : Int) - x).toNat; omega⟩

theorem chk_big {s : ByteArray} (h : (chk s).2 = 0) : s.size ≤ 2500 := by
  unfold chk at h
  split at h
  · cases h
  · omega
theorem cmL_len (s : ByteArray) : (cmL s).length ≤ s.size + 1 := by
  have : ∀ (n : Nat) (fr : Int), (rcN s n fr).length ≤ n + 1 := by
    intro n
    induction n with
    | zero => intro fr; simp only [rcN]; split <;> simp
    | succ n ih =>
      intro fr
      simp only [rcN]
      have := ih (-1); have := ih fr; have := ih ((s.size : Int) - (n + 1 : Nat))
      repeat' split
      all_goals (try simp only [List.length_cons])
      all_goals omega
  exact this s.size (-1)
theorem coms_get {s : ByteArray} {j : Nat} {y : Int × Int × Unit} (h : (comsF s)[j]? = some y) : (cmL s)[j]? = some (y.1, y.2.1) ∧ j < (cmL s).length := by
  unfold comsF at h
  rw [List.getElem?_map] at h
  cases hc : (cmL s)[j]? with
  | none => rw [hc] at h; cases h
  | some p => rw [hc] at h; simp only [Option.map_some, Option.some.injEq] at h; subst h; exact ⟨rfl, (List.getElem?_eq_some_iff.1 hc).1⟩
theorem take_snoc' {α : Type} {l : List α} {j : Nat} {y : α} (h : l[j]? = some y) : l.take (j + 1) = l.take j ++ [y] := by rw [List.take_succ, h]; rfl

theorem ok48 (F : LexF) (G : LexG) (hs : F.pS = fun s => s.size ≤ 1000000) (h : F.chk = chk) (hg : G.coms = comsF) (hc : G.comments = commentsF) (k1 : SpecOk prog 56 (S56 F)) (k2 : ItOk prog 103 (I103 F G)) : SpecOk prog 48 (S48 G) := by
  refine contract_by hm hE D48 fnok48 _ fun (z : ByteArray × Unit) hpre => ?_
  obtain ⟨s, ⟨⟩⟩ := z
  let I : Nat → List (Int × Int) × Unit → Prop := fun j x => x.1 = (cmL s).take j
  refine pack _ 1 (a48 Lv.std I) (only_tab (T := fT2 F G) (l := [56, 78, 103]) (tb_cons (tb_sp k1 (by kernel_rfl)) (tb_cons (tb_d (fnok78 a0) (by kernel_rfl)) (tb_cons (tb_it k2 (by kernel_rfl)) tb_nil)))) ?_
  refine n48_go Lv.std F G I s ?_
  simp only [n48, VC.holds, std_cmp, std_scmp, std_ar_add, std_ar_sub, std_ar_mul, std_ar, std_dv, std_shf, std_conv, std_mn, std_mx, std_beq, std_bnot, std_band, std_scat, std_byte, std_ext, std_slen, std_strOf, std_bytes, std_llen, std_get, std_setl, std_app, std_take, std_drop, std_rep, std_mhas, std_mval, std_mput, std_cast, std_toN, std_sub, std_add, std_inR, std_le3, std_leN, std_ltN, std_ne0, std_nonneg, std_catOk, std_room, std_mkOk, std_nth, std_cnt, cmp_lss_t, cmp_lss_f, cmp_leq_t, cmp_leq_f, cmp_gtr_t, cmp_gtr_f, cmp_geq_t, cmp_geq_f, cmp_eql_t, cmp_eql_f, cmp_neq_t, cmp_neq_f, scmp_eql_t, scmp_eql_f, scmp_neq_t, scmp_neq_f, dflt_int, dflt_bool, dflt_str, dflt_sl, dflt_pair, h, hs, hg, hc, Prod.mk.injEq, and_true, true_and, List.length_nil, Nat.zero_add, List.nil_append, List.take_length]
  refine ⟨fun hne => ?_, fun he => ⟨?_, ?_, ?_⟩⟩
  · simp only [commentsF, if_pos hne]; exact ⟨trivial, trivial, trivial⟩
  · have := chk_big he; omega
  · rfl
  have hb := chk_big he
  have hl := cmL_len s
  refine fun b => ⟨fun _ => ?_, fun _ => ?_⟩
  · rintro ⟨x, ⟨⟩⟩ j ⟨y1, y2, ⟨⟩⟩ ⟨g1, g2⟩
    obtain ⟨g3, g4⟩ := coms_get g1
    have g2' : x = (cmL s).take j := g2
    subst g2'
    simp only [List.take_length, List.length_take, List.take_succ_cons, List.take_zero, List.length_cons, List.length_nil]
    refine ⟨⟨by omega, by omega⟩, ?_, ?_⟩
    · congr 5
      rw [List.length_append, List.length_take]; rfl
    · show (cmL s).take j ++ [(y1, y2)] = (cmL s).take (j + 1)
      rw [take_snoc' g3]
  · rintro ⟨x, ⟨⟩⟩ g2
    have g2' : x = (cmL s).take (comsF s).length := g2
    subst g2'
    have e : commentsF s = (cmL s, 0, 0) := by unfold commentsF; rw [if_neg (fun h => h he)]
    rw [e]
    refine ⟨?_, rfl, rfl⟩
    simp only [comsF, List.length_map, List.take_length]

theorem ok51 (F : LexF) (G : LexG) (hp : G.pSl = fun l => l.length ≤ 1000000) (h : G.same = fun a b => decide (a = b)) : SpecOk prog 51 (S51 G) := by
  refine contract_by hm hE D51 fnok51 _ fun (z : List (Int × Int) × List (Int × Int) × Unit) hpre => ?_
  obtain ⟨l, m, ⟨⟩⟩ := z
  have g1 : l.length ≤ 1000000 := by have := hpre; simp only [S51, hp] at this; exact this
  let I : Int × Unit → Prop := fun z => 0 ≤ z.1 ∧ z.1 ≤ l.length ∧ l.take z.1.toNat = m.take z.1.toNat
  let mu : Int × Unit → Nat := fun z => (l.length - z.1).toNat
  refine pack _ 1 (a51 Lv.std I mu) (only_tab (T := fT2 F G) (l := []) tb_nil) ?_
  refine n51_go Lv.std F G I mu l m ?_
  simp only [n51, VC.holds, std_cmp, std_scmp, std_ar_add, std_ar_sub, std_ar_mul, std_ar, std_dv, std_shf, std_conv, std_mn, std_mx, std_beq, std_bnot, std_band, std_scat, std_byte, std_ext, std_slen, std_strOf, std_bytes, std_llen, std_get, std_setl, std_app, std_take, std_drop, std_rep, std_mhas, std_mval, std_mput, std_cast, std_toN, std_sub, std_add, std_inR, std_le3, std_leN, std_ltN, std_ne0, std_nonneg, std_catOk, std_room, std_mkOk, std_nth, std_cnt, cmp_lss_t, cmp_lss_f, cmp_leq_t, cmp_leq_f, cmp_gtr_t, cmp_gtr_f, cmp_geq_t, cmp_geq_f, cmp_eql_t, cmp_eql_f, cmp_neq_t, cmp_neq_f, scmp_eql_t, scmp_eql_f, scmp_neq_t, scmp_neq_f, dflt_int, dflt_bool, dflt_str, dflt_sl, dflt_pair, h, Prod.mk.injEq, and_true, true_and]
  refine ⟨fun hne => ?_, fun heq => ⟨⟨by show (0 : Int) ≤ 0; omega, by show (0 : Int) ≤ l.length; omega, rfl⟩, ?_⟩⟩
  · rw [decide_eq_false (fun e => hne (by rw [e]))]
  rintro ⟨i, _⟩ ⟨h0, h1, h2⟩
  simp only at h0 h1 h2 ⊢
  refine ⟨fun hlt => ?_, fun hge => ?_⟩
  · obtain ⟨k, rfl⟩ : ∃ k : Nat, i = k := ⟨i.toNat, by omega⟩
    have hk : k < l.length := by omega
    have hk2 : k < m.length := by omega
    have ew : IntKind.i64.wrap ((k : Int) + 1) = (k : Int) + 1 := by rw [wrap_i64 (by omega) (by omega)]
    simp only [ew, Int.toNat_natCast, List.getElem?_eq_getElem hk, List.getElem?_eq_getElem hk2, Option.getD_some] at h2 ⊢
    have hstep : l[k] = m[k] → I ((k : Int) + 1, ()) ∧ mu ((k : Int) + 1, ()) < mu ((k : Int), ()) := fun e => ⟨⟨by show (0 : Int) ≤ (k : Int) + 1; omega, by show (k : Int) + 1 ≤ l.length; omega, by
      show l.take ((k : Int) + 1).toNat = m.take ((k : Int) + 1).toNat
      rw [show ((k : Int) + 1).toNat = k + 1 by omega, take_snoc l k hk, take_snoc m k hk2, h2, e]⟩, by show ((l.length : Int) - ((k : Int) + 1)).toNat < ((l.length : Int) - k).toNat; omega⟩
    refine ⟨⟨by omega, by omega⟩, ⟨by omega, by omega⟩, fun hb => ?_, fun hb => hstep ?_⟩
    · rw [decide_eq_false (fun e => ?_)]
      have : l[k] = m[k] := by simp only [e]
      rw [this] at hb
      simp [VM.compare] at hb
    · simp only [VM.compare, Bool.and_true, Bool.not_eq_false', Bool.and_eq_true, beq_iff_eq] at hb
      exact Prod.ext hb.1 hb.2
  · have hi : i = l.length := by omega
    subst hi
    rw [Int.toNat_natCast, List.take_length, show l.length = m.length by omega, List.take_length] at h2
    rw [decide_eq_true h2]

theorem ok49 (F : LexF) (G : LexG) (h : F.chk = chk) (hc : G.rComments = commentsF) (k1 : SpecOk prog 59 (S59 F)) : SpecOk prog 49 (S49 G) := by
  refine contract_by hm hE D49 fnok49 _ fun (z : ByteArray × Unit) hpre => ?_
  obtain ⟨s, ⟨⟩⟩ := z
  let I : List (Int × Int) × Int × Int × Unit → Prop := fun z => z.2.1 < z.2.2.1 ∧ 0 ≤ z.2.2.1 ∧ z.2.2.1 ≤ s.size + 1 ∧ z.1.length ≤ z.2.2.1 ∧ z.1 ++ (if z.2.2.1 ≤ s.size then rcN s ((s.size : Int) - z.2.2.1).toNat z.2.1 else []) = cmL s ∧ -1 ≤ z.2.1
  let mu : List (Int × Int) × Int × Int × Unit → Nat := fun z => ((s.size : Int) + 1 - z.2.2.1).toNat
  refine pack _ 1 (a49 Lv.std I mu) (only_tab (T := fT2 F G) (l := [59]) (tb_cons (tb_sp k1 (by kernel_rfl)) tb_nil)) ?_
  refine n49_go Lv.std F G I mu s ?_
  simp only [n49, VC.holds, std_cmp, std_scmp, std_ar_add, std_ar_sub, std_ar_mul, std_ar, std_dv, std_shf, std_conv, std_mn, std_mx, std_beq, std_bnot, std_band, std_scat, std_byte, std_ext, std_slen, std_strOf, std_bytes, std_llen, std_get, std_setl, std_app, std_take, std_drop, std_rep, std_mhas, std_mval, std_mput, std_cast, std_toN, std_sub, std_add, std_inR, std_le3, std_leN, std_ltN, std_ne0, std_nonneg, std_catOk, std_room, std_mkOk, std_nth, std_cnt, cmp_lss_t, cmp_lss_f, cmp_leq_t, cmp_leq_f, cmp_gtr_t, cmp_gtr_f, cmp_geq_t, cmp_geq_f, cmp_eql_t, cmp_eql_f, cmp_neq_t, cmp_neq_f, scmp_eql_t, scmp_eql_f, scmp_neq_t, scmp_neq_f, dflt_int, dflt_bool, dflt_str, dflt_sl, dflt_pair, h, hc, Prod.mk.injEq, and_true, true_and, List.length_nil, Nat.zero_add, List.nil_append, List.take_length]
  refine ⟨fun hne => ?_, fun he => ?_⟩
  · simp only [commentsF, if_pos hne]; exact ⟨trivial, trivial, trivial⟩
  have hb := chk_big he
  have m1 : (Int.negSucc 0 : Int) = -1 := rfl
  rw [m1]
  refine ⟨⟨by show (-1 : Int) < 0; omega, by show (0 : Int) ≤ 0; omega, by show (0 : Int) ≤ (s.size : Int) + 1; omega, by show ((0 : Nat) : Int) ≤ 0; omega, ?_, by show (-1 : Int) ≤ -1; omega⟩, ?_⟩
  · show [] ++ (if (0 : Int) ≤ s.size then rcN s ((s.size : Int) - 0).toNat (-1) else []) = cmL s
    rw [if_pos (by omega), show ((s.size : Int) - 0).toNat = s.size by omega]; rfl
  rintro ⟨x, fr, i, ⟨⟩⟩ ⟨a1, a2, a3, a4, a5, a6⟩
  simp only at a1 a2 a3 a4 a5 a6 ⊢
  have ew : IntKind.i64.wrap (i + 1) = i + 1 := by rw [wrap_i64 (by omega) (by omega)]
  simp only [ew, List.take_succ_cons, List.take_zero, List.length_cons, List.length_nil]
  have hstep : ∀ (x' : List (Int × Int)) (fr' : Int), i ≤ s.size → fr' < i + 1 → (x'.length : Int) ≤ i + 1 → -1 ≤ fr' → x' ++ (if i + 1 ≤ s.size then rcN s ((s.size : Int) - (i + 1)).toNat fr' else []) = cmL s → I (x', fr', i + 1, ()) ∧ mu (x', fr', i + 1, ()) < mu (x, fr, i, ()) := fun x' fr' b0 b1 b2 b3 b4 =>
    ⟨⟨b1, by show 0 ≤ i + 1; omega, by show i + 1 ≤ (s.size : Int) + 1; omega, b2, b4, b3⟩, by show ((s.size : Int) + 1 - (i + 1)).toNat < ((s.size : Int) + 1 - i).toNat; omega⟩
  have hlen : ∀ p : Int × Int, ((x ++ [p]).length : Int) ≤ i + 1 := fun p => by rw [List.length_append]; simp only [List.length_cons, List.length_nil]; omega
  have hst : ∀ (q : List (Int × Int)) (n : Nat), q.length + (0 + 1) = n → True := fun _ _ _ => trivial
  refine ⟨fun hle => ?_, fun hgt => ?_⟩
  · rw [if_pos hle] at a5
    refine ⟨fun hi => ?_, fun hi => ?_⟩
    · rw [rcN_done s i fr (by omega)] at a5
      refine ⟨fun hf => ⟨⟨by omega, by omega⟩, by rw [List.length_append]; rfl, hstep _ _ hle (by omega) (hlen _) (by omega) ?_⟩, fun hf => hstep _ _ hle (by omega) (by omega) (by omega) ?_⟩
      · rw [if_pos hf] at a5
        rw [if_neg (by omega), List.append_nil, ← a5, hi]
      · rw [if_neg (by omega)] at a5
        rw [if_neg (by omega)]; exact a5
    · rw [rcN_step s i fr a2 (by omega)] at a5
      have hin : i + 1 ≤ s.size := by omega
      refine ⟨⟨a2, by omega⟩, fun h10 => ⟨fun hf => ⟨⟨by omega, by omega⟩, by rw [List.length_append]; rfl, hstep _ _ hle (by omega) (hlen _) (by omega) ?_⟩, fun hf => hstep _ _ hle (by omega) (by omega) (by omega) ?_⟩, fun h10 => ⟨⟨a2, by omega⟩, fun h37 => ⟨fun hf => hstep _ _ hle (by omega) (by omega) (by omega) ?_, fun hf => hstep _ _ hle (by omega) (by omega) a6 ?_⟩, fun h37 => hstep _ _ hle (by omega) (by omega) a6 ?_⟩⟩
      · rw [if_pos h10, if_pos hf] at a5
        rw [if_pos hin, List.append_assoc]; exact a5
      · rw [if_pos h10, if_neg (by omega)] at a5
        rw [if_pos hin]; exact a5
      · rw [if_neg h10, if_pos ⟨h37, hf⟩] at a5
        rw [if_pos hin]; exact a5
      · rw [if_neg h10, if_neg (fun h => by omega)] at a5
        rw [if_pos hin]; exact a5
      · rw [if_neg h10, if_neg (fun h => h37 h.1)] at a5
        rw [if_pos hin]; exact a5
  · rw [if_neg (by omega), List.append_nil] at a5
    have e : commentsF s = (cmL s, 0, 0) := by unfold commentsF; rw [if_neg (fun h => h he)]
    rw [e]
    exact ⟨a5, rfl, rfl⟩
end Go.Proofs.Tryd
namespace Go.Proofs
open Go.Shelf
def Tryd.lays138_ren : Go.Shelf.Ren := ⟨fun | 138 => 80 | 195 => 109 | 218 => 110 | 143 => 111 | 219 => 124 | 217 => 119 | 225 => 133 | 224 => 134 | 267 => 135 | 266 => 131 | 314 => 143 | n => n, fun | 9 => 9 | 3 => 3 | 4 => 4 | 5 => 5 | 0 => 0 | 46 => 116 | 146 => 128 | 51 => 127 | n => n, fun | 1 => 0 | n => n⟩
theorem Tryd.lays138 : Go.Proofs.Lays.n138 Tryd.prog Tryd.lays138_ren := {
  mixed := by kernel_rfl
  f138 := Tryd.func80.trans (congrArg some (by kernel_rfl))
  f143 := Tryd.func111.trans (congrArg some (by kernel_rfl))
  f195 := Tryd.func109.trans (congrArg some (by kernel_rfl))
  f217 := Tryd.func119.trans (congrArg some (by kernel_rfl))
  f218 := Tryd.func110.trans (congrArg some (by kernel_rfl))
  f219 := Tryd.func124.trans (congrArg some (by kernel_rfl))
  f224 := Tryd.func134.trans (congrArg some (by kernel_rfl))
  f225 := Tryd.func133.trans (congrArg some (by kernel_rfl))
  f266 := Tryd.func131.trans (congrArg some (by kernel_rfl))
  f267 := Tryd.func135.trans (congrArg some (by kernel_rfl))
  f314 := Tryd.func143.trans (congrArg some (by kernel_rfl))
  t0 := Tryd.underlying0
  a0 := Tryd.isAgg0
  z0 := Tryd.sizeOf0
  v0 := Tryd.zeroValue0
  t3 := Tryd.underlying3
  a3 := Tryd.isAgg3
  z3 := Tryd.sizeOf3
  v3 := Tryd.zeroValue3
  t4 := Tryd.underlying4
  a4 := Tryd.isAgg4
  z4 := Tryd.sizeOf4
  v4 := Tryd.zeroValue4
  t5 := Tryd.underlying5
  a5 := Tryd.isAgg5
  z5 := Tryd.sizeOf5
  v5 := Tryd.zeroValue5
  t9 := Tryd.underlying9
  a9 := Tryd.isAgg9
  z9 := Tryd.sizeOf9
  v9 := Tryd.zeroValue9
  t46 := Tryd.underlying116
  a46 := Tryd.isAgg116
  z46 := Tryd.sizeOf116
  v46 := Tryd.zeroValue116
  t51 := Tryd.underlying127
  a51 := Tryd.isAgg127
  z51 := Tryd.sizeOf127
  v51 := Tryd.zeroValue127
  t146 := Tryd.underlying128
  a146 := Tryd.isAgg128
  z146 := Tryd.sizeOf128
  v146 := Tryd.zeroValue128
  g1 := by kernel_rfl }
open Go.RowKit Go.Lib in
theorem Tryd.strings_Count_one (s : ByteArray) (c : UInt8) (w : World) :
    Calls Tryd.prog 80 #[.string s, .string ⟨#[c]⟩] w fun e w' => e = .returned (.int .i64 (Lib.countByte s.data.toList c)) ∧ w' = w := Any.strings_Count_one Tryd.lays138 s c w
def Tryd.lays149_ren : Go.Shelf.Ren := ⟨fun | 149 => 81 | 222 => 112 | n => n, fun | 9 => 9 | 5 => 5 | 3 => 3 | 4 => 4 | n => n, fun | n => n⟩
theorem Tryd.lays149 : Go.Proofs.Lays.n149 Tryd.prog Tryd.lays149_ren := {
  mixed := by kernel_rfl
  f149 := Tryd.func81.trans (congrArg some (by kernel_rfl))
  f222 := Tryd.func112.trans (congrArg some (by kernel_rfl))
  t3 := Tryd.underlying3
  a3 := Tryd.isAgg3
  z3 := Tryd.sizeOf3
  v3 := Tryd.zeroValue3
  t4 := Tryd.underlying4
  a4 := Tryd.isAgg4
  z4 := Tryd.sizeOf4
  v4 := Tryd.zeroValue4
  t5 := Tryd.underlying5
  a5 := Tryd.isAgg5
  z5 := Tryd.sizeOf5
  v5 := Tryd.zeroValue5
  t9 := Tryd.underlying9
  a9 := Tryd.isAgg9
  z9 := Tryd.sizeOf9
  v9 := Tryd.zeroValue9 }
open Go.RowKit Go.Lib in
theorem Tryd.strings_LastIndexByte (s : ByteArray) (c : Int) (hs : s.size < 4611686018427387904) (w : World) :
    Calls Tryd.prog 81 #[.string s, .int .u8 c] w fun e w' => e = .returned (.int .i64 (Lib.lastIndexByte s c)) ∧ w' = w := Any.strings_LastIndexByte Tryd.lays149 s c hs w
def Tryd.lays146_ren : Go.Shelf.Ren := ⟨fun | 146 => 82 | 221 => 113 | 268 => 125 | 138 => 80 | 143 => 111 | 195 => 109 | 197 => 136 | 218 => 110 | 219 => 124 | 260 => 144 | 217 => 119 | 225 => 133 | 224 => 134 | 267 => 135 | 266 => 131 | 314 => 143 | n => n, fun | 9 => 9 | 31 => 45 | 3 => 3 | 4 => 4 | 0 => 0 | 105 => 140 | 21 => 21 | 5 => 5 | 46 => 116 | 119 => 160 | 139 => 163 | 138 => 162 | 146 => 128 | 51 => 127 | n => n, fun | 1 => 0 | 3 => 3 | 4 => 4 | n => n⟩
theorem Tryd.lays146 : Go.Proofs.Lays.n146 Tryd.prog Tryd.lays146_ren := {
  mixed := by kernel_rfl
  f138 := Tryd.func80.trans (congrArg some (by kernel_rfl))
  f143 := Tryd.func111.trans (congrArg some (by kernel_rfl))
  f146 := Tryd.func82.trans (congrArg some (by kernel_rfl))
  f195 := Tryd.func109.trans (congrArg some (by kernel_rfl))
  f197 := Tryd.func136.trans (congrArg some (by kernel_rfl))
  f217 := Tryd.func119.trans (congrArg some (by kernel_rfl))
  f218 := Tryd.func110.trans (congrArg some (by kernel_rfl))
  f219 := Tryd.func124.trans (congrArg some (by kernel_rfl))
  f221 := Tryd.func113.trans (congrArg some (by kernel_rfl))
  f224 := Tryd.func134.trans (congrArg some (by kernel_rfl))
  f225 := Tryd.func133.trans (congrArg some (by kernel_rfl))
  f260 := Tryd.func144.trans (congrArg some (by kernel_rfl))
  f266 := Tryd.func131.trans (congrArg some (by kernel_rfl))
  f267 := Tryd.func135.trans (congrArg some (by kernel_rfl))
  f268 := Tryd.func125.trans (congrArg some (by kernel_rfl))
  f314 := Tryd.func143.trans (congrArg some (by kernel_rfl))
  t0 := Tryd.underlying0
  a0 := Tryd.isAgg0
  z0 := Tryd.sizeOf0
  v0 := Tryd.zeroValue0
  t3 := Tryd.underlying3
  a3 := Tryd.isAgg3
  z3 := Tryd.sizeOf3
  v3 := Tryd.zeroValue3
  t4 := Tryd.underlying4
  a4 := Tryd.isAgg4
  z4 := Tryd.sizeOf4
  v4 := Tryd.zeroValue4
  t5 := Tryd.underlying5
  a5 := Tryd.isAgg5
  z5 := Tryd.sizeOf5
  v5 := Tryd.zeroValue5
  t9 := Tryd.underlying9
  a9 := Tryd.isAgg9
  z9 := Tryd.sizeOf9
  v9 := Tryd.zeroValue9
  t21 := Tryd.underlying21
  a21 := Tryd.isAgg21
  z21 := Tryd.sizeOf21
  v21 := Tryd.zeroValue21
  t31 := Tryd.underlying45
  a31 := Tryd.isAgg45
  z31 := Tryd.sizeOf45
  v31 := Tryd.zeroValue45
  t46 := Tryd.underlying116
  a46 := Tryd.isAgg116
  z46 := Tryd.sizeOf116
  v46 := Tryd.zeroValue116
  t51 := Tryd.underlying127
  a51 := Tryd.isAgg127
  z51 := Tryd.sizeOf127
  v51 := Tryd.zeroValue127
  t105 := Tryd.underlying140
  a105 := Tryd.isAgg140
  z105 := Tryd.sizeOf140
  v105 := Tryd.zeroValue140
  t119 := Tryd.underlying160
  a119 := Tryd.isAgg160
  z119 := Tryd.sizeOf160
  t138 := Tryd.underlying162
  a138 := Tryd.isAgg162
  z138 := Tryd.sizeOf162
  v138 := Tryd.zeroValue162
  t139 := Tryd.underlying163
  a139 := Tryd.isAgg163
  z139 := Tryd.sizeOf163
  v139 := Tryd.zeroValue163
  t146 := Tryd.underlying128
  a146 := Tryd.isAgg128
  z146 := Tryd.sizeOf128
  v146 := Tryd.zeroValue128
  g1 := by kernel_rfl
  g3 := by kernel_rfl
  g4 := by kernel_rfl }
open Go.RowKit Go.Lib in
theorem Tryd.strings_Split (s sep : ByteArray) (m : Int) (w : World) (hs : s.size < 4294967281) (hm : w.cell? ⟨0, 0, none⟩ = some (.int .i64 m)) (h1 : 1 ≤ sep.size) :
    Calls Tryd.prog 82 #[.string s, .string sep] w fun e w' =>
      e = .returned (.slice (some ⟨w.heap.size, 0, none⟩) (Lib.countB s sep + 1) (Lib.countB s sep + 1)) ∧ w' = w.alloc (.cells ((Lib.splitB sep 0 (Lib.countB s sep) s).map Value.string).toArray 9) := Any.strings_Split Tryd.lays146 (by kernel_rfl) s sep m w hs hm h1
def Tryd.lays105_ren : Go.Shelf.Ren := ⟨fun | 105 => 79 | 212 => 105 | 99 => 106 | 165 => 107 | 166 => 99 | 170 => 108 | 169 => 100 | 263 => 120 | 264 => 121 | 206 => 122 | 240 => 118 | 241 => 123 | 276 => 130 | 277 => 132 | n => n, fun | 9 => 9 | 3 => 3 | 4 => 4 | 20 => 20 | 0 => 0 | 46 => 116 | 109 => 117 | 5 => 5 | 72 => 108 | 76 => 112 | 51 => 127 | 146 => 128 | 53 => 130 | 148 => 131 | 70 => 105 | 37 => 106 | 75 => 110 | 127 => 126 | 164 => 136 | 80 => 114 | n => n, fun | n => n⟩
theorem Tryd.lays105 : Go.Proofs.Lays.n105 Tryd.prog Tryd.lays105_ren := {
  mixed := by kernel_rfl
  f99 := Tryd.func106.trans (congrArg some (by kernel_rfl))
  f105 := Tryd.func79.trans (congrArg some (by kernel_rfl))
  f165 := Tryd.func107.trans (congrArg some (by kernel_rfl))
  f166 := Tryd.func99.trans (congrArg some (by kernel_rfl))
  f169 := Tryd.func100.trans (congrArg some (by kernel_rfl))
  f170 := Tryd.func108.trans (congrArg some (by kernel_rfl))
  f206 := Tryd.func122.trans (congrArg some (by kernel_rfl))
  f212 := Tryd.func105.trans (congrArg some (by kernel_rfl))
  f240 := Tryd.func118.trans (congrArg some (by kernel_rfl))
  f241 := Tryd.func123.trans (congrArg some (by kernel_rfl))
  f263 := Tryd.func120.trans (congrArg some (by kernel_rfl))
  f264 := Tryd.func121.trans (congrArg some (by kernel_rfl))
  f276 := Tryd.func130.trans (congrArg some (by kernel_rfl))
  f277 := Tryd.func132.trans (congrArg some (by kernel_rfl))
  t0 := Tryd.underlying0
  a0 := Tryd.isAgg0
  z0 := Tryd.sizeOf0
  v0 := Tryd.zeroValue0
  t3 := Tryd.underlying3
  a3 := Tryd.isAgg3
  z3 := Tryd.sizeOf3
  v3 := Tryd.zeroValue3
  t4 := Tryd.underlying4
  a4 := Tryd.isAgg4
  z4 := Tryd.sizeOf4
  v4 := Tryd.zeroValue4
  t5 := Tryd.underlying5
  a5 := Tryd.isAgg5
  z5 := Tryd.sizeOf5
  v5 := Tryd.zeroValue5
  t9 := Tryd.underlying9
  a9 := Tryd.isAgg9
  z9 := Tryd.sizeOf9
  v9 := Tryd.zeroValue9
  t20 := Tryd.underlying20
  a20 := Tryd.isAgg20
  z20 := Tryd.sizeOf20
  v20 := Tryd.zeroValue20
  t37 := Tryd.underlying106
  a37 := Tryd.isAgg106
  z37 := Tryd.sizeOf106
  v37 := Tryd.zeroValue106
  t46 := Tryd.underlying116
  a46 := Tryd.isAgg116
  z46 := Tryd.sizeOf116
  v46 := Tryd.zeroValue116
  t51 := Tryd.underlying127
  a51 := Tryd.isAgg127
  z51 := Tryd.sizeOf127
  v51 := Tryd.zeroValue127
  t53 := Tryd.underlying130
  a53 := Tryd.isAgg130
  z53 := Tryd.sizeOf130
  v53 := Tryd.zeroValue130
  t70 := Tryd.underlying105
  a70 := Tryd.isAgg105
  z70 := Tryd.sizeOf105
  v70 := Tryd.zeroValue105
  t72 := Tryd.underlying108
  a72 := Tryd.isAgg108
  z72 := Tryd.sizeOf108
  v72 := Tryd.zeroValue108
  t75 := Tryd.underlying110
  a75 := Tryd.isAgg110
  z75 := Tryd.sizeOf110
  v75 := Tryd.zeroValue110
  t76 := Tryd.underlying112
  a76 := Tryd.isAgg112
  z76 := Tryd.sizeOf112
  v76 := Tryd.zeroValue112
  t109 := Tryd.underlying117
  a109 := Tryd.isAgg117
  z109 := Tryd.sizeOf117
  v109 := Tryd.zeroValue117
  t127 := Tryd.underlying126
  a127 := Tryd.isAgg126
  z127 := Tryd.sizeOf126
  v127 := Tryd.zeroValue126
  t146 := Tryd.underlying128
  a146 := Tryd.isAgg128
  z146 := Tryd.sizeOf128
  v146 := Tryd.zeroValue128
  t148 := Tryd.underlying131
  a148 := Tryd.isAgg131
  z148 := Tryd.sizeOf131
  v148 := Tryd.zeroValue131
  t164 := Tryd.underlying136
  a164 := Tryd.isAgg136
  z164 := Tryd.sizeOf136
  v164 := Tryd.zeroValue136 }
theorem Tryd.Builder_Extra_105 : Builder.Extra Tryd.prog Tryd.lays105_ren := {
  sizeBuilder := by kernel_rfl
  liesBuilder := by kernel_rfl
  t5 := Tryd.underlying5
  a5 := Tryd.isAgg5
  z5 := Tryd.sizeOf5
  v5 := Tryd.zeroValue5
  infoByte := by kernel_rfl
  cellsByte := by kernel_rfl
  sizeByte := by kernel_rfl
  neB5 := by decide }
open Go.RowKit Go.Lib in
theorem Tryd.strings_Repeat (s : ByteArray) (c : Nat) (w : World) (hc : c ≤ 9223372036854775807) (hlen : s.size * c ≤ 140737488355328) :
    Calls Tryd.prog 79 #[.string s, .int .i64 c] w fun e w' => e = .returned (.string ⟨(Lib.repeatL s.data.toList c).toArray⟩) ∧ Below w.heap.size w w' := Any.strings_Repeat Tryd.lays105 Tryd.Builder_Extra_105 s c w hc hlen
end Go.Proofs
set_option autoImplicit false
set_option linter.all false
namespace Go.Proofs.Tryd
open Go Go.VM
set_option maxRecDepth 100000
/-! ### plain -/
def inCm (l : List (Int × Int)) (i : Int) : Bool := l.any fun p => decide (p.1 ≤ i) && decide (i < p.2)
def blkL (s : ByteArray) (l : List (Int × Int)) : ByteArray := ⟨((List.range s.size).map fun (i : Nat) => if inCm l i then (32 : UInt8) else s.data.getD i 0).toArray⟩
def blankF (s : ByteArray) : ByteArray × Int × Int := if (chk s).2 ≠ 0 then (ByteArray.empty, (chk s).1, (chk s).2) else (blkL s (cmL s), 0, 0)
theorem blkL_size (s : ByteArray) (l : List (Int × Int)) : (blkL s l).size = s.size := by
  show (((List.range s.size).map _).toArray).size = s.size
  simp
theorem byteAt_blk (s : ByteArray) (l : List (Int × Int)) (i : Int) (h0 : 0 ≤ i) (h1 : i < s.size) : byteAt (blkL s l) i = if inCm l i then 32 else byteAt s i := by
  obtain ⟨k, rfl⟩ : ∃ k : Nat, i = k := ⟨i.toNat, by omega⟩
  have hk : k < s.size := by omega
  have hk2 : k < (blkL s l).size := by rw [blkL_size]; exact hk
  rw [byteAt_lt (i := (k : Int)) (s := blkL s l) (by simpa using hk2), byteAt_lt (i := (k : Int)) (s := s) (by simpa using hk)]
  have e : (blkL s l)[(k : Int).toNat]'(by simpa using hk2) = if inCm l k then (32 : UInt8) else s.data.getD k 0 := by
    show (((List.range s.size).map fun (i : Nat) => if inCm l i then (32 : UInt8) else s.data.getD i 0).toArray)[k]'_ = _
    simp
  rw [e]
  split
  · rfl
  · have : s.data.getD k 0 = s[(k : Int).toNat]'(by simpa using hk) := by
      have hk' : k < s.data.size := hk
      simp only [Array.getD, hk', dif_pos]
      rfl
    rw [this]
theorem blkL_nil (s : ByteArray) : blkL s [] = s := ba_ext2 (blkL_size s []) fun i h0 h1 => by
  rw [blkL_size] at h1
  rw [byteAt_blk s [] i h0 h1]; rfl
theorem blkL_snoc (s : ByteArray) (l : List (Int × Int)) (a b : Int) (r : ByteArray) (h0 : 0 ≤ a) (h1 : a < b) (h2 : b ≤ s.size) (hr : (r.size : Int) = b - a) (hb : ∀ i : Int, 0 ≤ i → i < r.size → byteAt r i = 32) :
    (blkL s l).extract 0 a.toNat ++ r ++ (blkL s l).extract b.toNat s.size = blkL s (l ++ [(a, b)]) := by
  have hz := blkL_size s l
  have e1 : ((blkL s l).extract 0 a.toNat).size = a.toNat := by rw [ext_size, hz]; omega
  have e2 : ((blkL s l).extract b.toNat s.size).size = s.size - b.toNat := by rw [ext_size, hz]; omega
  refine ba_ext2 ?_ fun i i0 i1 => ?_
  · rw [app_size, app_size, e1, e2, blkL_size]; omega
  · rw [app_size, app_size, e1, e2] at i1
    have hi : i < s.size := by omega
    rw [byteAt_blk s _ i i0 hi]
    have hin : inCm (l ++ [(a, b)]) i = (inCm l i || (decide (a ≤ i) && decide (i < b))) := by simp [inCm, List.any_append]
    rw [hin]
    by_cases c1 : i < a
    · rw [byteAt_app_l i0 (by rw [app_size, e1]; omega), byteAt_app_l i0 (by rw [e1]; omega), byteAt_ext i0 (by rw [hz]; omega)]
      rw [show ((0 : Nat) : Int) + i = i by omega, byteAt_blk s l i i0 hi, decide_eq_false (by omega : ¬ a ≤ i)]
      simp
    · by_cases c2 : i < b
      · rw [byteAt_app_l i0 (by rw [app_size, e1]; omega), byteAt_app_r (by rw [e1]; omega) (by rw [e1]; omega), hb _ (by rw [e1]; omega) (by rw [e1]; omega)]
        rw [decide_eq_true (by omega : a ≤ i), decide_eq_true c2]
        simp
      · rw [byteAt_app_r (by rw [app_size, e1]; omega) (by rw [app_size, e1, e2]; omega), byteAt_ext (by rw [app_size, e1]; omega) (by rw [app_size, e1, hz]; omega)]
        rw [show (b.toNat : Int) + (i - (((blkL s l).extract 0 a.toNat ++ r).size : Nat)) = i by rw [app_size, e1]; omega, byteAt_blk s l i i0 hi, decide_eq_false c2]
        simp
/-! ### strings.Repeat -/
def repF (s : ByteArray) (c : Int) : ByteArray := ⟨(Lib.repeatL s.data.toList c.toNat).toArray⟩
def pRepF (s : ByteArray) (c : Int) : Prop := 0 ≤ c ∧ c ≤ 9223372036854775807 ∧ s.size * c.toNat ≤ 140737488355328
theorem rep_one (b : UInt8) : ∀ n, Lib.repeatL [b] n = List.replicate n b
  | 0 => rfl
  | n + 1 => by rw [Lib.repeatL, rep_one b n]; rfl
theorem rep_size (b : UInt8) (c : Int) : (repF ⟨#[b]⟩ c).size = c.toNat := by
  show (Lib.repeatL [b] c.toNat).toArray.size = _
  rw [rep_one]; simp
theorem rep_byte (b : UInt8) (c : Int) (i : Int) (h0 : 0 ≤ i) (h1 : i < (repF ⟨#[b]⟩ c).size) : byteAt (repF ⟨#[b]⟩ c) i = (b.toNat : Int) := by
  obtain ⟨k, rfl⟩ : ∃ k : Nat, i = k := ⟨i.toNat, by omega⟩
  have hk : k < (repF ⟨#[b]⟩ c).size := by omega
  rw [byteAt_lt (i := (k : Int)) (by simpa using hk)]
  have e : (repF ⟨#[b]⟩ c)[(k : Int).toNat]'(by simpa using hk) = b := by
    show ((Lib.repeatL [b] c.toNat).toArray)[k]'_ = b
    simp [rep_one]
  rw [e]
theorem has79 : Has prog 79 := ⟨f79, func79, by kernel_rfl, by kernel_rfl⟩
theorem ok79 (G : LexG) (hp : G.pRep = pRepF) (h : G.rep = repF) : SpecOk prog 79 (S79 G) := by
  refine ⟨has79, fun ok w vs x hG hK hpre => ?_⟩
  obtain ⟨s, c, ⟨⟩⟩ := x
  match vs, hK with
  | [v, u], hK => ?_
  obtain rfl : v = .string s := by
    have := hK.1
    simp only [KV, Ty.agg, K, List.cons.injEq, and_true] at this
    simpa using this
  obtain rfl : u = .int .i64 c := by
    have := hK.2.1
    simp only [KV, Ty.agg, K, List.cons.injEq, and_true] at this
    simpa using this
  have hpre' : G.pRep s c := hpre
  rw [hp] at hpre'
  obtain ⟨g1, g2, g3⟩ := hpre'
  obtain ⟨n, rfl⟩ : ∃ n : Nat, c = n := ⟨c.toNat, (Int.toNat_of_nonneg g1).symm⟩
  refine (strings_Repeat s n w (by omega) (by simpa using g3)).mono fun e w' he => ?_
  obtain ⟨rfl, hb⟩ := he
  refine ⟨_, rfl, hb, ?_⟩
  show KV _ _ .str (G.rep s n) _
  rw [h]
  simp only [KV, Ty.agg, K]
  rfl

theorem ok47 (F : LexF) (G : LexG) (hs : F.pS = fun s => s.size ≤ 1000000) (h : F.chk = chk) (hg : G.coms = comsF) (hc : G.blank = blankF) (hr : G.rep = repF) (hpr : G.pRep = pRepF) (k1 : SpecOk prog 56 (S56 F)) (k2 : SpecOk prog 79 (S79 G)) (k3 : ItOk prog 103 (I103 F G)) : SpecOk prog 47 (S47 G) := by
  refine contract_by hm hE D47 fnok47 _ fun (z : ByteArray × Unit) hpre => ?_
  obtain ⟨s, ⟨⟩⟩ := z
  let I : Nat → ByteArray × Unit → Prop := fun j x => x.1 = blkL s ((cmL s).take j)
  refine pack _ 1 (a47 Lv.std I) (only_tab (T := fT2 F G) (l := [56, 78, 79, 103]) (tb_cons (tb_sp k1 (by kernel_rfl)) (tb_cons (tb_d (fnok78 a0) (by kernel_rfl)) (tb_cons (tb_sp k2 (by kernel_rfl)) (tb_cons (tb_it k3 (by kernel_rfl)) tb_nil))))) ?_
  refine n47_go Lv.std F G I s ?_
  have hlit : (ByteArray.mk (Array.mk [UInt8.ofBitVec (BitVec.ofFin (Fin.mk 32 (Nat.mod_lt 32 (BitVec.ofNat._proof_1 8))))])) = ⟨#[(32 : UInt8)]⟩ := rfl
  simp only [n47, VC.holds, std_cmp, std_scmp, std_ar_add, std_ar_sub, std_scat, std_ext, std_slen, std_cast, std_toN, std_le3, std_catOk, std_nth, std_cnt, cmp_neq_t, cmp_neq_f, h, hs, hg, hc, hr, hpr, hlit, Prod.mk.injEq, and_true, true_and]
  refine ⟨fun hne => ?_, fun he => ⟨?_, ?_, ?_⟩⟩
  · simp only [blankF, if_pos hne]; exact ⟨rfl, trivial, trivial⟩
  · have := chk_big he; omega
  · show s = blkL s []
    rw [blkL_nil]
  have hb := chk_big he
  refine fun b => ⟨fun _ => ?_, fun _ => ?_⟩
  · rintro ⟨x, ⟨⟩⟩ j ⟨y1, y2, ⟨⟩⟩ ⟨g1, g2⟩
    obtain ⟨g3, g4⟩ := coms_get g1
    have g2' : x = blkL s ((cmL s).take j) := g2
    subst g2'
    obtain ⟨q0, q1, q2⟩ := cmL_bounds s (y1, y2) (List.mem_of_getElem? g3)
    simp only at q0 q1 q2
    have ew : IntKind.i64.wrap (y2 - y1) = y2 - y1 := wrap_i64 (by omega) (by omega)
    have hz := blkL_size s ((cmL s).take j)
    simp only [ew, hz, Int.toNat_natCast, Int.toNat_zero]
    have r1 := rep_size 32 (y2 - y1)
    have e1 : ((blkL s ((cmL s).take j)).extract 0 y1.toNat).size = y1.toNat := by rw [ext_size, hz]; omega
    have e2 : ((blkL s ((cmL s).take j)).extract y2.toNat s.size).size = s.size - y2.toNat := by rw [ext_size, hz]; omega
    refine ⟨⟨by omega, by omega, by omega⟩, ⟨by omega, by omega, ?_⟩, by rw [e1, r1]; omega, ⟨by omega, by omega, by omega⟩, by rw [app_size, e1, r1, e2]; omega, ?_⟩
    · show 1 * (y2 - y1).toNat ≤ _; omega
    · show _ = blkL s ((cmL s).take (j + 1))
      rw [take_snoc' g3, ← blkL_snoc s ((cmL s).take j) y1 y2 (repF ⟨#[32]⟩ (y2 - y1)) q0 q1 q2 (by rw [r1]; omega) (fun i i0 i1 => rep_byte 32 _ i i0 i1)]
  · rintro ⟨x, ⟨⟩⟩ g2
    have g2' : x = blkL s ((cmL s).take (comsF s).length) := g2
    subst g2'
    have e : blankF s = (blkL s (cmL s), 0, 0) := by unfold blankF; rw [if_neg (fun h => h he)]
    rw [e]
    refine ⟨?_, rfl, rfl⟩
    simp only [comsF, List.length_map, List.take_length]
end Go.Proofs.Tryd
set_option autoImplicit false
set_option linter.all false
namespace Go.Proofs.Tryd
open Go Go.VM
set_option maxRecDepth 100000
theorem ok50 (F : LexF) (G : LexG) (hc : G.rBlank = blankF) (hr : G.rComments = commentsF) (k1 : SpecOk prog 49 (S49 G)) : SpecOk prog 50 (S50 G) := by
  refine contract_by hm hE D50 fnok50 _ fun (z : ByteArray × Unit) hpre => ?_
  obtain ⟨s, ⟨⟩⟩ := z
  let I : ByteArray × Int × Unit → Prop := fun z => 0 ≤ z.2.1 ∧ z.2.1 ≤ s.size ∧ z.1 = (blkL s (cmL s)).extract 0 z.2.1.toNat
  let mu : ByteArray × Int × Unit → Nat := fun z => ((s.size : Int) - z.2.1).toNat
  let J : Int → ByteArray × Int × Unit → Prop := fun i z => 0 ≤ z.2.1 ∧ z.2.1 ≤ (cmL s).length ∧ z.1 = if inCm ((cmL s).take z.2.1.toNat) i then blank else s.extract i.toNat (i + 1).toNat
  let nu : Int → ByteArray × Int × Unit → Nat := fun _ z => (((cmL s).length : Int) - z.2.1).toNat
  refine pack _ 1 (a50 Lv.std I mu J nu) (only_tab (T := fT2 F G) (l := [49]) (tb_cons (tb_sp k1 (by kernel_rfl)) tb_nil)) ?_
  refine n50_go Lv.std F G I mu J nu s ?_
  simp only [n50, VC.holds, std_cmp, std_scmp, std_ar_add, std_ar_sub, std_scat, std_ext, std_slen, std_cast, std_toN, std_le3, std_catOk, std_nth, std_cnt, std_llen, std_get, std_inR, cmp_neq_t, cmp_neq_f, cmp_lss_t, cmp_lss_f, cmp_leq_t, cmp_leq_f, hc, hr, Prod.mk.injEq, and_true, true_and]
  refine ⟨fun hne => ?_, fun he => ?_⟩
  · have hne' : (chk s).2 ≠ 0 := fun e => hne (by unfold commentsF; rw [if_neg (fun h => h e)])
    simp only [blankF, commentsF, if_pos hne']; exact ⟨rfl, trivial, trivial⟩
  have he' : (chk s).2 = 0 := Classical.byContradiction fun e => by
    unfold commentsF at he; rw [if_pos e] at he; exact e he
  have eC : commentsF s = (cmL s, 0, 0) := by unfold commentsF; rw [if_neg (fun h => h he')]
  have eB : blankF s = (blkL s (cmL s), 0, 0) := by unfold blankF; rw [if_neg (fun h => h he')]
  simp only [eC, eB]
  have hb := chk_big he'
  have hl := cmL_len s
  have hz := blkL_size s (cmL s)
  refine ⟨⟨by show (0 : Int) ≤ 0; omega, by show (0 : Int) ≤ s.size; omega, ?_⟩, ?_⟩
  · show _ = (blkL s (cmL s)).extract 0 0
    exact ba_ext2 (by rw [ext_size]; simp; rfl) (fun i h0 h1 => by
      have : (0 : Int) ≤ i := h0
      have h1' : i < ((0 : Nat) : Int) := h1
      omega)
  rintro ⟨x, i, ⟨⟩⟩ ⟨i0, i1, i2⟩
  simp only at i0 i1 i2 ⊢
  refine ⟨fun hlt => ?_, fun hge => ?_⟩
  · have ew : IntKind.i64.wrap (i + 1) = i + 1 := wrap_i64 (by omega) (by omega)
    simp only [ew]
    refine ⟨⟨i0, by omega, by omega⟩, ⟨by show (0 : Int) ≤ 0; omega, by show (0 : Int) ≤ ((cmL s).length : Int); omega, rfl⟩, ?_⟩
    rintro ⟨t, k, ⟨⟩⟩ ⟨j0, j1, j2⟩
    simp only at j0 j1 j2 ⊢
    refine ⟨fun hk => ?_, fun hk => ?_⟩
    · obtain ⟨n, rfl⟩ : ∃ n : Nat, k = n := ⟨k.toNat, by omega⟩
      have hn : n < (cmL s).length := by omega
      have ek : IntKind.i64.wrap ((n : Int) + 1) = (n : Int) + 1 := wrap_i64 (by omega) (by omega)
      simp only [ek, Int.toNat_natCast, List.getElem?_eq_getElem hn, Option.getD_some] at j2 ⊢
      have htk : (cmL s).take (n + 1) = (cmL s).take n ++ [(cmL s)[n]] := take_snoc (cmL s) n hn
      have hin : inCm ((cmL s).take (n + 1)) i = (inCm ((cmL s).take n) i || (decide ((cmL s)[n].1 ≤ i) && decide (i < (cmL s)[n].2))) := by unfold inCm; rw [htk, List.any_append, List.any_cons, List.any_nil, Bool.or_false]
      have hmu : nu i (t, (n : Int) + 1, ()) < nu i (t, (n : Int), ()) := by show (((cmL s).length : Int) - ((n : Int) + 1)).toNat < (((cmL s).length : Int) - n).toNat; omega
      have hst : ∀ t' : ByteArray, t' = (if inCm ((cmL s).take (n + 1)) i then blank else s.extract i.toNat (i + 1).toNat) → J i (t', (n : Int) + 1, ()) := fun t' e => ⟨by show (0 : Int) ≤ (n : Int) + 1; omega, by show (n : Int) + 1 ≤ ((cmL s).length : Int); omega, by
        show t' = if inCm ((cmL s).take ((n : Int) + 1).toNat) i then blank else s.extract i.toNat (i + 1).toNat
        rw [show ((n : Int) + 1).toNat = n + 1 by omega]; exact e⟩
      refine ⟨⟨by omega, by omega⟩, fun c1 => ⟨⟨by omega, by omega⟩, fun c2 => ⟨rfl, hst _ ?_, hmu⟩, fun c2 => ⟨hst _ ?_, hmu⟩⟩, fun c1 => ⟨hst _ ?_, hmu⟩⟩
      · rw [hin, decide_eq_true c1, decide_eq_true c2]; simp; rfl
      · rw [hin, decide_eq_false (by omega : ¬ i < (cmL s)[n].2)]; simp [j2]
      · rw [hin, decide_eq_false (by omega : ¬ (cmL s)[n].1 ≤ i)]; simp [j2]
    · obtain rfl : k = ((cmL s).length : Int) := by omega
      rw [Int.toNat_natCast, List.take_length] at j2
      have ht : t.size = 1 := by
        rw [j2]
        split
        · rfl
        · rw [ext_size]; omega
      have hx : x.size = i.toNat := by rw [i2, ext_size, hz]; omega
      refine ⟨by omega, ⟨by show (0 : Int) ≤ i + 1; omega, by show i + 1 ≤ (s.size : Int); omega, ?_⟩, by show ((s.size : Int) - (i + 1)).toNat < ((s.size : Int) - i).toNat; omega⟩
      show x ++ t = (blkL s (cmL s)).extract 0 (i + 1).toNat
      refine ba_ext2 (by rw [app_size, hx, ht, ext_size, hz]; omega) fun m m0 m1 => ?_
      rw [app_size, hx, ht] at m1
      rw [byteAt_ext m0 (by rw [hz]; omega), show ((0 : Nat) : Int) + m = m by omega]
      by_cases hm : m < i
      · rw [byteAt_app_l m0 (by rw [hx]; omega), i2, byteAt_ext m0 (by rw [hz]; omega), show ((0 : Nat) : Int) + m = m by omega]
      · obtain rfl : m = i := by omega
        rw [byteAt_app_r (by rw [hx]; omega) (by rw [hx, ht]; omega), byteAt_blk s _ m m0 (by omega), j2, show m - (x.size : Int) = 0 by rw [hx]; omega]
        split
        · rfl
        · rw [byteAt_ext (by omega) (by omega)]; congr 1; omega
  · obtain rfl : i = (s.size : Int) := by omega
    refine ⟨?_, trivial, trivial⟩
    rw [i2]
    refine ba_ext2 (by rw [ext_size, hz]; omega) fun m m0 m1 => ?_
    rw [ext_size, hz] at m1
    rw [byteAt_ext m0 (by rw [hz]; omega), show ((0 : Nat) : Int) + m = m by omega]

theorem ok18 (F : LexF) (G : LexG) (hsh : F.short = shortF) (haw : F.awake = true) (h1 : G.comments = commentsF) (h2 : G.rComments = commentsF) (h3 : G.blank = blankF) (h4 : G.rBlank = blankF) (h5 : G.same = fun a b => decide (a = b)) (h6 : G.pSl = fun l => l.length ≤ 1000000)
    (k21 : SpecOk prog 21 (S21 F)) (k22 : SpecOk prog 22 (S22 F)) (k47 : SpecOk prog 47 (S47 G)) (k48 : SpecOk prog 48 (S48 G)) (k49 : SpecOk prog 49 (S49 G)) (k50 : SpecOk prog 50 (S50 G)) (k51 : SpecOk prog 51 (S51 G)) : SpecOk prog 18 law1 := by
  refine contract_by hm hE D18 fnok18 _ fun (z : ByteArray × Unit) hpre => ?_
  obtain ⟨s, ⟨⟩⟩ := z
  refine pack _ 1 a0 (only_tab (T := fT2 F G) (l := [21, 22, 47, 48, 49, 50, 51]) (tb_cons (tb_sp k21 (by kernel_rfl)) (tb_cons (tb_sp k22 (by kernel_rfl)) (tb_cons (tb_sp k47 (by kernel_rfl)) (tb_cons (tb_sp k48 (by kernel_rfl)) (tb_cons (tb_sp k49 (by kernel_rfl)) (tb_cons (tb_sp k50 (by kernel_rfl)) (tb_cons (tb_sp k51 (by kernel_rfl)) tb_nil)))))))) ?_
  refine n18_go Lv.std F G s ?_
  simp only [n18, VC.holds, std_cmp, std_scmp, std_beq, std_bnot, std_band, cmp_eql_t, cmp_eql_f, cmp_neq_t, cmp_neq_f, scmp_eql_t, scmp_eql_f, scmp_neq_t, scmp_neq_f, hsh, haw, h1, h2, h3, h4, h5, h6, Prod.mk.injEq, and_true, true_and]
  have hlen : (commentsF s).1.length ≤ 1000000 := by
    unfold commentsF
    split
    · simp
    · rename_i h
      have h' : (chk s).2 = 0 := Classical.byContradiction h
      have := chk_big h'; have := cmL_len s
      show (cmL s).length ≤ _; omega
  simp [hlen]
end Go.Proofs.Tryd
set_option autoImplicit false
set_option linter.all false
namespace Go.Proofs.Tryd
open Go Go.VM
set_option maxRecDepth 100000
def GG : LexG where
  coms := comsF
  rep := repF
  pRep := pRepF
  comments := commentsF
  blank := blankF
  rComments := commentsF
  rBlank := blankF
  same := fun a b => decide (a = b)
  pSl := fun l => l.length ≤ 1000000
theorem h103 : ItOk prog 103 (I103 FF GG) := ok103 FF GG rfl rfl rfl rfl rfl h84 h104
theorem h79 : SpecOk prog 79 (S79 GG) := ok79 GG rfl rfl
theorem h48 : SpecOk prog 48 (S48 GG) := ok48 FF GG rfl rfl rfl rfl h56 h103
theorem h47 : SpecOk prog 47 (S47 GG) := ok47 FF GG rfl rfl rfl rfl rfl rfl h56 h79 h103
theorem h49 : SpecOk prog 49 (S49 GG) := ok49 FF GG rfl rfl h59
theorem h50 : SpecOk prog 50 (S50 GG) := ok50 FF GG rfl rfl h49
theorem h51 : SpecOk prog 51 (S51 GG) := ok51 FF GG rfl rfl
theorem h18 : SpecOk prog 18 law1 := ok18 FF GG rfl rfl rfl rfl rfl rfl rfl rfl h21 h22 h47 h48 h49 h50 h51
end Go.Proofs.Tryd
