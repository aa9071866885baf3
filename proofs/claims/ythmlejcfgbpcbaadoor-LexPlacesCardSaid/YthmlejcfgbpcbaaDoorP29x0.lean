/- What some functions of the lexer compute, proved through the condition generator. No condition of ours. -/
import Derived.Test.YthmlejcfgbpcbaaDoorL2
import Derived.Test.YthmlejcfgbpcbaaDoorV1
import Derived.Shelf.Strings.Builder1
import Derived.Shelf.Strings.Builder2
import Derived.Shelf.Small.Strs
import Derived.Shelf.Strings.BuilderF
import Derived.Shelf.Utf8.RuneCount
import Derived.Shelf.Strconv.Atoi
import Derived.Shelf.Strconv.Itoa0
import Derived.Shelf.Strconv.Itoa1
import Derived.Shelf.LaysM
import Derived.Shelf.Strconv.Itoa2
import Derived.Shelf.Strconv.Itoa3
import Derived.Shelf.Strconv.AtoiErrFast
import Derived.Shelf.Strconv.ParseIntEmpty
import Derived.Shelf.Strconv.AtoiFail
import Derived.Shelf.Strconv.Clone
import Derived.Shelf.Strconv.SyntaxError
import Derived.Shelf.LaysC
import Derived.Shelf.Strconv.ToError
import Derived.Shelf.Strconv.Lower
import Derived.Shelf.Strconv.ParseUint10
import Derived.Shelf.Strconv.ParseUint10Empty
import Derived.Shelf.Strconv.ParseUint10Any
import Derived.Shelf.Strconv.ParseInt10
import Derived.Shelf.Strconv.AtoiLong
import Derived.Shelf.Strconv.AtoiInnerAll
import Derived.Shelf.Strconv.RangeError
import Derived.Shelf.Strconv.ToErrorRange
import Derived.Shelf.Strconv.AtoiAll
import Derived.Shelf.Strings.Search1
import Derived.Shelf.Strings.Search2
import Derived.Shelf.Strings.Search3
import Derived.Shelf.Strings.Count
import Derived.Shelf.Strings.Shaped
import Derived.Shelf.Strings.LastIndex
import Derived.Shelf.Strings.Prefix
import Derived.Shelf.Strings.Split
import Derived.Shelf.Strings.SplitShaped
import Derived.Shelf.Unicode.Decode
import Derived.Shelf.Strings.RuneCount
import Derived.Shelf.Strings.Explode
import Derived.Shelf.Bits.Mul64
import Derived.Shelf.Strings.Repeat
import Derived.Shelf.Unicode.DecodeSlow
import Derived.Shelf.Unicode.DecodeAny
import Derived.Test.YthmlejcfgbpcbaaDoorProg
set_option autoImplicit false
set_option linter.all false
namespace Go.Proofs.Tryd
open Go Go.VM
set_option maxRecDepth 100000
abbrev Pt : Ty := .pair It It
structure LexG where
  coms : ByteArray → List (Int × Int × Unit)
  rep : ByteArray → Int → ByteArray
  pRep : ByteArray → Int → Prop
  comments : ByteArray → List (Int × Int) × Int × Int
  blank : ByteArray → ByteArray × Int × Int
  rComments : ByteArray → List (Int × Int) × Int × Int
  rBlank : ByteArray → ByteArray × Int × Int
  same : List (Int × Int) → List (Int × Int) → Bool
  pSl : List (Int × Int) → Prop
theorem at103 : prog.funcs[103]? = some f103 := by kernel_rfl
theorem at78 : prog.funcs[78]? = some f78 := by kernel_rfl
def pl0 : Nat → Plan := fun _ => []
noncomputable def D103 (ann : Nat → LAnn) : FnD := ⟨f103.body.getD .skip, f103.ntmps, f103.results.toList, pl0, ann⟩
theorem fnok103 (ann : Nat → LAnn) : FnOk prog 103 (D103 ann) := ⟨f103, at103, by kernel_rfl, by kernel_rfl, rfl, rfl, by kernel_rfl⟩
noncomputable def D78 (ann : Nat → LAnn) : FnD := ⟨f78.body.getD .skip, f78.ntmps, f78.results.toList, pl0, ann⟩
theorem fnok78 (ann : Nat → LAnn) : FnOk prog 78 (D78 ann) := ⟨f78, at78, by kernel_rfl, by kernel_rfl, rfl, rfl, by kernel_rfl⟩
def I103 (F : LexF) (G : LexG) : VM.It := ⟨[.str], [It, It], fun x => F.pS x.1, fun x => G.coms x.1⟩
def S48 (G : LexG) : VM.Spec := ⟨[.str], [.sl Pt, It, It], fun _ => True, fun x => ((G.comments x.1).1, (G.comments x.1).2.1, (G.comments x.1).2.2, ())⟩
def S47 (G : LexG) : VM.Spec := ⟨[.str], [.str, It, It], fun _ => True, fun x => ((G.blank x.1).1, (G.blank x.1).2.1, (G.blank x.1).2.2, ())⟩
def S49 (G : LexG) : VM.Spec := ⟨[.str], [.sl Pt, It, It], fun _ => True, fun x => ((G.rComments x.1).1, (G.rComments x.1).2.1, (G.rComments x.1).2.2, ())⟩
def S50 (G : LexG) : VM.Spec := ⟨[.str], [.str, It, It], fun _ => True, fun x => ((G.rBlank x.1).1, (G.rBlank x.1).2.1, (G.rBlank x.1).2.2, ())⟩
def S51 (G : LexG) : VM.Spec := ⟨[.sl Pt, .sl Pt], [.bool], fun x => G.pSl x.1, fun x => (G.same x.1 x.2.1, ())⟩
def S79 (G : LexG) : VM.Spec := ⟨[.str, It], [.str], fun x => G.pRep x.1 x.2.1, fun x => (G.rep x.1 x.2.1, ())⟩
noncomputable def fT2 (F : LexF) (G : LexG) : FuncId → FT
  | 103 => .it (I103 F G) | 78 => .inl (D78 a0) | 48 => .spec (S48 G) | 47 => .spec (S47 G) | 49 => .spec (S49 G) | 50 => .spec (S50 G) | 51 => .spec (S51 G) | 79 => .spec (S79 G)
  | g => fT F g
noncomputable def vc2 (L : Lv) (F : LexF) (G : LexG) (l : List Nat) (d : FnD) (sp : VM.Spec) (x : Ds sp.ins) : VC := contractVC L E01 (callG L E01 (only (fT2 F G) l) 1) (spcOf (only (fT2 F G) l)) d sp x
def a103 (L : Lv) (I : Nat → Ds [It] → Prop) (mu : Ds [It] → Nat) : Nat → Option IAnn
  | 0 => anY L [0, 1, 3] [] [.s 3 It] I mu
  | _ => none
def a48 (L : Lv) (I : Nat → Ds [.sl Pt] → Prop) : Nat → LAnn
  | 0 => anR L [2] [(2, some 0, 93, Pt)] [.br 2 0 Pt] I
  | _ => .no
def a47 (L : Lv) (I : Nat → Ds [.str] → Prop) : Nat → LAnn
  | 0 => anR L [1] [] [.b 1 0 .str] I
  | _ => .no
def a49 (L : Lv) (I : Ds [.sl Pt, It, It] → Prop) (mu : Ds [.sl Pt, It, It] → Nat) : Nat → LAnn
  | 0 => anH L [0, 7, 8, 9] [(7, none, 93, Pt)] [.r 7 Pt, .s 8 It, .s 9 It] I mu
  | _ => .no
def a50 (L : Lv) (I : Ds [.str, It] → Prop) (mu : Ds [.str, It] → Nat) (J : Int → Ds [.str, It] → Prop) (nu : Int → Ds [.str, It] → Nat) : Nat → LAnn
  | 0 => anH L [0, 5, 8, 9] [] [.s 8 .str, .s 9 It] I mu
  | 2 => anHi L [0, 5, 8, 9, 10, 11] [] [.s 10 .str, .s 11 It] 9 J nu
  | _ => .no
def a51 (L : Lv) (I : Ds [It] → Prop) (mu : Ds [It] → Nat) : Nat → LAnn
  | 0 => anH L [0, 1, 5] [] [.s 5 It] I mu
  | _ => .no
def i103 (L : Lv) (F : LexF) (G : LexG) (I : Nat → Ds [It] → Prop) (mu : Ds [It] → Nat) (l : Nat) (s : ByteArray)  : VC :=
 VC.obl True
 (VC.obl
 (St.mk 27 [(0, V.c (C.yld l)), (1, V.ipt [C.str s]), (3, V.c (C.int IntKind.i64 (LexF.indexByte F s 37)))] [(0, Ob.amb)] 1 =
 St.mk 27 [(0, V.c (C.yld l)), (1, V.ipt [C.str s]), (3, V.c (C.int IntKind.i64 (LexF.indexByte F s 37)))] [(0, Ob.amb)] 1)
 (VC.obl (I 0 (LexF.indexByte F s 37, ()))
 (VC.all (Int × Unit) fun (x : Int × Unit) =>
 VC.all Nat fun (x_1 : Nat) =>
 VC.imp (I x_1 x)
 (VC.br (Lv.cmp L BinOp.geq (Prod.fst x) 0)
 (VC.obl (LexF.pAt F s (Prod.fst x) ∧ LexF.pS F s)
 (VC.obl (l = l)
 (VC.obl (Lv.nth L (Int × Int × Unit) (LexG.coms G s) x_1 (Prod.fst x, LexF.comment F s (Prod.fst x), ()))
 (VC.all Bool fun (x_2 : Bool) =>
 VC.br x_2
 (VC.obl (Lv.le3 L (LexF.comment F s (Prod.fst x)) (Lv.cast L (Lv.slen L s)) (Lv.slen L s))
 (VC.obl True
 (VC.br (Lv.cmp L BinOp.lss (LexF.indexByte F (Lv.ext L s (Lv.toN L (LexF.comment F s (Prod.fst x))) (Lv.toN L (Lv.cast L (Lv.slen L s)))) 37) 0)
 (VC.ok (Nat.succ x_1 = Lv.cnt L (Int × Int × Unit) (LexG.coms G s)))
 (VC.ok
 (St.mk 27
 [(0, V.c (C.yld l)), (1, V.ipt [C.str s]),
 (3,
 V.c
 (C.int IntKind.i64
 (Lv.ar L BinOp.add IntKind.i64 (LexF.comment F s (Prod.fst x))
 (LexF.indexByte F (Lv.ext L s (Lv.toN L (LexF.comment F s (Prod.fst x))) (Lv.toN L (Lv.cast L (Lv.slen L s)))) 37))))]
 [(0, Ob.amb)] 1 =
 St.mk 27
 [(0, V.c (C.yld l)), (1, V.ipt [C.str s]),
 (3,
 V.c
 (C.int IntKind.i64
 (Lv.ar L BinOp.add IntKind.i64 (LexF.comment F s (Prod.fst x))
 (LexF.indexByte F (Lv.ext L s (Lv.toN L (LexF.comment F s (Prod.fst x))) (Lv.toN L (Lv.cast L (Lv.slen L s)))) 37))))]
 [(0, Ob.amb)] 1 ∧
 I (Nat.succ x_1)
 (Lv.ar L BinOp.add IntKind.i64 (LexF.comment F s (Prod.fst x))
 (LexF.indexByte F (Lv.ext L s (Lv.toN L (LexF.comment F s (Prod.fst x))) (Lv.toN L (Lv.cast L (Lv.slen L s)))) 37),
 ()) ∧
 mu
 (Lv.ar L BinOp.add IntKind.i64 (LexF.comment F s (Prod.fst x))
 (LexF.indexByte F (Lv.ext L s (Lv.toN L (LexF.comment F s (Prod.fst x))) (Lv.toN L (Lv.cast L (Lv.slen L s)))) 37),
 ()) <
 mu x)))))
 (VC.ok True)))))
 (VC.ok (x_1 = Lv.cnt L (Int × Int × Unit) (LexG.coms G s)))))))
theorem i103_eq (L : Lv) (F : LexF) (G : LexG) (I : Nat → Ds [It] → Prop) (mu : Ds [It] → Nat) (l : Nat) (s : ByteArray) : iterVC L E01 (callG L E01 (only (fT2 F G) [84, 104]) 0) (spcOf (only (fT2 F G) [84, 104])) (D103 a0).code (D103 a0).ntmps (D103 a0).pl (a103 L I mu) (I103 F G) l (s, ()) = i103 L F G I mu l s := by kernel_rfl
theorem i103_go (L : Lv) (F : LexF) (G : LexG) (I : Nat → Ds [It] → Prop) (mu : Ds [It] → Nat) (l : Nat) (s : ByteArray) (h : VC.holds (i103 L F G I mu l s)) : Holds (iterVC L E01 (callG L E01 (only (fT2 F G) [84, 104]) 0) (spcOf (only (fT2 F G) [84, 104])) (D103 a0).code (D103 a0).ntmps (D103 a0).pl (a103 L I mu) (I103 F G) l (s, ())) := Holds.of_eq (i103_eq L F G I mu l s) h
def n48 (L : Lv) (F : LexF) (G : LexG) (I : Nat → Ds [.sl Pt] → Prop) (s : ByteArray)  : VC :=
 VC.obl True
 (VC.br (Lv.cmp L BinOp.neq (Prod.snd (LexF.chk F s)) 0)
 (VC.ok
 (([], Prod.fst (LexF.chk F s), Prod.snd (LexF.chk F s), ()) =
 (Prod.fst (LexG.comments G s), Prod.fst (Prod.snd (LexG.comments G s)), Prod.snd (Prod.snd (LexG.comments G s)), ())))
 (VC.obl (LexF.pS F s)
 (VC.obl
 (St.mk 29 [(2, V.c (C.ptr 1 0))] [(0, Ob.amb), (1, Ob.box 58 [C.own 4 0]), (4, Ob.row 93 (Ty.pair (Ty.int IntKind.i64) (Ty.int IntKind.i64)) [])] 5 =
 St.mk 29 [(2, V.c (C.ptr 1 0))]
 [(0, Ob.amb), (1, Ob.box 58 [C.own 4 (Lv.llen L (Ty.pair (Ty.int IntKind.i64) (Ty.int IntKind.i64)) [])]), (4, Ob.row 93 (Ty.pair (Ty.int IntKind.i64) (Ty.int IntKind.i64)) [])] 5)
 (VC.obl (I 0 ([], ()))
 (VC.all Bool fun (x : Bool) =>
 VC.br x
 (VC.all (List (Int × Int) × Unit) fun (x : List (Int × Int) × Unit) =>
 VC.all Nat fun (x_1 : Nat) =>
 VC.all (Int × Int × Unit) fun (x_2 : Int × Int × Unit) =>
 VC.imp (Lv.nth L (Int × Int × Unit) (LexG.coms G s) x_1 x_2 ∧ I x_1 x)
 (VC.obl
 (Lv.room L
 (Lv.add L
 (Lv.llen L (Ty.pair (Ty.int IntKind.i64) (Ty.int IntKind.i64))
 (Lv.take L (Ty.pair (Ty.int IntKind.i64) (Ty.int IntKind.i64)) (Prod.fst x) (Lv.llen L (Ty.pair (Ty.int IntKind.i64) (Ty.int IntKind.i64)) (Prod.fst x))))
 (Lv.llen L (Ty.pair (Ty.int IntKind.i64) (Ty.int IntKind.i64)) (Lv.take L (Ty.pair (Ty.int IntKind.i64) (Ty.int IntKind.i64)) [(Prod.fst x_2, Prod.fst (Prod.snd x_2))] 1)))
 16)
 (VC.ok
 (St.mk 29 [(2, V.c (C.ptr 1 0))]
 [(0, Ob.amb),
 (1,
 Ob.box 58
 [C.own 4
 (Lv.add L
 (Lv.llen L (Ty.pair (Ty.int IntKind.i64) (Ty.int IntKind.i64))
 (Lv.take L (Ty.pair (Ty.int IntKind.i64) (Ty.int IntKind.i64)) (Prod.fst x) (Lv.llen L (Ty.pair (Ty.int IntKind.i64) (Ty.int IntKind.i64)) (Prod.fst x))))
 (Lv.llen L (Ty.pair (Ty.int IntKind.i64) (Ty.int IntKind.i64))
 (Lv.take L (Ty.pair (Ty.int IntKind.i64) (Ty.int IntKind.i64)) [(Prod.fst x_2, Prod.fst (Prod.snd x_2))] 1)))]),
 (4,
 Ob.row 93 (Ty.pair (Ty.int IntKind.i64) (Ty.int IntKind.i64))
 (Lv.app L (Ty.pair (Ty.int IntKind.i64) (Ty.int IntKind.i64))
 (Lv.take L (Ty.pair (Ty.int IntKind.i64) (Ty.int IntKind.i64)) (Prod.fst x) (Lv.llen L (Ty.pair (Ty.int IntKind.i64) (Ty.int IntKind.i64)) (Prod.fst x)))
 (Lv.take L (Ty.pair (Ty.int IntKind.i64) (Ty.int IntKind.i64)) [(Prod.fst x_2, Prod.fst (Prod.snd x_2))] 1)))]
 5 =
 St.mk 29 [(2, V.c (C.ptr 1 0))]
 [(0, Ob.amb),
 (1,
 Ob.box 58
 [C.own 4
 (Lv.llen L (Ty.pair (Ty.int IntKind.i64) (Ty.int IntKind.i64))
 (Lv.app L (Ty.pair (Ty.int IntKind.i64) (Ty.int IntKind.i64))
 (Lv.take L (Ty.pair (Ty.int IntKind.i64) (Ty.int IntKind.i64)) (Prod.fst x) (Lv.llen L (Ty.pair (Ty.int IntKind.i64) (Ty.int IntKind.i64)) (Prod.fst x)))
 (Lv.take L (Ty.pair (Ty.int IntKind.i64) (Ty.int IntKind.i64)) [(Prod.fst x_2, Prod.fst (Prod.snd x_2))] 1)))]),
 (4,
 Ob.row 93 (Ty.pair (Ty.int IntKind.i64) (Ty.int IntKind.i64))
 (Lv.app L (Ty.pair (Ty.int IntKind.i64) (Ty.int IntKind.i64))
 (Lv.take L (Ty.pair (Ty.int IntKind.i64) (Ty.int IntKind.i64)) (Prod.fst x) (Lv.llen L (Ty.pair (Ty.int IntKind.i64) (Ty.int IntKind.i64)) (Prod.fst x)))
 (Lv.take L (Ty.pair (Ty.int IntKind.i64) (Ty.int IntKind.i64)) [(Prod.fst x_2, Prod.fst (Prod.snd x_2))] 1)))]
 5 ∧
 I (Nat.succ x_1)
 (Lv.app L (Ty.pair (Ty.int IntKind.i64) (Ty.int IntKind.i64))
 (Lv.take L (Ty.pair (Ty.int IntKind.i64) (Ty.int IntKind.i64)) (Prod.fst x) (Lv.llen L (Ty.pair (Ty.int IntKind.i64) (Ty.int IntKind.i64)) (Prod.fst x)))
 (Lv.take L (Ty.pair (Ty.int IntKind.i64) (Ty.int IntKind.i64)) [(Prod.fst x_2, Prod.fst (Prod.snd x_2))] 1),
 ())))))
 (VC.all (List (Int × Int) × Unit) fun (x : List (Int × Int) × Unit) =>
 VC.imp (I (Lv.cnt L (Int × Int × Unit) (LexG.coms G s)) x)
 (VC.ok
 ((Lv.take L (Ty.pair (Ty.int IntKind.i64) (Ty.int IntKind.i64)) (Prod.fst x) (Lv.llen L (Ty.pair (Ty.int IntKind.i64) (Ty.int IntKind.i64)) (Prod.fst x)), 0, 0, ()) =
 (Prod.fst (LexG.comments G s), Prod.fst (Prod.snd (LexG.comments G s)), Prod.snd (Prod.snd (LexG.comments G s)), ())))))))))
theorem n48_eq (L : Lv) (F : LexF) (G : LexG) (I : Nat → Ds [.sl Pt] → Prop) (s : ByteArray) : vc2 L F G [56, 78, 103] (D48 (a48 L I)) (S48 G) (s, ()) = n48 L F G I s := by kernel_rfl
theorem n48_go (L : Lv) (F : LexF) (G : LexG) (I : Nat → Ds [.sl Pt] → Prop) (s : ByteArray) (h : VC.holds (n48 L F G I s)) : Holds (vc2 L F G [56, 78, 103] (D48 (a48 L I)) (S48 G) (s, ())) := Holds.of_eq (n48_eq L F G I s) h
def n47 (L : Lv) (F : LexF) (G : LexG) (I : Nat → Ds [.str] → Prop) (s : ByteArray)  : VC :=
 VC.obl True
 (VC.br (Lv.cmp L BinOp.neq (Prod.snd (LexF.chk F s)) 0)
 (VC.ok
 ((ByteArray.mk #[], Prod.fst (LexF.chk F s), Prod.snd (LexF.chk F s), ()) =
 (Prod.fst (LexG.blank G s), Prod.fst (Prod.snd (LexG.blank G s)), Prod.snd (Prod.snd (LexG.blank G s)), ())))
 (VC.obl (LexF.pS F s)
 (VC.obl (St.mk 35 [(1, V.c (C.ptr 1 0))] [(0, Ob.amb), (1, Ob.box 9 [C.str s])] 3 = St.mk 35 [(1, V.c (C.ptr 1 0))] [(0, Ob.amb), (1, Ob.box 9 [C.str s])] 3)
 (VC.obl (I 0 (s, ()))
 (VC.all Bool fun (x : Bool) =>
 VC.br x
 (VC.all (ByteArray × Unit) fun (x : ByteArray × Unit) =>
 VC.all Nat fun (x_1 : Nat) =>
 VC.all (Int × Int × Unit) fun (x_2 : Int × Int × Unit) =>
 VC.imp (Lv.nth L (Int × Int × Unit) (LexG.coms G s) x_1 x_2 ∧ I x_1 x)
 (VC.obl (Lv.le3 L (Lv.cast L 0) (Prod.fst x_2) (Lv.slen L (Prod.fst x)))
 (VC.obl
 (LexG.pRep G (ByteArray.mk (Array.mk [UInt8.ofBitVec (BitVec.ofFin (Fin.mk 32 (Nat.mod_lt 32 (BitVec.ofNat._proof_1 8))))]))
 (Lv.ar L BinOp.sub IntKind.i64 (Prod.fst (Prod.snd x_2)) (Prod.fst x_2)))
 (VC.obl
 (Lv.catOk L (Lv.ext L (Prod.fst x) (Lv.toN L (Lv.cast L 0)) (Lv.toN L (Prod.fst x_2)))
 (LexG.rep G (ByteArray.mk (Array.mk [UInt8.ofBitVec (BitVec.ofFin (Fin.mk 32 (Nat.mod_lt 32 (BitVec.ofNat._proof_1 8))))]))
 (Lv.ar L BinOp.sub IntKind.i64 (Prod.fst (Prod.snd x_2)) (Prod.fst x_2))))
 (VC.obl (Lv.le3 L (Prod.fst (Prod.snd x_2)) (Lv.cast L (Lv.slen L (Prod.fst x))) (Lv.slen L (Prod.fst x)))
 (VC.obl
 (Lv.catOk L
 (Lv.scat L (Lv.ext L (Prod.fst x) (Lv.toN L (Lv.cast L 0)) (Lv.toN L (Prod.fst x_2)))
 (LexG.rep G (ByteArray.mk (Array.mk [UInt8.ofBitVec (BitVec.ofFin (Fin.mk 32 (Nat.mod_lt 32 (BitVec.ofNat._proof_1 8))))]))
 (Lv.ar L BinOp.sub IntKind.i64 (Prod.fst (Prod.snd x_2)) (Prod.fst x_2))))
 (Lv.ext L (Prod.fst x) (Lv.toN L (Prod.fst (Prod.snd x_2))) (Lv.toN L (Lv.cast L (Lv.slen L (Prod.fst x))))))
 (VC.ok
 (St.mk 35 [(1, V.c (C.ptr 1 0))]
 [(0, Ob.amb),
 (1,
 Ob.box 9
 [C.str
 (Lv.scat L
 (Lv.scat L (Lv.ext L (Prod.fst x) (Lv.toN L (Lv.cast L 0)) (Lv.toN L (Prod.fst x_2)))
 (LexG.rep G (ByteArray.mk (Array.mk [UInt8.ofBitVec (BitVec.ofFin (Fin.mk 32 (Nat.mod_lt 32 (BitVec.ofNat._proof_1 8))))]))
 (Lv.ar L BinOp.sub IntKind.i64 (Prod.fst (Prod.snd x_2)) (Prod.fst x_2))))
 (Lv.ext L (Prod.fst x) (Lv.toN L (Prod.fst (Prod.snd x_2))) (Lv.toN L (Lv.cast L (Lv.slen L (Prod.fst x))))))])]
 3 =
 St.mk 35 [(1, V.c (C.ptr 1 0))]
 [(0, Ob.amb),
 (1,
 Ob.box 9
 [C.str
 (Lv.scat L
 (Lv.scat L (Lv.ext L (Prod.fst x) (Lv.toN L (Lv.cast L 0)) (Lv.toN L (Prod.fst x_2)))
 (LexG.rep G (ByteArray.mk (Array.mk [UInt8.ofBitVec (BitVec.ofFin (Fin.mk 32 (Nat.mod_lt 32 (BitVec.ofNat._proof_1 8))))]))
 (Lv.ar L BinOp.sub IntKind.i64 (Prod.fst (Prod.snd x_2)) (Prod.fst x_2))))
 (Lv.ext L (Prod.fst x) (Lv.toN L (Prod.fst (Prod.snd x_2))) (Lv.toN L (Lv.cast L (Lv.slen L (Prod.fst x))))))])]
 3 ∧
 I (Nat.succ x_1)
 (Lv.scat L
 (Lv.scat L (Lv.ext L (Prod.fst x) (Lv.toN L (Lv.cast L 0)) (Lv.toN L (Prod.fst x_2)))
 (LexG.rep G (ByteArray.mk (Array.mk [UInt8.ofBitVec (BitVec.ofFin (Fin.mk 32 (Nat.mod_lt 32 (BitVec.ofNat._proof_1 8))))]))
 (Lv.ar L BinOp.sub IntKind.i64 (Prod.fst (Prod.snd x_2)) (Prod.fst x_2))))
 (Lv.ext L (Prod.fst x) (Lv.toN L (Prod.fst (Prod.snd x_2))) (Lv.toN L (Lv.cast L (Lv.slen L (Prod.fst x))))),
 ())))))))))
 (VC.all (ByteArray × Unit) fun (x : ByteArray × Unit) =>
 VC.imp (I (Lv.cnt L (Int × Int × Unit) (LexG.coms G s)) x)
 (VC.ok ((Prod.fst x, 0, 0, ()) = (Prod.fst (LexG.blank G s), Prod.fst (Prod.snd (LexG.blank G s)), Prod.snd (Prod.snd (LexG.blank G s)), ())))))))))
theorem n47_eq (L : Lv) (F : LexF) (G : LexG) (I : Nat → Ds [.str] → Prop) (s : ByteArray) : vc2 L F G [56, 78, 79, 103] (D47 (a47 L I)) (S47 G) (s, ()) = n47 L F G I s := by kernel_rfl
theorem n47_go (L : Lv) (F : LexF) (G : LexG) (I : Nat → Ds [.str] → Prop) (s : ByteArray) (h : VC.holds (n47 L F G I s)) : Holds (vc2 L F G [56, 78, 79, 103] (D47 (a47 L I)) (S47 G) (s, ())) := Holds.of_eq (n47_eq L F G I s) h
def n49 (L : Lv) (F : LexF) (G : LexG) (I : Ds [.sl Pt, It, It] → Prop) (mu : Ds [.sl Pt, It, It] → Nat) (s : ByteArray)  : VC :=
 VC.obl True
 (VC.br (Lv.cmp L BinOp.neq (Prod.snd (LexF.chk F s)) 0)
 (VC.ok
 (([], Prod.fst (LexF.chk F s), Prod.snd (LexF.chk F s), ()) =
 (Prod.fst (LexG.rComments G s), Prod.fst (Prod.snd (LexG.rComments G s)), Prod.snd (Prod.snd (LexG.rComments G s)), ())))
 (VC.obl
 (St.mk 55 [(0, V.c (C.str s)), (7, V.c (C.own 2 0)), (8, V.c (C.int IntKind.i64 (Int.negSucc 0))), (9, V.c (C.int IntKind.i64 0))]
 [(0, Ob.amb), (2, Ob.row 93 (Ty.pair (Ty.int IntKind.i64) (Ty.int IntKind.i64)) [])] 3 =
 St.mk 55
 [(0, V.c (C.str s)), (7, V.c (C.own 2 (Lv.llen L (Ty.pair (Ty.int IntKind.i64) (Ty.int IntKind.i64)) []))), (8, V.c (C.int IntKind.i64 (Int.negSucc 0))), (9, V.c (C.int IntKind.i64 0))]
 [(0, Ob.amb), (2, Ob.row 93 (Ty.pair (Ty.int IntKind.i64) (Ty.int IntKind.i64)) [])] 3)
 (VC.obl (I ([], Int.negSucc 0, 0, ()))
 (VC.all (List (Int × Int) × Int × Int × Unit) fun (x : List (Int × Int) × Int × Int × Unit) =>
 VC.imp (I x)
 (VC.br (Lv.cmp L BinOp.leq (Prod.fst (Prod.snd (Prod.snd x))) (Lv.cast L (Lv.slen L s)))
 (VC.br (Lv.cmp L BinOp.eql (Prod.fst (Prod.snd (Prod.snd x))) (Lv.cast L (Lv.slen L s)))
 (VC.br (Lv.cmp L BinOp.geq (Prod.fst (Prod.snd x)) 0)
 (VC.obl
 (Lv.room L
 (Lv.add L
 (Lv.llen L (Ty.pair (Ty.int IntKind.i64) (Ty.int IntKind.i64))
 (Lv.take L (Ty.pair (Ty.int IntKind.i64) (Ty.int IntKind.i64)) (Prod.fst x) (Lv.llen L (Ty.pair (Ty.int IntKind.i64) (Ty.int IntKind.i64)) (Prod.fst x))))
 (Lv.llen L (Ty.pair (Ty.int IntKind.i64) (Ty.int IntKind.i64))
 (Lv.take L (Ty.pair (Ty.int IntKind.i64) (Ty.int IntKind.i64)) [(Prod.fst (Prod.snd x), Prod.fst (Prod.snd (Prod.snd x)))] 1)))
 16)
 (VC.ok
 (St.mk 55
 [(0, V.c (C.str s)),
 (7,
 V.c
 (C.own 2
 (Lv.add L
 (Lv.llen L (Ty.pair (Ty.int IntKind.i64) (Ty.int IntKind.i64))
 (Lv.take L (Ty.pair (Ty.int IntKind.i64) (Ty.int IntKind.i64)) (Prod.fst x) (Lv.llen L (Ty.pair (Ty.int IntKind.i64) (Ty.int IntKind.i64)) (Prod.fst x))))
 (Lv.llen L (Ty.pair (Ty.int IntKind.i64) (Ty.int IntKind.i64))
 (Lv.take L (Ty.pair (Ty.int IntKind.i64) (Ty.int IntKind.i64)) [(Prod.fst (Prod.snd x), Prod.fst (Prod.snd (Prod.snd x)))] 1))))),
 (8, V.c (C.int IntKind.i64 (Int.negSucc 0))), (9, V.c (C.int IntKind.i64 (Lv.ar L BinOp.add IntKind.i64 (Prod.fst (Prod.snd (Prod.snd x))) 1)))]
 [(0, Ob.amb),
 (2,
 Ob.row 93 (Ty.pair (Ty.int IntKind.i64) (Ty.int IntKind.i64))
 (Lv.app L (Ty.pair (Ty.int IntKind.i64) (Ty.int IntKind.i64))
 (Lv.take L (Ty.pair (Ty.int IntKind.i64) (Ty.int IntKind.i64)) (Prod.fst x) (Lv.llen L (Ty.pair (Ty.int IntKind.i64) (Ty.int IntKind.i64)) (Prod.fst x)))
 (Lv.take L (Ty.pair (Ty.int IntKind.i64) (Ty.int IntKind.i64)) [(Prod.fst (Prod.snd x), Prod.fst (Prod.snd (Prod.snd x)))] 1)))]
 3 =
 St.mk 55
 [(0, V.c (C.str s)),
 (7,
 V.c
 (C.own 2
 (Lv.llen L (Ty.pair (Ty.int IntKind.i64) (Ty.int IntKind.i64))
 (Lv.app L (Ty.pair (Ty.int IntKind.i64) (Ty.int IntKind.i64))
 (Lv.take L (Ty.pair (Ty.int IntKind.i64) (Ty.int IntKind.i64)) (Prod.fst x) (Lv.llen L (Ty.pair (Ty.int IntKind.i64) (Ty.int IntKind.i64)) (Prod.fst x)))
 (Lv.take L (Ty.pair (Ty.int IntKind.i64) (Ty.int IntKind.i64)) [(Prod.fst (Prod.snd x), Prod.fst (Prod.snd (Prod.snd x)))] 1))))),
 (8, V.c (C.int IntKind.i64 (Int.negSucc 0))), (9, V.c (C.int IntKind.i64 (Lv.ar L BinOp.add IntKind.i64 (Prod.fst (Prod.snd (Prod.snd x))) 1)))]
 [(0, Ob.amb),
 (2,
 Ob.row 93 (Ty.pair (Ty.int IntKind.i64) (Ty.int IntKind.i64))
 (Lv.app L (Ty.pair (Ty.int IntKind.i64) (Ty.int IntKind.i64))
 (Lv.take L (Ty.pair (Ty.int IntKind.i64) (Ty.int IntKind.i64)) (Prod.fst x) (Lv.llen L (Ty.pair (Ty.int IntKind.i64) (Ty.int IntKind.i64)) (Prod.fst x)))
 (Lv.take L (Ty.pair (Ty.int IntKind.i64) (Ty.int IntKind.i64)) [(Prod.fst (Prod.snd x), Prod.fst (Prod.snd (Prod.snd x)))] 1)))]
 3 ∧
 I
 (Lv.app L (Ty.pair (Ty.int IntKind.i64) (Ty.int IntKind.i64))
 (Lv.take L (Ty.pair (Ty.int IntKind.i64) (Ty.int IntKind.i64)) (Prod.fst x) (Lv.llen L (Ty.pair (Ty.int IntKind.i64) (Ty.int IntKind.i64)) (Prod.fst x)))
 (Lv.take L (Ty.pair (Ty.int IntKind.i64) (Ty.int IntKind.i64)) [(Prod.fst (Prod.snd x), Prod.fst (Prod.snd (Prod.snd x)))] 1),
 Int.negSucc 0, Lv.ar L BinOp.add IntKind.i64 (Prod.fst (Prod.snd (Prod.snd x))) 1, ()) ∧
 mu
 (Lv.app L (Ty.pair (Ty.int IntKind.i64) (Ty.int IntKind.i64))
 (Lv.take L (Ty.pair (Ty.int IntKind.i64) (Ty.int IntKind.i64)) (Prod.fst x) (Lv.llen L (Ty.pair (Ty.int IntKind.i64) (Ty.int IntKind.i64)) (Prod.fst x)))
 (Lv.take L (Ty.pair (Ty.int IntKind.i64) (Ty.int IntKind.i64)) [(Prod.fst (Prod.snd x), Prod.fst (Prod.snd (Prod.snd x)))] 1),
 Int.negSucc 0, Lv.ar L BinOp.add IntKind.i64 (Prod.fst (Prod.snd (Prod.snd x))) 1, ()) <
 mu x)))
 (VC.ok
 (St.mk 55
 [(0, V.c (C.str s)), (7, V.c (C.own 2 (Lv.llen L (Ty.pair (Ty.int IntKind.i64) (Ty.int IntKind.i64)) (Prod.fst x)))), (8, V.c (C.int IntKind.i64 (Int.negSucc 0))),
 (9, V.c (C.int IntKind.i64 (Lv.ar L BinOp.add IntKind.i64 (Prod.fst (Prod.snd (Prod.snd x))) 1)))]
 [(0, Ob.amb), (2, Ob.row 93 (Ty.pair (Ty.int IntKind.i64) (Ty.int IntKind.i64)) (Prod.fst x))] 3 =
 St.mk 55
 [(0, V.c (C.str s)), (7, V.c (C.own 2 (Lv.llen L (Ty.pair (Ty.int IntKind.i64) (Ty.int IntKind.i64)) (Prod.fst x)))), (8, V.c (C.int IntKind.i64 (Int.negSucc 0))),
 (9, V.c (C.int IntKind.i64 (Lv.ar L BinOp.add IntKind.i64 (Prod.fst (Prod.snd (Prod.snd x))) 1)))]
 [(0, Ob.amb), (2, Ob.row 93 (Ty.pair (Ty.int IntKind.i64) (Ty.int IntKind.i64)) (Prod.fst x))] 3 ∧
 I (Prod.fst x, Int.negSucc 0, Lv.ar L BinOp.add IntKind.i64 (Prod.fst (Prod.snd (Prod.snd x))) 1, ()) ∧
 mu (Prod.fst x, Int.negSucc 0, Lv.ar L BinOp.add IntKind.i64 (Prod.fst (Prod.snd (Prod.snd x))) 1, ()) < mu x)))
 (VC.obl (Lv.inR L (Prod.fst (Prod.snd (Prod.snd x))) (Lv.slen L s))
 (VC.br (Lv.cmp L BinOp.eql (Lv.byte L s (Prod.fst (Prod.snd (Prod.snd x)))) 10)
 (VC.br (Lv.cmp L BinOp.geq (Prod.fst (Prod.snd x)) 0)
 (VC.obl
 (Lv.room L
 (Lv.add L
 (Lv.llen L (Ty.pair (Ty.int IntKind.i64) (Ty.int IntKind.i64))
 (Lv.take L (Ty.pair (Ty.int IntKind.i64) (Ty.int IntKind.i64)) (Prod.fst x) (Lv.llen L (Ty.pair (Ty.int IntKind.i64) (Ty.int IntKind.i64)) (Prod.fst x))))
 (Lv.llen L (Ty.pair (Ty.int IntKind.i64) (Ty.int IntKind.i64))
 (Lv.take L (Ty.pair (Ty.int IntKind.i64) (Ty.int IntKind.i64)) [(Prod.fst (Prod.snd x), Prod.fst (Prod.snd (Prod.snd x)))] 1)))
 16)
 (VC.ok
 (St.mk 55
 [(0, V.c (C.str s)),
 (7,
 V.c
 (C.own 2
 (Lv.add L
 (Lv.llen L (Ty.pair (Ty.int IntKind.i64) (Ty.int IntKind.i64))
 (Lv.take L (Ty.pair (Ty.int IntKind.i64) (Ty.int IntKind.i64)) (Prod.fst x) (Lv.llen L (Ty.pair (Ty.int IntKind.i64) (Ty.int IntKind.i64)) (Prod.fst x))))
 (Lv.llen L (Ty.pair (Ty.int IntKind.i64) (Ty.int IntKind.i64))
 (Lv.take L (Ty.pair (Ty.int IntKind.i64) (Ty.int IntKind.i64)) [(Prod.fst (Prod.snd x), Prod.fst (Prod.snd (Prod.snd x)))] 1))))),
 (8, V.c (C.int IntKind.i64 (Int.negSucc 0))), (9, V.c (C.int IntKind.i64 (Lv.ar L BinOp.add IntKind.i64 (Prod.fst (Prod.snd (Prod.snd x))) 1)))]
 [(0, Ob.amb),
 (2,
 Ob.row 93 (Ty.pair (Ty.int IntKind.i64) (Ty.int IntKind.i64))
 (Lv.app L (Ty.pair (Ty.int IntKind.i64) (Ty.int IntKind.i64))
 (Lv.take L (Ty.pair (Ty.int IntKind.i64) (Ty.int IntKind.i64)) (Prod.fst x) (Lv.llen L (Ty.pair (Ty.int IntKind.i64) (Ty.int IntKind.i64)) (Prod.fst x)))
 (Lv.take L (Ty.pair (Ty.int IntKind.i64) (Ty.int IntKind.i64)) [(Prod.fst (Prod.snd x), Prod.fst (Prod.snd (Prod.snd x)))] 1)))]
 3 =
 St.mk 55
 [(0, V.c (C.str s)),
 (7,
 V.c
 (C.own 2
 (Lv.llen L (Ty.pair (Ty.int IntKind.i64) (Ty.int IntKind.i64))
 (Lv.app L (Ty.pair (Ty.int IntKind.i64) (Ty.int IntKind.i64))
 (Lv.take L (Ty.pair (Ty.int IntKind.i64) (Ty.int IntKind.i64)) (Prod.fst x) (Lv.llen L (Ty.pair (Ty.int IntKind.i64) (Ty.int IntKind.i64)) (Prod.fst x)))
 (Lv.take L (Ty.pair (Ty.int IntKind.i64) (Ty.int IntKind.i64)) [(Prod.fst (Prod.snd x), Prod.fst (Prod.snd (Prod.snd x)))] 1))))),
 (8, V.c (C.int IntKind.i64 (Int.negSucc 0))), (9, V.c (C.int IntKind.i64 (Lv.ar L BinOp.add IntKind.i64 (Prod.fst (Prod.snd (Prod.snd x))) 1)))]
 [(0, Ob.amb),
 (2,
 Ob.row 93 (Ty.pair (Ty.int IntKind.i64) (Ty.int IntKind.i64))
 (Lv.app L (Ty.pair (Ty.int IntKind.i64) (Ty.int IntKind.i64))
 (Lv.take L (Ty.pair (Ty.int IntKind.i64) (Ty.int IntKind.i64)) (Prod.fst x) (Lv.llen L (Ty.pair (Ty.int IntKind.i64) (Ty.int IntKind.i64)) (Prod.fst x)))
 (Lv.take L (Ty.pair (Ty.int IntKind.i64) (Ty.int IntKind.i64)) [(Prod.fst (Prod.snd x), Prod.fst (Prod.snd (Prod.snd x)))] 1)))]
 3 ∧
 I
 (Lv.app L (Ty.pair (Ty.int IntKind.i64) (Ty.int IntKind.i64))
 (Lv.take L (Ty.pair (Ty.int IntKind.i64) (Ty.int IntKind.i64)) (Prod.fst x) (Lv.llen L (Ty.pair (Ty.int IntKind.i64) (Ty.int IntKind.i64)) (Prod.fst x)))
 (Lv.take L (Ty.pair (Ty.int IntKind.i64) (Ty.int IntKind.i64)) [(Prod.fst (Prod.snd x), Prod.fst (Prod.snd (Prod.snd x)))] 1),
 Int.negSucc 0, Lv.ar L BinOp.add IntKind.i64 (Prod.fst (Prod.snd (Prod.snd x))) 1, ()) ∧
 mu
 (Lv.app L (Ty.pair (Ty.int IntKind.i64) (Ty.int IntKind.i64))
 (Lv.take L (Ty.pair (Ty.int IntKind.i64) (Ty.int IntKind.i64)) (Prod.fst x) (Lv.llen L (Ty.pair (Ty.int IntKind.i64) (Ty.int IntKind.i64)) (Prod.fst x)))
 (Lv.take L (Ty.pair (Ty.int IntKind.i64) (Ty.int IntKind.i64)) [(Prod.fst (Prod.snd x), Prod.fst (Prod.snd (Prod.snd x)))] 1),
 Int.negSucc 0, Lv.ar L BinOp.add IntKind.i64 (Prod.fst (Prod.snd (Prod.snd x))) 1, ()) <
 mu x)))
 (VC.ok
 (St.mk 55
 [(0, V.c (C.str s)), (7, V.c (C.own 2 (Lv.llen L (Ty.pair (Ty.int IntKind.i64) (Ty.int IntKind.i64)) (Prod.fst x)))), (8, V.c (C.int IntKind.i64 (Int.negSucc 0))),
 (9, V.c (C.int IntKind.i64 (Lv.ar L BinOp.add IntKind.i64 (Prod.fst (Prod.snd (Prod.snd x))) 1)))]
 [(0, Ob.amb), (2, Ob.row 93 (Ty.pair (Ty.int IntKind.i64) (Ty.int IntKind.i64)) (Prod.fst x))] 3 =
 St.mk 55
 [(0, V.c (C.str s)), (7, V.c (C.own 2 (Lv.llen L (Ty.pair (Ty.int IntKind.i64) (Ty.int IntKind.i64)) (Prod.fst x)))), (8, V.c (C.int IntKind.i64 (Int.negSucc 0))),
 (9, V.c (C.int IntKind.i64 (Lv.ar L BinOp.add IntKind.i64 (Prod.fst (Prod.snd (Prod.snd x))) 1)))]
 [(0, Ob.amb), (2, Ob.row 93 (Ty.pair (Ty.int IntKind.i64) (Ty.int IntKind.i64)) (Prod.fst x))] 3 ∧
 I (Prod.fst x, Int.negSucc 0, Lv.ar L BinOp.add IntKind.i64 (Prod.fst (Prod.snd (Prod.snd x))) 1, ()) ∧
 mu (Prod.fst x, Int.negSucc 0, Lv.ar L BinOp.add IntKind.i64 (Prod.fst (Prod.snd (Prod.snd x))) 1, ()) < mu x)))
 (VC.obl (Lv.inR L (Prod.fst (Prod.snd (Prod.snd x))) (Lv.slen L s))
 (VC.br (Lv.cmp L BinOp.eql (Lv.byte L s (Prod.fst (Prod.snd (Prod.snd x)))) 37)
 (VC.br (Lv.cmp L BinOp.lss (Prod.fst (Prod.snd x)) 0)
 (VC.ok
 (St.mk 55
 [(0, V.c (C.str s)), (7, V.c (C.own 2 (Lv.llen L (Ty.pair (Ty.int IntKind.i64) (Ty.int IntKind.i64)) (Prod.fst x)))),
 (8, V.c (C.int IntKind.i64 (Prod.fst (Prod.snd (Prod.snd x))))), (9, V.c (C.int IntKind.i64 (Lv.ar L BinOp.add IntKind.i64 (Prod.fst (Prod.snd (Prod.snd x))) 1)))]
 [(0, Ob.amb), (2, Ob.row 93 (Ty.pair (Ty.int IntKind.i64) (Ty.int IntKind.i64)) (Prod.fst x))] 3 =
 St.mk 55
 [(0, V.c (C.str s)), (7, V.c (C.own 2 (Lv.llen L (Ty.pair (Ty.int IntKind.i64) (Ty.int IntKind.i64)) (Prod.fst x)))),
 (8, V.c (C.int IntKind.i64 (Prod.fst (Prod.snd (Prod.snd x))))), (9, V.c (C.int IntKind.i64 (Lv.ar L BinOp.add IntKind.i64 (Prod.fst (Prod.snd (Prod.snd x))) 1)))]
 [(0, Ob.amb), (2, Ob.row 93 (Ty.pair (Ty.int IntKind.i64) (Ty.int IntKind.i64)) (Prod.fst x))] 3 ∧
 I (Prod.fst x, Prod.fst (Prod.snd (Prod.snd x)), Lv.ar L BinOp.add IntKind.i64 (Prod.fst (Prod.snd (Prod.snd x))) 1, ()) ∧
 mu (Prod.fst x, Prod.fst (Prod.snd (Prod.snd x)), Lv.ar L BinOp.add IntKind.i64 (Prod.fst (Prod.snd (Prod.snd x))) 1, ()) < mu x))
 (VC.ok
 (St.mk 55
 [(0, V.c (C.str s)), (7, V.c (C.own 2 (Lv.llen L (Ty.pair (Ty.int IntKind.i64) (Ty.int IntKind.i64)) (Prod.fst x)))),
 (8, V.c (C.int IntKind.i64 (Prod.fst (Prod.snd x)))), (9, V.c (C.int IntKind.i64 (Lv.ar L BinOp.add IntKind.i64 (Prod.fst (Prod.snd (Prod.snd x))) 1)))]
 [(0, Ob.amb), (2, Ob.row 93 (Ty.pair (Ty.int IntKind.i64) (Ty.int IntKind.i64)) (Prod.fst x))] 3 =
 St.mk 55
 [(0, V.c (C.str s)), (7, V.c (C.own 2 (Lv.llen L (Ty.pair (Ty.int IntKind.i64) (Ty.int IntKind.i64)) (Prod.fst x)))),
 (8, V.c (C.int IntKind.i64 (Prod.fst (Prod.snd x)))), (9, V.c (C.int IntKind.i64 (Lv.ar L BinOp.add IntKind.i64 (Prod.fst (Prod.snd (Prod.snd x))) 1)))]
 [(0, Ob.amb), (2, Ob.row 93 (Ty.pair (Ty.int IntKind.i64) (Ty.int IntKind.i64)) (Prod.fst x))] 3 ∧
 I (Prod.fst x, Prod.fst (Prod.snd x), Lv.ar L BinOp.add IntKind.i64 (Prod.fst (Prod.snd (Prod.snd x))) 1, ()) ∧
 mu (Prod.fst x, Prod.fst (Prod.snd x), Lv.ar L BinOp.add IntKind.i64 (Prod.fst (Prod.snd (Prod.snd x))) 1, ()) < mu x)))
 (VC.ok
 (St.mk 55
 [(0, V.c (C.str s)), (7, V.c (C.own 2 (Lv.llen L (Ty.pair (Ty.int IntKind.i64) (Ty.int IntKind.i64)) (Prod.fst x)))),
 (8, V.c (C.int IntKind.i64 (Prod.fst (Prod.snd x)))), (9, V.c (C.int IntKind.i64 (Lv.ar L BinOp.add IntKind.i64 (Prod.fst (Prod.snd (Prod.snd x))) 1)))]
 [(0, Ob.amb), (2, Ob.row 93 (Ty.pair (Ty.int IntKind.i64) (Ty.int IntKind.i64)) (Prod.fst x))] 3 =
 St.mk 55
 [(0, V.c (C.str s)), (7, V.c (C.own 2 (Lv.llen L (Ty.pair (Ty.int IntKind.i64) (Ty.int IntKind.i64)) (Prod.fst x)))),
 (8, V.c (C.int IntKind.i64 (Prod.fst (Prod.snd x)))), (9, V.c (C.int IntKind.i64 (Lv.ar L BinOp.add IntKind.i64 (Prod.fst (Prod.snd (Prod.snd x))) 1)))]
 [(0, Ob.amb), (2, Ob.row 93 (Ty.pair (Ty.int IntKind.i64) (Ty.int IntKind.i64)) (Prod.fst x))] 3 ∧
 I (Prod.fst x, Prod.fst (Prod.snd x), Lv.ar L BinOp.add IntKind.i64 (Prod.fst (Prod.snd (Prod.snd x))) 1, ()) ∧
 mu (Prod.fst x, Prod.fst (Prod.snd x), Lv.ar L BinOp.add IntKind.i64 (Prod.fst (Prod.snd (Prod.snd x))) 1, ()) < mu x)))))))
 (VC.ok
 ((Lv.take L (Ty.pair (Ty.int IntKind.i64) (Ty.int IntKind.i64)) (Prod.fst x) (Lv.llen L (Ty.pair (Ty.int IntKind.i64) (Ty.int IntKind.i64)) (Prod.fst x)), 0, 0, ()) =
 (Prod.fst (LexG.rComments G s), Prod.fst (Prod.snd (LexG.rComments G s)), Prod.snd (Prod.snd (LexG.rComments G s)), ()))))))))
theorem n49_eq (L : Lv) (F : LexF) (G : LexG) (I : Ds [.sl Pt, It, It] → Prop) (mu : Ds [.sl Pt, It, It] → Nat) (s : ByteArray) : vc2 L F G [59] (D49 (a49 L I mu)) (S49 G) (s, ()) = n49 L F G I mu s := by kernel_rfl
theorem n49_go (L : Lv) (F : LexF) (G : LexG) (I : Ds [.sl Pt, It, It] → Prop) (mu : Ds [.sl Pt, It, It] → Nat) (s : ByteArray) (h : VC.holds (n49 L F G I mu s)) : Holds (vc2 L F G [59] (D49 (a49 L I mu)) (S49 G) (s, ())) := Holds.of_eq (n49_eq L F G I mu s) h
def n50 (L : Lv) (F : LexF) (G : LexG) (I : Ds [.str, It] → Prop) (mu : Ds [.str, It] → Nat) (J : Int → Ds [.str, It] → Prop) (nu : Int → Ds [.str, It] → Nat) (s : ByteArray)  : VC :=
 VC.obl True
 (VC.br (Lv.cmp L BinOp.neq (Prod.snd (Prod.snd (LexG.rComments G s))) 0)
 (VC.ok
 ((ByteArray.mk #[], Prod.fst (Prod.snd (LexG.rComments G s)), Prod.snd (Prod.snd (LexG.rComments G s)), ()) =
 (Prod.fst (LexG.rBlank G s), Prod.fst (Prod.snd (LexG.rBlank G s)), Prod.snd (Prod.snd (LexG.rBlank G s)), ())))
 (VC.obl
 (St.mk 59
 [(0, V.c (C.str s)), (5, V.c (C.sl (Ty.pair (Ty.int IntKind.i64) (Ty.int IntKind.i64)) (Prod.fst (LexG.rComments G s)))), (8, V.c (C.str (ByteArray.mk #[]))), (9, V.c (C.int IntKind.i64 0))]
 [(0, Ob.amb)] 1 =
 St.mk 59
 [(0, V.c (C.str s)), (5, V.c (C.sl (Ty.pair (Ty.int IntKind.i64) (Ty.int IntKind.i64)) (Prod.fst (LexG.rComments G s)))), (8, V.c (C.str (ByteArray.mk (Array.mk [])))),
 (9, V.c (C.int IntKind.i64 0))]
 [(0, Ob.amb)] 1)
 (VC.obl (I (ByteArray.mk (Array.mk []), 0, ()))
 (VC.all (ByteArray × Int × Unit) fun (x : ByteArray × Int × Unit) =>
 VC.imp (I x)
 (VC.br (Lv.cmp L BinOp.lss (Prod.fst (Prod.snd x)) (Lv.cast L (Lv.slen L s)))
 (VC.obl (Lv.le3 L (Prod.fst (Prod.snd x)) (Lv.ar L BinOp.add IntKind.i64 (Prod.fst (Prod.snd x)) 1) (Lv.slen L s))
 (VC.obl
 (St.mk 59
 [(0, V.c (C.str s)), (5, V.c (C.sl (Ty.pair (Ty.int IntKind.i64) (Ty.int IntKind.i64)) (Prod.fst (LexG.rComments G s)))), (8, V.c (C.str (Prod.fst x))),
 (9, V.c (C.int IntKind.i64 (Prod.fst (Prod.snd x)))),
 (10, V.c (C.str (Lv.ext L s (Lv.toN L (Prod.fst (Prod.snd x))) (Lv.toN L (Lv.ar L BinOp.add IntKind.i64 (Prod.fst (Prod.snd x)) 1))))), (11, V.c (C.int IntKind.i64 0))]
 [(0, Ob.amb)] 1 =
 St.mk 59
 [(0, V.c (C.str s)), (5, V.c (C.sl (Ty.pair (Ty.int IntKind.i64) (Ty.int IntKind.i64)) (Prod.fst (LexG.rComments G s)))), (8, V.c (C.str (Prod.fst x))),
 (9, V.c (C.int IntKind.i64 (Prod.fst (Prod.snd x)))),
 (10, V.c (C.str (Lv.ext L s (Lv.toN L (Prod.fst (Prod.snd x))) (Lv.toN L (Lv.ar L BinOp.add IntKind.i64 (Prod.fst (Prod.snd x)) 1))))), (11, V.c (C.int IntKind.i64 0))]
 [(0, Ob.amb)] 1)
 (VC.obl (J (Prod.fst (Prod.snd x)) (Lv.ext L s (Lv.toN L (Prod.fst (Prod.snd x))) (Lv.toN L (Lv.ar L BinOp.add IntKind.i64 (Prod.fst (Prod.snd x)) 1)), 0, ()))
 (VC.all (ByteArray × Int × Unit) fun (x_1 : ByteArray × Int × Unit) =>
 VC.imp (J (Prod.fst (Prod.snd x)) x_1)
 (VC.br (Lv.cmp L BinOp.lss (Prod.fst (Prod.snd x_1)) (Lv.cast L (Lv.llen L (Ty.pair (Ty.int IntKind.i64) (Ty.int IntKind.i64)) (Prod.fst (LexG.rComments G s)))))
 (VC.obl (Lv.inR L (Prod.fst (Prod.snd x_1)) (Lv.llen L (Ty.pair (Ty.int IntKind.i64) (Ty.int IntKind.i64)) (Prod.fst (LexG.rComments G s))))
 (VC.br
 (Lv.cmp L BinOp.leq (Prod.fst (Lv.get L (Ty.pair (Ty.int IntKind.i64) (Ty.int IntKind.i64)) (Prod.fst (LexG.rComments G s)) (Lv.toN L (Prod.fst (Prod.snd x_1)))))
 (Prod.fst (Prod.snd x)))
 (VC.obl (Lv.inR L (Prod.fst (Prod.snd x_1)) (Lv.llen L (Ty.pair (Ty.int IntKind.i64) (Ty.int IntKind.i64)) (Prod.fst (LexG.rComments G s))))
 (VC.br
 (Lv.cmp L BinOp.lss (Prod.fst (Prod.snd x))
 (Prod.snd (Lv.get L (Ty.pair (Ty.int IntKind.i64) (Ty.int IntKind.i64)) (Prod.fst (LexG.rComments G s)) (Lv.toN L (Prod.fst (Prod.snd x_1))))))
 (VC.ok
 (St.mk 59
 [(0, V.c (C.str s)), (5, V.c (C.sl (Ty.pair (Ty.int IntKind.i64) (Ty.int IntKind.i64)) (Prod.fst (LexG.rComments G s)))), (8, V.c (C.str (Prod.fst x))),
 (9, V.c (C.int IntKind.i64 (Prod.fst (Prod.snd x)))), (10, V.c (C.str (ByteArray.mk #[32]))),
 (11, V.c (C.int IntKind.i64 (Lv.ar L BinOp.add IntKind.i64 (Prod.fst (Prod.snd x_1)) 1)))]
 [(0, Ob.amb)] 1 =
 St.mk 59
 [(0, V.c (C.str s)), (5, V.c (C.sl (Ty.pair (Ty.int IntKind.i64) (Ty.int IntKind.i64)) (Prod.fst (LexG.rComments G s)))), (8, V.c (C.str (Prod.fst x))),
 (9, V.c (C.int IntKind.i64 (Prod.fst (Prod.snd x)))),
 (10, V.c (C.str (ByteArray.mk (Array.mk [UInt8.ofBitVec (BitVec.ofFin (Fin.mk 32 (Nat.mod_lt 32 (BitVec.ofNat._proof_1 8))))])))),
 (11, V.c (C.int IntKind.i64 (Lv.ar L BinOp.add IntKind.i64 (Prod.fst (Prod.snd x_1)) 1)))]
 [(0, Ob.amb)] 1 ∧
 J (Prod.fst (Prod.snd x))
 (ByteArray.mk (Array.mk [UInt8.ofBitVec (BitVec.ofFin (Fin.mk 32 (Nat.mod_lt 32 (BitVec.ofNat._proof_1 8))))]),
 Lv.ar L BinOp.add IntKind.i64 (Prod.fst (Prod.snd x_1)) 1, ()) ∧
 nu (Prod.fst (Prod.snd x))
 (ByteArray.mk (Array.mk [UInt8.ofBitVec (BitVec.ofFin (Fin.mk 32 (Nat.mod_lt 32 (BitVec.ofNat._proof_1 8))))]),
 Lv.ar L BinOp.add IntKind.i64 (Prod.fst (Prod.snd x_1)) 1, ()) <
 nu (Prod.fst (Prod.snd x)) x_1))
 (VC.ok
 (St.mk 59
 [(0, V.c (C.str s)), (5, V.c (C.sl (Ty.pair (Ty.int IntKind.i64) (Ty.int IntKind.i64)) (Prod.fst (LexG.rComments G s)))), (8, V.c (C.str (Prod.fst x))),
 (9, V.c (C.int IntKind.i64 (Prod.fst (Prod.snd x)))), (10, V.c (C.str (Prod.fst x_1))),
 (11, V.c (C.int IntKind.i64 (Lv.ar L BinOp.add IntKind.i64 (Prod.fst (Prod.snd x_1)) 1)))]
 [(0, Ob.amb)] 1 =
 St.mk 59
 [(0, V.c (C.str s)), (5, V.c (C.sl (Ty.pair (Ty.int IntKind.i64) (Ty.int IntKind.i64)) (Prod.fst (LexG.rComments G s)))), (8, V.c (C.str (Prod.fst x))),
 (9, V.c (C.int IntKind.i64 (Prod.fst (Prod.snd x)))), (10, V.c (C.str (Prod.fst x_1))),
 (11, V.c (C.int IntKind.i64 (Lv.ar L BinOp.add IntKind.i64 (Prod.fst (Prod.snd x_1)) 1)))]
 [(0, Ob.amb)] 1 ∧
 J (Prod.fst (Prod.snd x)) (Prod.fst x_1, Lv.ar L BinOp.add IntKind.i64 (Prod.fst (Prod.snd x_1)) 1, ()) ∧
 nu (Prod.fst (Prod.snd x)) (Prod.fst x_1, Lv.ar L BinOp.add IntKind.i64 (Prod.fst (Prod.snd x_1)) 1, ()) < nu (Prod.fst (Prod.snd x)) x_1))))
 (VC.ok
 (St.mk 59
 [(0, V.c (C.str s)), (5, V.c (C.sl (Ty.pair (Ty.int IntKind.i64) (Ty.int IntKind.i64)) (Prod.fst (LexG.rComments G s)))), (8, V.c (C.str (Prod.fst x))),
 (9, V.c (C.int IntKind.i64 (Prod.fst (Prod.snd x)))), (10, V.c (C.str (Prod.fst x_1))),
 (11, V.c (C.int IntKind.i64 (Lv.ar L BinOp.add IntKind.i64 (Prod.fst (Prod.snd x_1)) 1)))]
 [(0, Ob.amb)] 1 =
 St.mk 59
 [(0, V.c (C.str s)), (5, V.c (C.sl (Ty.pair (Ty.int IntKind.i64) (Ty.int IntKind.i64)) (Prod.fst (LexG.rComments G s)))), (8, V.c (C.str (Prod.fst x))),
 (9, V.c (C.int IntKind.i64 (Prod.fst (Prod.snd x)))), (10, V.c (C.str (Prod.fst x_1))),
 (11, V.c (C.int IntKind.i64 (Lv.ar L BinOp.add IntKind.i64 (Prod.fst (Prod.snd x_1)) 1)))]
 [(0, Ob.amb)] 1 ∧
 J (Prod.fst (Prod.snd x)) (Prod.fst x_1, Lv.ar L BinOp.add IntKind.i64 (Prod.fst (Prod.snd x_1)) 1, ()) ∧
 nu (Prod.fst (Prod.snd x)) (Prod.fst x_1, Lv.ar L BinOp.add IntKind.i64 (Prod.fst (Prod.snd x_1)) 1, ()) < nu (Prod.fst (Prod.snd x)) x_1))))
 (VC.obl (Lv.catOk L (Prod.fst x) (Prod.fst x_1))
 (VC.ok
 (St.mk 59
 [(0, V.c (C.str s)), (5, V.c (C.sl (Ty.pair (Ty.int IntKind.i64) (Ty.int IntKind.i64)) (Prod.fst (LexG.rComments G s)))),
 (8, V.c (C.str (Lv.scat L (Prod.fst x) (Prod.fst x_1)))), (9, V.c (C.int IntKind.i64 (Lv.ar L BinOp.add IntKind.i64 (Prod.fst (Prod.snd x)) 1)))]
 [(0, Ob.amb)] 1 =
 St.mk 59
 [(0, V.c (C.str s)), (5, V.c (C.sl (Ty.pair (Ty.int IntKind.i64) (Ty.int IntKind.i64)) (Prod.fst (LexG.rComments G s)))),
 (8, V.c (C.str (Lv.scat L (Prod.fst x) (Prod.fst x_1)))), (9, V.c (C.int IntKind.i64 (Lv.ar L BinOp.add IntKind.i64 (Prod.fst (Prod.snd x)) 1)))]
 [(0, Ob.amb)] 1 ∧
 I (Lv.scat L (Prod.fst x) (Prod.fst x_1), Lv.ar L BinOp.add IntKind.i64 (Prod.fst (Prod.snd x)) 1, ()) ∧
 mu (Lv.scat L (Prod.fst x) (Prod.fst x_1), Lv.ar L BinOp.add IntKind.i64 (Prod.fst (Prod.snd x)) 1, ()) < mu x))))))))
 (VC.ok ((Prod.fst x, 0, 0, ()) = (Prod.fst (LexG.rBlank G s), Prod.fst (Prod.snd (LexG.rBlank G s)), Prod.snd (Prod.snd (LexG.rBlank G s)), ()))))))))
theorem n50_eq (L : Lv) (F : LexF) (G : LexG) (I : Ds [.str, It] → Prop) (mu : Ds [.str, It] → Nat) (J : Int → Ds [.str, It] → Prop) (nu : Int → Ds [.str, It] → Nat) (s : ByteArray) : vc2 L F G [49] (D50 (a50 L I mu J nu)) (S50 G) (s, ()) = n50 L F G I mu J nu s := by kernel_rfl
theorem n50_go (L : Lv) (F : LexF) (G : LexG) (I : Ds [.str, It] → Prop) (mu : Ds [.str, It] → Nat) (J : Int → Ds [.str, It] → Prop) (nu : Int → Ds [.str, It] → Nat) (s : ByteArray) (h : VC.holds (n50 L F G I mu J nu s)) : Holds (vc2 L F G [49] (D50 (a50 L I mu J nu)) (S50 G) (s, ())) := Holds.of_eq (n50_eq L F G I mu J nu s) h
def n51 (L : Lv) (F : LexF) (G : LexG) (I : Ds [It] → Prop) (mu : Ds [It] → Nat) (a b : List (Int × Int))  : VC :=
 VC.br (Lv.cmp L BinOp.neq (Lv.cast L (Lv.llen L (Ty.pair (Ty.int IntKind.i64) (Ty.int IntKind.i64)) a)) (Lv.cast L (Lv.llen L (Ty.pair (Ty.int IntKind.i64) (Ty.int IntKind.i64)) b)))
 (VC.ok ((false, ()) = (LexG.same G a b, ())))
 (VC.obl
 (St.mk 26 [(0, V.c (C.sl (Ty.pair (Ty.int IntKind.i64) (Ty.int IntKind.i64)) a)), (1, V.c (C.sl (Ty.pair (Ty.int IntKind.i64) (Ty.int IntKind.i64)) b)), (5, V.c (C.int IntKind.i64 0))]
 [(0, Ob.amb)] 1 =
 St.mk 26 [(0, V.c (C.sl (Ty.pair (Ty.int IntKind.i64) (Ty.int IntKind.i64)) a)), (1, V.c (C.sl (Ty.pair (Ty.int IntKind.i64) (Ty.int IntKind.i64)) b)), (5, V.c (C.int IntKind.i64 0))]
 [(0, Ob.amb)] 1)
 (VC.obl (I (0, ()))
 (VC.all (Int × Unit) fun (x : Int × Unit) =>
 VC.imp (I x)
 (VC.br (Lv.cmp L BinOp.lss (Prod.fst x) (Lv.cast L (Lv.llen L (Ty.pair (Ty.int IntKind.i64) (Ty.int IntKind.i64)) a)))
 (VC.obl (Lv.inR L (Prod.fst x) (Lv.llen L (Ty.pair (Ty.int IntKind.i64) (Ty.int IntKind.i64)) a))
 (VC.obl (Lv.inR L (Prod.fst x) (Lv.llen L (Ty.pair (Ty.int IntKind.i64) (Ty.int IntKind.i64)) b))
 (VC.br
 (Lv.bnot L
 (Lv.band L
 (Lv.cmp L BinOp.eql (Prod.fst (Lv.get L (Ty.pair (Ty.int IntKind.i64) (Ty.int IntKind.i64)) a (Lv.toN L (Prod.fst x))))
 (Prod.fst (Lv.get L (Ty.pair (Ty.int IntKind.i64) (Ty.int IntKind.i64)) b (Lv.toN L (Prod.fst x)))))
 (Lv.band L
 (Lv.cmp L BinOp.eql (Prod.snd (Lv.get L (Ty.pair (Ty.int IntKind.i64) (Ty.int IntKind.i64)) a (Lv.toN L (Prod.fst x))))
 (Prod.snd (Lv.get L (Ty.pair (Ty.int IntKind.i64) (Ty.int IntKind.i64)) b (Lv.toN L (Prod.fst x)))))
 true)))
 (VC.ok ((false, ()) = (LexG.same G a b, ())))
 (VC.ok
 (St.mk 26
 [(0, V.c (C.sl (Ty.pair (Ty.int IntKind.i64) (Ty.int IntKind.i64)) a)), (1, V.c (C.sl (Ty.pair (Ty.int IntKind.i64) (Ty.int IntKind.i64)) b)),
 (5, V.c (C.int IntKind.i64 (Lv.ar L BinOp.add IntKind.i64 (Prod.fst x) 1)))]
 [(0, Ob.amb)] 1 =
 St.mk 26
 [(0, V.c (C.sl (Ty.pair (Ty.int IntKind.i64) (Ty.int IntKind.i64)) a)), (1, V.c (C.sl (Ty.pair (Ty.int IntKind.i64) (Ty.int IntKind.i64)) b)),
 (5, V.c (C.int IntKind.i64 (Lv.ar L BinOp.add IntKind.i64 (Prod.fst x) 1)))]
 [(0, Ob.amb)] 1 ∧
 I (Lv.ar L BinOp.add IntKind.i64 (Prod.fst x) 1, ()) ∧ mu (Lv.ar L BinOp.add IntKind.i64 (Prod.fst x) 1, ()) < mu x)))))
 (VC.ok ((true, ()) = (LexG.same G a b, ())))))))
theorem n51_eq (L : Lv) (F : LexF) (G : LexG) (I : Ds [It] → Prop) (mu : Ds [It] → Nat) (a b : List (Int × Int)) : vc2 L F G [] (D51 (a51 L I mu)) (S51 G) (a, b, ()) = n51 L F G I mu a b := by kernel_rfl
theorem n51_go (L : Lv) (F : LexF) (G : LexG) (I : Ds [It] → Prop) (mu : Ds [It] → Nat) (a b : List (Int × Int)) (h : VC.holds (n51 L F G I mu a b)) : Holds (vc2 L F G [] (D51 (a51 L I mu)) (S51 G) (a, b, ())) := Holds.of_eq (n51_eq L F G I mu a b) h
def n18 (L : Lv) (F : LexF) (G : LexG) (s : ByteArray)  : VC :=
 VC.obl True
 (VC.br (LexF.short F s)
 (VC.obl True
 (VC.obl True
 (VC.obl True
 (VC.obl True
 (VC.obl (LexG.pSl G (Prod.fst (LexG.comments G s)))
 (VC.br (LexG.same G (Prod.fst (LexG.comments G s)) (Prod.fst (LexG.rComments G s)))
 (VC.br (Lv.cmp L BinOp.eql (Prod.fst (Prod.snd (LexG.comments G s))) (Prod.fst (Prod.snd (LexG.rComments G s))))
 (VC.br (Lv.cmp L BinOp.eql (Prod.snd (Prod.snd (LexG.comments G s))) (Prod.snd (Prod.snd (LexG.rComments G s))))
 (VC.br (Lv.scmp L BinOp.eql (Prod.fst (LexG.blank G s)) (Prod.fst (LexG.rBlank G s)))
 (VC.br (Lv.cmp L BinOp.eql (Prod.fst (Prod.snd (LexG.blank G s))) (Prod.fst (Prod.snd (LexG.rBlank G s))))
 (VC.br (Lv.cmp L BinOp.eql (Prod.snd (Prod.snd (LexG.blank G s))) (Prod.snd (Prod.snd (LexG.rBlank G s))))
 (VC.obl True (VC.br (LexF.awake F) (VC.ok ((true, ()) = (true, ()))) (VC.ok ((false, ()) = (true, ())))))
 (VC.ok ((false, ()) = (true, ()))))
 (VC.ok ((false, ()) = (true, ()))))
 (VC.ok ((false, ()) = (true, ()))))
 (VC.ok ((false, ()) = (true, ()))))
 (VC.ok ((false, ()) = (true, ()))))
 (VC.ok ((false, ()) = (true, ())))))))))
 (VC.obl True (VC.br (LexF.awake F) (VC.ok ((true, ()) = (true, ()))) (VC.ok ((false, ()) = (true, ()))))))
theorem n18_eq (L : Lv) (F : LexF) (G : LexG) (s : ByteArray) : vc2 L F G [21, 22, 47, 48, 49, 50, 51] (D18 a0) law1 (s, ()) = n18 L F G s := by kernel_rfl
theorem n18_go (L : Lv) (F : LexF) (G : LexG) (s : ByteArray) (h : VC.holds (n18 L F G s)) : Holds (vc2 L F G [21, 22, 47, 48, 49, 50, 51] (D18 a0) law1 (s, ())) := Holds.of_eq (n18_eq L F G s) h

/-! ### comments, in plain Lean -/
def rcN (s : ByteArray) : Nat → Int → List (Int × Int)
  | 0, fr => if 0 ≤ fr then [(fr, s.size)] else []
  | n + 1, fr =>
    let i := (s.size : Int) - (n + 1 : Nat)
    if byteAt s i = 10 then (if 0 ≤ fr then (fr, i) :: rcN s n (-1) else rcN s n (-1)) else if byteAt s i = 37 ∧ fr < 0 then rcN s n i else rcN s n fr
def cmL (s : ByteArray) : List (Int × Int) := rcN s s.size (-1)
def tup3 (p : Int × Int) : Int × Int × Unit := (p.1, p.2, ())
def comsF (s : ByteArray) : List (Int × Int × Unit) := (cmL s).map tup3
def commentsF (s : ByteArray) : List (Int × Int) × Int × Int := if (chk s).2 ≠ 0 then ([], (chk s).1, (chk s).2) else (cmL s, 0, 0)
theorem rcN_step (s : ByteArray) (i fr : Int) (h0 : 0 ≤ i) (h1 : i < s.size) : rcN s ((s.size : Int) - i).toNat fr =
    if byteAt s i = 10 then (if 0 ≤ fr then (fr, i) :: rcN s ((s.size : Int) - (i + 1)).toNat (-1) else rcN s ((s.size : Int) - (i + 1)).toNat (-1)) else if byteAt s i = 37 ∧ fr < 0 then rcN s ((s.size : Int) - (i + 1)).toNat i else rcN s ((s.size : Int) - (i + 1)).toNat fr := by
  obtain ⟨n, hn⟩ : ∃ n : Nat, (s.size : Int) - i = (n + 1 : Nat) := ⟨((s.size : Int) - i - 1).toNat, by omega⟩
  have e1 : ((s.size : Int) - i).toNat = n + 1 := by omega
  have e2 : ((s.size : Int) - (i + 1)).toNat = n := by omega
  have e3 : (s.size : Int) - (n + 1 : Nat) = i := by omega
  rw [e1, e2, rcN, e3]
theorem rcN_done (s : ByteArray) (i fr : Int) (h1 : s.size ≤ i) : rcN s ((s.size : Int) - i).toNat fr = if 0 ≤ fr then [(fr, (s.size : Int))] else [] := by
  have e1 : ((s.size : Int) - i).toNat = 0 := by omega
  rw [e1, rcN]
/-- No sign of a comment: on. -/
theorem rcN_skip (s : ByteArray) : ∀ (n : Nat) (i : Int), 0 ≤ i → i + n ≤ s.size → (∀ m, i ≤ m → m < i + n → byteAt s m ≠ 37) → rcN s ((s.size : Int) - i).toNat (-1) = rcN s ((s.size : Int) - (i + n)).toNat (-1)
  | 0, i, _, _, _ => by simp
  | n + 1, i, h0, h1, h2 => by
    have hs : rcN s ((s.size : Int) - i).toNat (-1) = rcN s ((s.size : Int) - (i + 1)).toNat (-1) := by
      rw [rcN_step s i (-1) h0 (by omega)]
      split
      · rw [if_neg (by omega)]
      · rw [if_neg (fun h => h2 i (by omega) (by omega) h.1)]
    rw [hs, rcN_skip s n (i + 1) (by omega) (by omega) (fun m hm hlt => h2 m (by omega) (by omega))]
    congr 2; omega
/-- Within a comment: on to its end. -/
theorem rcN_in (s : ByteArray) (fr : Int) (hf : 0 ≤ fr) : ∀ (n : Nat) (i : Int), 0 ≤ i → i + n ≤ s.size → (∀ m, i ≤ m → m < i + n → byteAt s m ≠ 10) → rcN s ((s.size : Int) - i).toNat fr = rcN s ((s.size : Int) - (i + n)).toNat fr
  | 0, i, _, _, _ => by simp
  | n + 1, i, h0, h1, h2 => by
    rw [rcN_step s i fr h0 (by omega), if_neg (h2 i (by omega) (by omega)), if_neg (fun h => by omega), rcN_in s fr hf n (i + 1) (by omega) (by omega) (fun m hm hlt => h2 m (by omega) (by omega))]
    congr 2; omega
theorem ext_at (s : ByteArray) (i m : Int) (h0 : 0 ≤ i) (hm : 0 ≤ m) (h : m < s.size - i) : byteAt (s.extract i.toNat s.size) m = byteAt s (i + m) := by
  rw [byteAt_ext hm (by omega)]; congr 1; omega
theorem rc_next (s : ByteArray) (p : Int) (h0 : 0 ≤ p) (h1 : p ≤ s.size) : (idxB (s.extract p.toNat s.size) 37 < 0 → rcN s ((s.size : Int) - p).toNat (-1) = []) ∧
    (0 ≤ idxB (s.extract p.toNat s.size) 37 → p + idxB (s.extract p.toNat s.size) 37 < s.size ∧ byteAt s (p + idxB (s.extract p.toNat s.size) 37) = 37 ∧ rcN s ((s.size : Int) - p).toNat (-1) = rcN s ((s.size : Int) - (p + idxB (s.extract p.toNat s.size) 37)).toNat (-1)) := by
  have hsz := ext_size s p.toNat s.size
  have hx := idxB_spec (s.extract p.toNat s.size) 37 (by omega) (by omega)
  generalize idxB (s.extract p.toNat s.size) 37 = n at *
  rcases hx with ⟨q1, q2⟩ | ⟨q1, q2, q3, q4⟩
  · refine ⟨fun _ => ?_, fun h => by omega⟩
    rw [rcN_skip s ((s.size : Int) - p).toNat p h0 (by omega) (fun m hm hlt => by
      have := q2 (m - p) (by omega) (by omega)
      rw [ext_at s p (m - p) h0 (by omega) (by omega), show p + (m - p) = m by omega] at this
      exact this), rcN_done s _ _ (by omega), if_neg (by omega)]
  · refine ⟨fun h => by omega, fun _ => ⟨by omega, ?_, ?_⟩⟩
    · rw [← ext_at s p n h0 q1 (by omega)]; exact q3
    · rw [rcN_skip s n.toNat p h0 (by omega) (fun m hm hlt => by
        have := q4 (m - p) (by omega) (by omega)
        rw [ext_at s p (m - p) h0 (by omega) (by omega), show p + (m - p) = m by omega] at this
        exact this)]
      congr 2; omega
theorem rc_comment (s : ByteArray) (i : Int) (h0 : 0 ≤ i) (h1 : i < s.size) (hb : byteAt s i = 37) : rcN s ((s.size : Int) - i).toNat (-1) = (i, commentF s i) :: rcN s ((s.size : Int) - commentF s i).toNat (-1) ∧ i < commentF s i ∧ commentF s i ≤ s.size := by
  obtain ⟨_, c1, c2⟩ := gap_comment s i h0 h1 hb
  refine ⟨?_, c1, c2⟩
  have hsz := ext_size s i.toNat s.size
  have hx := idxB_spec (s.extract i.toNat s.size) 10 (by omega) (by omega)
  rw [rcN_step s i (-1) h0 h1, if_neg (by omega), if_pos ⟨hb, by omega⟩]
  have hin : ∀ m, i + 1 ≤ m → m < i + 1 + ((commentF s i - (i + 1)).toNat : Nat) → byteAt s m ≠ 10 := fun m hm hlt => by
    have hlt' : m < commentF s i := by omega
    simp only [commentF] at hlt'
    rcases hx with ⟨q1, q2⟩ | ⟨q1, q2, q3, q4⟩
    · have := q2 (m - i) (by omega) (by omega)
      rw [ext_at s i (m - i) h0 (by omega) (by omega), show i + (m - i) = m by omega] at this
      exact this
    · rw [if_pos q1] at hlt'
      have := q4 (m - i) (by omega) (by omega)
      rw [ext_at s i (m - i) h0 (by omega) (by omega), show i + (m - i) = m by omega] at this
      exact this
  rw [rcN_in s i h0 (commentF s i - (i + 1)).toNat (i + 1) (by omega) (by omega) hin, show i + 1 + ((commentF s i - (i + 1)).toNat : Int) = commentF s i by omega]
  by_cases hend : commentF s i = s.size
  · rw [rcN_done s _ _ (by omega), rcN_done s _ _ (by omega), if_pos h0, if_neg (by omega)]
    exact congrArg (fun e => [(i, e)]) hend.symm
  · have h10 : byteAt s (commentF s i) = 10 := by
      simp only [commentF] at hend ⊢
      rcases hx with ⟨q1, q2⟩ | ⟨q1, q2, q3, q4⟩
      · rw [if_neg (by omega)] at hend; exact absurd rfl hend
      · rw [if_pos q1, ← ext_at s i _ h0 q1 (by omega)]; exact q3
    have e1 := rcN_step s (commentF s i) i (by omega) (by omega)
    have e2 := rcN_step s (commentF s i) (-1) (by omega) (by omega)
    rw [if_pos h10, if_pos h0] at e1
    rw [if_pos h10, if_neg (by omega)] at e2
    rw [e1, e2]
/-- Comments lie one behind the other. -/
theorem rcN_bounds (s : ByteArray) : ∀ (n : Nat) (fr : Int), n ≤ s.size → fr < (s.size : Int) - n → ∀ p ∈ rcN s n fr, 0 ≤ p.1 ∧ p.1 < p.2 ∧ p.2 ≤ s.size
  | 0, fr, _, h2, p, hp => by
    simp only [rcN] at hp
    split at hp
    · simp only [List.mem_singleton] at hp; subst hp; simp only; omega
    · cases hp
  | n + 1, fr, h1, h2, p, hp => by
    simp only [rcN] at hp
    split at hp
    · split at hp
      · rcases List.mem_cons.1 hp with rfl | hp
        · simp only; omega
        · exact rcN_bounds s n (-1) (by omega) (by omega) p hp
      · exact rcN_bounds s n (-1) (by omega) (by omega) p hp
    · split at hp
      · exact rcN_bounds s n _ (by omega) (by omega) p hp
      · exact rcN_bounds s n fr (by omega) (by omega) p hp
theorem cmL_bounds (s : ByteArray) : ∀ p ∈ cmL s, 0 ≤ p.1 ∧ p.1 < p.2 ∧ p.2 ≤ s.size := rcN_bounds s s.size (-1) (Nat.le_refl _) (by omega)
theorem drop_map {α β : Type} (f : α → β) (l : List α) (j : Nat) : (l.map f).drop j = (l.drop j).map f := by rw [List.map_drop]

theorem ok103 (F : LexF) (G : LexG) (hs : F.pS = fun s => s.size ≤ 1000000) (hp : F.pAt = fun s i => 0 ≤ i ∧ i ≤ s.size) (h : F.comment = commentF) (hi : F.indexByte = idxB) (hg : G.coms = comsF) (k1 : SpecOk prog 84 (S84 F)) (k2 : SpecOk prog 104 (S104 F)) : ItOk prog 103 (I103 F G) := by
  let I : ByteArray → Nat → Int × Unit → Prop := fun s j x => j ≤ (comsF s).length ∧ (x.1 < 0 → (comsF s).drop j = []) ∧ (0 ≤ x.1 → x.1 < s.size ∧ byteAt s x.1 = 37 ∧ (comsF s).drop j = (rcN s ((s.size : Int) - x.1).toNat (-1)).map tup3)
  let mu : ByteArray → Int × Unit → Nat := fun s x => ((s.size : Int) - x.1).toNat
  refine iter_by hm hE (fnok103 a0) rfl (I103 F G) rfl (fns := only (fT2 F G) [84, 104]) (only_tab (tb_cons (tb_sp k1 (by kernel_rfl)) (tb_cons (tb_sp k2 (by kernel_rfl)) tb_nil))) 0 (fun x => a103 Lv.std (I x.1) (mu x.1)) ?_
  rintro l ⟨s, ⟨⟩⟩ hpre
  have hsz : s.size ≤ 1000000 := by have := hpre; simp only [I103, hs] at this; exact this
  refine i103_go Lv.std F G (I s) (mu s) l s ?_
  simp only [i103, VC.holds, std_cmp, std_scmp, std_ar_add, std_ar_sub, std_ar_mul, std_ar, std_dv, std_shf, std_conv, std_mn, std_mx, std_beq, std_bnot, std_band, std_scat, std_byte, std_ext, std_slen, std_strOf, std_bytes, std_llen, std_get, std_setl, std_app, std_take, std_drop, std_rep, std_mhas, std_mval, std_mput, std_cast, std_toN, std_sub, std_add, std_inR, std_le3, std_leN, std_ltN, std_ne0, std_nonneg, std_catOk, std_room, std_mkOk, std_nth, std_cnt, cmp_lss_t, cmp_lss_f, cmp_leq_t, cmp_leq_f, cmp_gtr_t, cmp_gtr_f, cmp_geq_t, cmp_geq_f, cmp_eql_t, cmp_eql_f, cmp_neq_t, cmp_neq_f, scmp_eql_t, scmp_eql_f, scmp_neq_t, scmp_neq_f, dflt_int, dflt_bool, dflt_str, dflt_sl, dflt_pair, h, hi, hs, hp, hg, Prod.mk.injEq, and_true, true_and]
  have hI : ∀ p : Int, 0 ≤ p → p ≤ s.size → ∀ j, j ≤ (comsF s).length → (comsF s).drop j = (rcN s ((s.size : Int) - p).toNat (-1)).map tup3 → (0 ≤ idxB (s.extract p.toNat s.size) 37 → I s j (p + idxB (s.extract p.toNat s.size) 37, ())) ∧ (idxB (s.extract p.toNat s.size) 37 < 0 → (comsF s).drop j = []) := by
    intro p p0 p1 j hj hd
    obtain ⟨n1, n2⟩ := rc_next s p p0 p1
    refine ⟨fun hx => ?_, fun hx => by rw [hd, n1 hx]; rfl⟩
    obtain ⟨q1, q2, q3⟩ := n2 hx
    exact ⟨hj, fun h => by simp only at h; omega, fun _ => ⟨q1, q2, by rw [hd, q3]⟩⟩
  have h00 := hI 0 (by omega) (by omega) 0 (Nat.zero_le _) (by rw [show ((s.size : Int) - 0).toNat = s.size by omega]; rfl)
  rw [show s.extract (0 : Int).toNat s.size = s from ba_ext2 (by rw [ext_size]; simp) (fun i hi hi2 => by rw [ext_size] at hi2; rw [byteAt_ext hi (by simp at hi2 ⊢; omega)]; simp), Int.zero_add] at h00
  refine ⟨?_, ?_⟩
  · by_cases hx : 0 ≤ idxB s 37
    · exact h00.1 hx
    · exact ⟨Nat.zero_le _, fun _ => h00.2 (by omega), fun h => absurd h hx⟩
  rintro ⟨x, ⟨⟩⟩ j ⟨i1, i2, i3⟩
  simp only at i2 i3 ⊢
  refine ⟨fun hx => ?_, fun hx => drop_nil (i2 (by omega)) i1⟩
  obtain ⟨k1, k2, k3⟩ := i3 hx
  obtain ⟨c1, c2, c3⟩ := rc_comment s x hx k1 k2
  rw [c1] at k3
  obtain ⟨d1, d2, d3⟩ := drop_cons k3
  refine ⟨⟨⟨hx, by omega⟩, hsz⟩, d1, fun b => ⟨fun _ => ⟨⟨by omega, c3, Int.le_refl _⟩, fun hn => ?_, fun hn => ?_⟩, fun _ => trivial⟩⟩
  · rw [Int.toNat_natCast] at hn
    exact drop_nil ((hI (commentF s x) (by omega) c3 (j + 1) d3 d2).2 hn) d3
  · rw [Int.toNat_natCast] at hn ⊢
    have h1 := (hI (commentF s x) (by omega) c3 (j + 1) d3 d2).1 hn
    have h2 := (h1.2.2 (by simp only; omega)).1
    simp only at h2
    rw [wrap_i64 (by omega) (by omega)]
    exact ⟨h1, by show ((s.size : Int) - (commentF s x + idxB (s.extract (commentF s x).toNat s.size) 37)).toNat < ((s.size : Int) - x).toNat; omega⟩

theorem chk_big {s : ByteArray} (h : (chk s).2 = 0) : s.size ≤ 2500 := by
  unfold chk at h
  split at h
  · cases h
  · omega
theorem cmL_len (s : ByteArray) : (cmL s).length ≤ s.size + 1 := by
  have : ∀ (n : Nat) (fr : Int), (rcN s n fr).length ≤ n + 1 := by
    intro n
    induction n with
    | zero => intro fr; simp only [rcN]; split <;> simp
    | succ n ih =>
      intro fr
      simp only [rcN]
      have := ih (-1); have := ih fr; have := ih ((s.size : Int) - (n + 1 : Nat))
      repeat' split
      all_goals (try simp only [List.length_cons])
      all_goals omega
  exact this s.size (-1)
theorem coms_get {s : ByteArray} {j : Nat} {y : Int × Int × Unit} (h : (comsF s)[j]? = some y) : (cmL s)[j]? = some (y.1, y.2.1) ∧ j < (cmL s).length := by
  unfold comsF at h
  rw [List.getElem?_map] at h
  cases hc : (cmL s)[j]? with
  | none => rw [hc] at h; cases h
  | some p => rw [hc] at h; simp only [Option.map_some, Option.some.injEq] at h; subst h; exact ⟨rfl, (List.getElem?_eq_some_iff.1 hc).1⟩
theorem take_snoc' {α : Type} {l : List α} {j : Nat} {y : α} (h : l[j]? = some y) : l.take (j + 1) = l.take j ++ [y] := by rw [List.take_succ, h]; rfl

theorem ok48 (F : LexF) (G : LexG) (hs : F.pS = fun s => s.size ≤ 1000000) (h : F.chk = chk) (hg : G.coms = comsF) (hc : G.comments = commentsF) (k1 : SpecOk prog 56 (S56 F)) (k2 : ItOk prog 103 (I103 F G)) : SpecOk prog 48 (S48 G) := by
  refine contract_by hm hE D48 fnok48 _ fun (z : ByteArray × Unit) hpre => ?_
  obtain ⟨s, ⟨⟩⟩ := z
  let I : Nat → List (Int × Int) × Unit → Prop := fun j x => x.1 = (cmL s).take j
  refine pack _ 1 (a48 Lv.std I) (only_tab (T := fT2 F G) (l := [56, 78, 103]) (tb_cons (tb_sp k1 (by kernel_rfl)) (tb_cons (tb_d (fnok78 a0) (by kernel_rfl)) (tb_cons (tb_it k2 (by kernel_rfl)) tb_nil)))) ?_
  refine n48_go Lv.std F G I s ?_
  simp only [n48, VC.holds, std_cmp, std_scmp, std_ar_add, std_ar_sub, std_ar_mul, std_ar, std_dv, std_shf, std_conv, std_mn, std_mx, std_beq, std_bnot, std_band, std_scat, std_byte, std_ext, std_slen, std_strOf, std_bytes, std_llen, std_get, std_setl, std_app, std_take, std_drop, std_rep, std_mhas, std_mval, std_mput, std_cast, std_toN, std_sub, std_add, std_inR, std_le3, std_leN, std_ltN, std_ne0, std_nonneg, std_catOk, std_room, std_mkOk, std_nth, std_cnt, cmp_lss_t, cmp_lss_f, cmp_leq_t, cmp_leq_f, cmp_gtr_t, cmp_gtr_f, cmp_geq_t, cmp_geq_f, cmp_eql_t, cmp_eql_f, cmp_neq_t, cmp_neq_f, scmp_eql_t, scmp_eql_f, scmp_neq_t, scmp_neq_f, dflt_int, dflt_bool, dflt_str, dflt_sl, dflt_pair, h, hs, hg, hc, Prod.mk.injEq, and_true, true_and, List.length_nil, Nat.zero_add, List.nil_append, List.take_length]
  refine ⟨fun hne => ?_, fun he => ⟨?_, ?_, ?_⟩⟩
  · simp only [commentsF, if_pos hne]; exact ⟨trivial, trivial, trivial⟩
  · have := chk_big he; omega
  · rfl
  have hb := chk_big he
  have hl := cmL_len s
  refine fun b => ⟨fun _ => ?_, fun _ => ?_⟩
  · rintro ⟨x, ⟨⟩⟩ j ⟨y1, y2, ⟨⟩⟩ ⟨g1, g2⟩
    obtain ⟨g3, g4⟩ := coms_get g1
    have g2' : x = (cmL s).take j := g2
    subst g2'
    simp only [List.take_length, List.length_take, List.take_succ_cons, List.take_zero, List.length_cons, List.length_nil]
    refine ⟨⟨by omega, by omega⟩, ?_, ?_⟩
    · congr 5
      rw [List.length_append, List.length_take]; rfl
    · show (cmL s).take j ++ [(y1, y2)] = (cmL s).take (j + 1)
      rw [take_snoc' g3]
  · rintro ⟨x, ⟨⟩⟩ g2
    have g2' : x = (cmL s).take (comsF s).length := g2
    subst g2'
    have e : commentsF s = (cmL s, 0, 0) := by unfold commentsF; rw [if_neg (fun h => h he)]
    rw [e]
    refine ⟨?_, rfl, rfl⟩
    simp only [comsF, List.length_map, List.take_length]

theorem ok51 (F : LexF) (G : LexG) (hp : G.pSl = fun l => l.length ≤ 1000000) (h : G.same = fun a b => decide (a = b)) : SpecOk prog 51 (S51 G) := by
  refine contract_by hm hE D51 fnok51 _ fun (z : List (Int × Int) × List (Int × Int) × Unit) hpre => ?_
  obtain ⟨l, m, ⟨⟩⟩ := z
  have g1 : l.length ≤ 1000000 := by have := hpre; simp only [S51, hp] at this; exact this
  let I : Int × Unit → Prop := fun z => 0 ≤ z.1 ∧ z.1 ≤ l.length ∧ l.take z.1.toNat = m.take z.1.toNat
  let mu : Int × Unit → Nat := fun z => (l.length - z.1).toNat
  refine pack _ 1 (a51 Lv.std I mu) (only_tab (T := fT2 F G) (l := []) tb_nil) ?_
  refine n51_go Lv.std F G I mu l m ?_
  simp only [n51, VC.holds, std_cmp, std_scmp, std_ar_add, std_ar_sub, std_ar_mul, std_ar, std_dv, std_shf, std_conv, std_mn, std_mx, std_beq, std_bnot, std_band, std_scat, std_byte, std_ext, std_slen, std_strOf, std_bytes, std_llen, std_get, std_setl, std_app, std_take, std_drop, std_rep, std_mhas, std_mval, std_mput, std_cast, std_toN, std_sub, std_add, std_inR, std_le3, std_leN, std_ltN, std_ne0, std_nonneg, std_catOk, std_room, std_mkOk, std_nth, std_cnt, cmp_lss_t, cmp_lss_f, cmp_leq_t, cmp_leq_f, cmp_gtr_t, cmp_gtr_f, cmp_geq_t, cmp_geq_f, cmp_eql_t, cmp_eql_f, cmp_neq_t, cmp_neq_f, scmp_eql_t, scmp_eql_f, scmp_neq_t, scmp_neq_f, dflt_int, dflt_bool, dflt_str, dflt_sl, dflt_pair, h, Prod.mk.injEq, and_true, true_and]
  refine ⟨fun hne => ?_, fun heq => ⟨⟨by show (0 : Int) ≤ 0; omega, by show (0 : Int) ≤ l.length; omega, rfl⟩, ?_⟩⟩
  · rw [decide_eq_false (fun e => hne (by rw [e]))]
  rintro ⟨i, _⟩ ⟨h0, h1, h2⟩
  simp only at h0 h1 h2 ⊢
  refine ⟨fun hlt => ?_, fun hge => ?_⟩
  · obtain ⟨k, rfl⟩ : ∃ k : Nat, i = k := ⟨i.toNat, by omega⟩
    have hk : k < l.length := by omega
    have hk2 : k < m.length := by omega
    have ew : IntKind.i64.wrap ((k : Int) + 1) = (k : Int) + 1 := by rw [wrap_i64 (by omega) (by omega)]
    simp only [ew, Int.toNat_natCast, List.getElem?_eq_getElem hk, List.getElem?_eq_getElem hk2, Option.getD_some] at h2 ⊢
    have hstep : l[k] = m[k] → I ((k : Int) + 1, ()) ∧ mu ((k : Int) + 1, ()) < mu ((k : Int), ()) := fun e => ⟨⟨by show (0 : Int) ≤ (k : Int) + 1; omega, by show (k : Int) + 1 ≤ l.length; omega, by
      show l.take ((k : Int) + 1).toNat = m.take ((k : Int) + 1).toNat
      rw [show ((k : Int) + 1).toNat = k + 1 by omega, take_snoc l k hk, take_snoc m k hk2, h2, e]⟩, by show ((l.length : Int) - ((k : Int) + 1)).toNat < ((l.length : Int) - k).toNat; omega⟩
    refine ⟨⟨by omega, by omega⟩, ⟨by omega, by omega⟩, fun hb => ?_, fun hb => hstep ?_⟩
    · rw [decide_eq_false (fun e => ?_)]
      have : l[k] = m[k] := by simp only [e]
      rw [this] at hb
      simp [VM.compare] at hb
    · simp only [VM.compare, Bool.and_true, Bool.not_eq_false', Bool.and_eq_true, beq_iff_eq] at hb
      exact Prod.ext hb.1 hb.2
  · have hi : i = l.length := by omega
    subst hi
    rw [Int.toNat_natCast, List.take_length, show l.length = m.length by omega, List.take_length] at h2
    rw [decide_eq_true h2]

theorem ok49 (F : LexF) (G : LexG) (h : F.chk = chk) (hc : G.rComments = commentsF) (k1 : SpecOk prog 59 (S59 F)) : SpecOk prog 49 (S49 G) := by
  refine contract_by hm hE D49 fnok49 _ fun (z : ByteArray × Unit) hpre => ?_
  obtain ⟨s, ⟨⟩⟩ := z
  let I : List (Int × Int) × Int × Int × Unit → Prop := fun z => z.2.1 < z.2.2.1 ∧ 0 ≤ z.2.2.1 ∧ z.2.2.1 ≤ s.size + 1 ∧ z.1.length ≤ z.2.2.1 ∧ z.1 ++ (if z.2.2.1 ≤ s.size then rcN s ((s.size : Int) - z.2.2.1).toNat z.2.1 else []) = cmL s ∧ -1 ≤ z.2.1
  let mu : List (Int × Int) × Int × Int × Unit → Nat := fun z => ((s.size : Int) + 1 - z.2.2.1).toNat
  refine pack _ 1 (a49 Lv.std I mu) (only_tab (T := fT2 F G) (l := [59]) (tb_cons (tb_sp k1 (by kernel_rfl)) tb_nil)) ?_
  refine n49_go Lv.std F G I mu s ?_
  simp only [n49, VC.holds, std_cmp, std_scmp, std_ar_add, std_ar_sub, std_ar_mul, std_ar, std_dv, std_shf, std_conv, std_mn, std_mx, std_beq, std_bnot, std_band, std_scat, std_byte, std_ext, std_slen, std_strOf, std_bytes, std_llen, std_get, std_setl, std_app, std_take, std_drop, std_rep, std_mhas, std_mval, std_mput, std_cast, std_toN, std_sub, std_add, std_inR, std_le3, std_leN, std_ltN, std_ne0, std_nonneg, std_catOk, std_room, std_mkOk, std_nth, std_cnt, cmp_lss_t, cmp_lss_f, cmp_leq_t, cmp_leq_f, cmp_gtr_t, cmp_gtr_f, cmp_geq_t, cmp_geq_f, cmp_eql_t, cmp_eql_f, cmp_neq_t, cmp_neq_f, scmp_eql_t, scmp_eql_f, scmp_neq_t, scmp_neq_f, dflt_int, dflt_bool, dflt_str, dflt_sl, dflt_pair, h, hc, Prod.mk.injEq, and_true, true_and, List.length_nil, Nat.zero_add, List.nil_append, List.take_length]
  refine ⟨fun hne => ?_, fun he => ?_⟩
  · simp only [commentsF, if_pos hne]; exact ⟨trivial, trivial, trivial⟩
  have hb := chk_big he
  have m1 : (Int.negSucc 0 : Int) = -1 := rfl
  rw [m1]
  refine ⟨⟨by show (-1 : Int) < 0; omega, by show (0 : Int) ≤ 0; omega, by show (0 : Int) ≤ (s.size : Int) + 1; omega, by show ((0 : Nat) : Int) ≤ 0; omega, ?_, by show (-1 : Int) ≤ -1; omega⟩, ?_⟩
  · show [] ++ (if (0 : Int) ≤ s.size then rcN s ((s.size : Int) - 0).toNat (-1) else []) = cmL s
    rw [if_pos (by omega), show ((s.size : Int) - 0).toNat = s.size by omega]; rfl
  rintro ⟨x, fr, i, ⟨⟩⟩ ⟨a1, a2, a3, a4, a5, a6⟩
  simp only at a1 a2 a3 a4 a5 a6 ⊢
  have ew : IntKind.i64.wrap (i + 1) = i + 1 := by rw [wrap_i64 (by omega) (by omega)]
  simp only [ew, List.take_succ_cons, List.take_zero, List.length_cons, List.length_nil]
  have hstep : ∀ (x' : List (Int × Int)) (fr' : Int), i ≤ s.size → fr' < i + 1 → (x'.length : Int) ≤ i + 1 → -1 ≤ fr' → x' ++ (if i + 1 ≤ s.size then rcN s ((s.size : Int) - (i + 1)).toNat fr' else []) = cmL s → I (x', fr', i + 1, ()) ∧ mu (x', fr', i + 1, ()) < mu (x, fr, i, ()) := fun x' fr' b0 b1 b2 b3 b4 =>
    ⟨⟨b1, by show 0 ≤ i + 1; omega, by show i + 1 ≤ (s.size : Int) + 1; omega, b2, b4, b3⟩, by show ((s.size : Int) + 1 - (i + 1)).toNat < ((s.size : Int) + 1 - i).toNat; omega⟩
  have hlen : ∀ p : Int × Int, ((x ++ [p]).length : Int) ≤ i + 1 := fun p => by rw [List.length_append]; simp only [List.length_cons, List.length_nil]; omega
  have hst : ∀ (q : List (Int × Int)) (n : Nat), q.length + (0 + 1) = n → True := fun _ _ _ => trivial
  refine ⟨fun hle => ?_, fun hgt => ?_⟩
  · rw [if_pos hle] at a5
    refine ⟨fun hi => ?_, fun hi => ?_⟩
    · rw [rcN_done s i fr (by omega)] at a5
      refine ⟨fun hf => ⟨⟨by omega, by omega⟩, by rw [List.length_append]; rfl, hstep _ _ hle (by omega) (hlen _) (by omega) ?_⟩, fun hf => hstep _ _ hle (by omega) (by omega) (by omega) ?_⟩
      · rw [if_pos hf] at a5
        rw [if_neg (by omega), List.append_nil, ← a5, hi]
      · rw [if_neg (by omega)] at a5
        rw [if_neg (by omega)]; exact a5
    · rw [rcN_step s i fr a2 (by omega)] at a5
      have hin : i + 1 ≤ s.size := by omega
      refine ⟨⟨a2, by omega⟩, fun h10 => ⟨fun hf => ⟨⟨by omega, by omega⟩, by rw [List.length_append]; rfl, hstep _ _ hle (by omega) (hlen _) (by omega) ?_⟩, fun hf => hstep _ _ hle (by omega) (by omega) (by omega) ?_⟩, fun h10 => ⟨⟨a2, by omega⟩, fun h37 => ⟨fun hf => hstep _ _ hle (by omega) (by omega) (by omega) ?_, fun hf => hstep _ _ hle (by omega) (by omega) a6 ?_⟩, fun h37 => hstep _ _ hle (by omega) (by omega) a6 ?_⟩⟩
      · rw [if_pos h10, if_pos hf] at a5
        rw [if_pos hin, List.append_assoc]; exact a5
      · rw [if_pos h10, if_neg (by omega)] at a5
        rw [if_pos hin]; exact a5
      · rw [if_neg h10, if_pos ⟨h37, hf⟩] at a5
        rw [if_pos hin]; exact a5
      · rw [if_neg h10, if_neg (fun h => by omega)] at a5
        rw [if_pos hin]; exact a5
      · rw [if_neg h10, if_neg (fun h => h37 h.1)] at a5
        rw [if_pos hin]; exact a5
  · rw [if_neg (by omega), List.append_nil] at a5
    have e : commentsF s = (cmL s, 0, 0) := by unfold commentsF; rw [if_neg (fun h => h he)]
    rw [e]
    exact ⟨a5, rfl, rfl⟩
end Go.Proofs.Tryd
namespace Go.Proofs
open Go.Shelf
def Tryd.lays143_ren : Go.Shelf.Ren := ⟨fun | 143 => 111 | 219 => 124 | 217 => 119 | 225 => 133 | 224 => 134 | 267 => 135 | 266 => 131 | 314 => 143 | n => n, fun | 9 => 9 | 3 => 3 | 4 => 4 | 5 => 5 | 46 => 116 | 146 => 128 | 51 => 127 | n => n, fun | 1 => 0 | n => n⟩
theorem Tryd.lays143 : Go.Proofs.Lays.n143 Tryd.prog Tryd.lays143_ren := {
  mixed := by kernel_rfl
  f143 := Tryd.func111.trans (congrArg some (by kernel_rfl))
  f217 := Tryd.func119.trans (congrArg some (by kernel_rfl))
  f219 := Tryd.func124.trans (congrArg some (by kernel_rfl))
  f224 := Tryd.func134.trans (congrArg some (by kernel_rfl))
  f225 := Tryd.func133.trans (congrArg some (by kernel_rfl))
  f266 := Tryd.func131.trans (congrArg some (by kernel_rfl))
  f267 := Tryd.func135.trans (congrArg some (by kernel_rfl))
  f314 := Tryd.func143.trans (congrArg some (by kernel_rfl))
  t3 := Tryd.underlying3
  a3 := Tryd.isAgg3
  z3 := Tryd.sizeOf3
  v3 := Tryd.zeroValue3
  t4 := Tryd.underlying4
  a4 := Tryd.isAgg4
  z4 := Tryd.sizeOf4
  v4 := Tryd.zeroValue4
  t5 := Tryd.underlying5
  a5 := Tryd.isAgg5
  z5 := Tryd.sizeOf5
  v5 := Tryd.zeroValue5
  t9 := Tryd.underlying9
  a9 := Tryd.isAgg9
  z9 := Tryd.sizeOf9
  v9 := Tryd.zeroValue9
  t46 := Tryd.underlying116
  a46 := Tryd.isAgg116
  z46 := Tryd.sizeOf116
  v46 := Tryd.zeroValue116
  t51 := Tryd.underlying127
  a51 := Tryd.isAgg127
  z51 := Tryd.sizeOf127
  v51 := Tryd.zeroValue127
  t146 := Tryd.underlying128
  a146 := Tryd.isAgg128
  z146 := Tryd.sizeOf128
  v146 := Tryd.zeroValue128
  g1 := by kernel_rfl }
open Go.RowKit Go.Lib in
theorem Tryd.strings_Index_one (s : ByteArray) (c : UInt8) (w : World) :
    Calls Tryd.prog 111 #[.string s, .string ⟨#[c]⟩] w fun e w' => e = .returned (.int .i64 (Lib.indexByte s.data.toList c)) ∧ w' = w := Any.strings_Index_one Tryd.lays143 s c w
def Tryd.lays138_ren : Go.Shelf.Ren := ⟨fun | 138 => 80 | 195 => 109 | 218 => 110 | 143 => 111 | 219 => 124 | 217 => 119 | 225 => 133 | 224 => 134 | 267 => 135 | 266 => 131 | 314 => 143 | n => n, fun | 9 => 9 | 3 => 3 | 4 => 4 | 5 => 5 | 0 => 0 | 46 => 116 | 146 => 128 | 51 => 127 | n => n, fun | 1 => 0 | n => n⟩
theorem Tryd.lays138 : Go.Proofs.Lays.n138 Tryd.prog Tryd.lays138_ren := {
  mixed := by kernel_rfl
  f138 := Tryd.func80.trans (congrArg some (by kernel_rfl))
  f143 := Tryd.func111.trans (congrArg some (by kernel_rfl))
  f195 := Tryd.func109.trans (congrArg some (by kernel_rfl))
  f217 := Tryd.func119.trans (congrArg some (by kernel_rfl))
  f218 := Tryd.func110.trans (congrArg some (by kernel_rfl))
  f219 := Tryd.func124.trans (congrArg some (by kernel_rfl))
  f224 := Tryd.func134.trans (congrArg some (by kernel_rfl))
  f225 := Tryd.func133.trans (congrArg some (by kernel_rfl))
  f266 := Tryd.func131.trans (congrArg some (by kernel_rfl))
  f267 := Tryd.func135.trans (congrArg some (by kernel_rfl))
  f314 := Tryd.func143.trans (congrArg some (by kernel_rfl))
  t0 := Tryd.underlying0
  a0 := Tryd.isAgg0
  z0 := Tryd.sizeOf0
  v0 := Tryd.zeroValue0
  t3 := Tryd.underlying3
  a3 := Tryd.isAgg3
  z3 := Tryd.sizeOf3
  v3 := Tryd.zeroValue3
  t4 := Tryd.underlying4
  a4 := Tryd.isAgg4
  z4 := Tryd.sizeOf4
  v4 := Tryd.zeroValue4
  t5 := Tryd.underlying5
  a5 := Tryd.isAgg5
  z5 := Tryd.sizeOf5
  v5 := Tryd.zeroValue5
  t9 := Tryd.underlying9
  a9 := Tryd.isAgg9
  z9 := Tryd.sizeOf9
  v9 := Tryd.zeroValue9
  t46 := Tryd.underlying116
  a46 := Tryd.isAgg116
  z46 := Tryd.sizeOf116
  v46 := Tryd.zeroValue116
  t51 := Tryd.underlying127
  a51 := Tryd.isAgg127
  z51 := Tryd.sizeOf127
  v51 := Tryd.zeroValue127
  t146 := Tryd.underlying128
  a146 := Tryd.isAgg128
  z146 := Tryd.sizeOf128
  v146 := Tryd.zeroValue128
  g1 := by kernel_rfl }
open Go.RowKit Go.Lib in
theorem Tryd.strings_Count_one (s : ByteArray) (c : UInt8) (w : World) :
    Calls Tryd.prog 80 #[.string s, .string ⟨#[c]⟩] w fun e w' => e = .returned (.int .i64 (Lib.countByte s.data.toList c)) ∧ w' = w := Any.strings_Count_one Tryd.lays138 s c w
def Tryd.lays149_ren : Go.Shelf.Ren := ⟨fun | 149 => 81 | 222 => 112 | n => n, fun | 9 => 9 | 5 => 5 | 3 => 3 | 4 => 4 | n => n, fun | n => n⟩
theorem Tryd.lays149 : Go.Proofs.Lays.n149 Tryd.prog Tryd.lays149_ren := {
  mixed := by kernel_rfl
  f149 := Tryd.func81.trans (congrArg some (by kernel_rfl))
  f222 := Tryd.func112.trans (congrArg some (by kernel_rfl))
  t3 := Tryd.underlying3
  a3 := Tryd.isAgg3
  z3 := Tryd.sizeOf3
  v3 := Tryd.zeroValue3
  t4 := Tryd.underlying4
  a4 := Tryd.isAgg4
  z4 := Tryd.sizeOf4
  v4 := Tryd.zeroValue4
  t5 := Tryd.underlying5
  a5 := Tryd.isAgg5
  z5 := Tryd.sizeOf5
  v5 := Tryd.zeroValue5
  t9 := Tryd.underlying9
  a9 := Tryd.isAgg9
  z9 := Tryd.sizeOf9
  v9 := Tryd.zeroValue9 }
open Go.RowKit Go.Lib in
theorem Tryd.strings_LastIndexByte (s : ByteArray) (c : Int) (hs : s.size < 4611686018427387904) (w : World) :
    Calls Tryd.prog 81 #[.string s, .int .u8 c] w fun e w' => e = .returned (.int .i64 (Lib.lastIndexByte s c)) ∧ w' = w := Any.strings_LastIndexByte Tryd.lays149 s c hs w
end Go.Proofs
set_option autoImplicit false
set_option linter.all false
namespace Go.Proofs.Tryd
open Go Go.VM
set_option maxRecDepth 100000
structure LexW where
  wh : ByteArray → Int → (Int × Int) × Int
  at' : ByteArray → Int × Int → Int × Int
  rWh : ByteArray → Int → (Int × Int) × Int
  rAt : ByteArray → Int × Int → Int × Int
  cnt : ByteArray → Int
  last : ByteArray → Int → Int
  idx : ByteArray → Int
  split : ByteArray → List ByteArray
  pNl : ByteArray → Prop
  pSz : ByteArray → Prop
  p113 : ByteArray → ByteArray → Int → Int → Prop
theorem at80 : prog.funcs[80]? = some f80 := by kernel_rfl
theorem at82 : prog.funcs[82]? = some f82 := by kernel_rfl
theorem at113 : prog.funcs[113]? = some f113 := by kernel_rfl
noncomputable def D82 (ann : Nat → LAnn) : FnD := ⟨f82.body.getD .skip, f82.ntmps, f82.results.toList, pl0, ann⟩
theorem fnok82 (ann : Nat → LAnn) : FnOk prog 82 (D82 ann) := ⟨f82, at82, by kernel_rfl, by kernel_rfl, rfl, rfl, by kernel_rfl⟩
noncomputable def D113 (ann : Nat → LAnn) : FnD := ⟨f113.body.getD .skip, f113.ntmps, f113.results.toList, pl0, ann⟩
theorem fnok113 (ann : Nat → LAnn) : FnOk prog 113 (D113 ann) := ⟨f113, at113, by kernel_rfl, by kernel_rfl, rfl, rfl, by kernel_rfl⟩
def S80 (W : LexW) : VM.Spec := ⟨[.str, .str], [It], fun x => W.pNl x.2.1, fun x => (W.cnt x.1, ())⟩
def S81 (W : LexW) : VM.Spec := ⟨[.str, .int .u8], [It], fun x => W.pSz x.1, fun x => (W.last x.1 x.2.1, ())⟩
def S111 (W : LexW) : VM.Spec := ⟨[.str, .str], [It], fun x => W.pNl x.2.1, fun x => (W.idx x.1, ())⟩
def S113 (W : LexW) : VM.Spec := ⟨[.str, .str, It, It], [.sl .str], fun x => W.p113 x.1 x.2.1 x.2.2.1 x.2.2.2.1, fun x => (W.split x.1, ())⟩
def S52 (W : LexW) : VM.Spec := ⟨[.str, It], [Pt, It], fun _ => True, fun x => ((W.wh x.1 x.2.1).1, (W.wh x.1 x.2.1).2, ())⟩
def S53 (W : LexW) : VM.Spec := ⟨[.str, Pt], [It, It], fun _ => True, fun x => ((W.at' x.1 x.2.1).1, (W.at' x.1 x.2.1).2, ())⟩
def S54 (W : LexW) : VM.Spec := ⟨[.str, It], [Pt, It], fun _ => True, fun x => ((W.rWh x.1 x.2.1).1, (W.rWh x.1 x.2.1).2, ())⟩
def S55 (W : LexW) : VM.Spec := ⟨[.str, Pt], [It, It], fun _ => True, fun x => ((W.rAt x.1 x.2.1).1, (W.rAt x.1 x.2.1).2, ())⟩
def law19 : VM.Spec := ⟨[.str, It, Pt], [.bool], fun _ => True, fun _ => (true, ())⟩
noncomputable def fT3 (F : LexF) (G : LexG) (W : LexW) : FuncId → FT
  | 80 => .spec (S80 W) | 81 => .spec (S81 W) | 111 => .spec (S111 W) | 113 => .spec (S113 W) | 82 => .inl (D82 a0) | 52 => .spec (S52 W) | 53 => .spec (S53 W) | 54 => .spec (S54 W) | 55 => .spec (S55 W)
  | g => fT2 F G g
noncomputable def vc3 (L : Lv) (F : LexF) (G : LexG) (W : LexW) (l : List Nat) (d : FnD) (sp : VM.Spec) (x : Ds sp.ins) : VC := contractVC L E01 (callG L E01 (only (fT3 F G W) l) 1) (spcOf (only (fT3 F G W) l)) d sp x
def a113 (L : Lv) (I : Ds [.str, .sl .str, It] → Prop) (mu : Ds [.str, .sl .str, It] → Nat) : Nat → LAnn
  | 0 => anH L [0, 1, 2, 3, 9, 10] [] [.s 0 .str, .r 9 .str, .s 10 It] I mu
  | _ => .no
def a53 (L : Lv) (I : Ds [It, It] → Prop) (mu : Ds [It, It] → Nat) : Nat → LAnn
  | 0 => anH L [9, 57, 58, 59] [] [.s 9 It, .s 59 It] I mu
  | _ => .no
def a54 (L : Lv) (I : Ds [It, It, It] → Prop) (mu : Ds [It, It, It] → Nat) : Nat → LAnn
  | 0 => anH L [0, 1, 4, 8, 9] [] [.b 8 0 It, .b 8 1 It, .s 9 It] I mu
  | _ => .no
def a55 (L : Lv) (I : Ds [It] → Prop) (mu : Ds [It] → Nat) : Nat → LAnn
  | 0 => anH L [0, 3, 8] [] [.s 8 It] I mu
  | _ => .no
def a20 (L : Lv) (I : Ds [It, It, It] → Prop) (mu : Ds [It, It, It] → Nat) : Nat → LAnn
  | 0 => anH L [0, 6, 7, 8] [] [.s 6 It, .s 7 It, .s 8 It] I mu
  | _ => .no
def n113 (L : Lv) (F : LexF) (G : LexG) (W : LexW) (I : Ds [.str, .sl .str, It] → Prop) (mu : Ds [.str, .sl .str, It] → Nat) (s t : ByteArray) (u v : Int)  : VC :=
 VC.br (Lv.cmp L BinOp.eql v 0) (VC.ok (([], ()) = (LexW.split W s, ())))
 (VC.br (Lv.scmp L BinOp.eql t (ByteArray.mk #[])) VC.bad
 (VC.br (Lv.cmp L BinOp.lss v 0)
 (VC.obl (LexW.pNl W t)
 (VC.obl
 (Lv.mkOk L (Lv.mn L (Lv.ar L BinOp.add IntKind.i64 (LexW.cnt W s) 1) (Lv.ar L BinOp.add IntKind.i64 (Lv.cast L (Lv.slen L s)) 1))
 (Lv.mn L (Lv.ar L BinOp.add IntKind.i64 (LexW.cnt W s) 1) (Lv.ar L BinOp.add IntKind.i64 (Lv.cast L (Lv.slen L s)) 1)) 16)
 (VC.obl
 (St.mk 66
 [(0, V.c (C.str s)), (1, V.c (C.str t)), (2, V.c (C.int IntKind.i64 u)),
 (3, V.c (C.int IntKind.i64 (Lv.ar L BinOp.sub IntKind.i64 (Lv.mn L (Lv.ar L BinOp.add IntKind.i64 (LexW.cnt W s) 1) (Lv.ar L BinOp.add IntKind.i64 (Lv.cast L (Lv.slen L s)) 1)) 1))),
 (9, V.c (C.own 2 (Lv.toN L (Lv.mn L (Lv.ar L BinOp.add IntKind.i64 (LexW.cnt W s) 1) (Lv.ar L BinOp.add IntKind.i64 (Lv.cast L (Lv.slen L s)) 1))))), (10, V.c (C.int IntKind.i64 0))]
 [(0, Ob.amb),
 (2,
 Ob.row 9 Ty.str
 (Lv.rep L Ty.str (Lv.toN L (Lv.mn L (Lv.ar L BinOp.add IntKind.i64 (LexW.cnt W s) 1) (Lv.ar L BinOp.add IntKind.i64 (Lv.cast L (Lv.slen L s)) 1)))
 (Ty.dflt (TI.ty (TI.mk Kd.str 1 16 [Z.str] Ty.str)))))]
 3 =
 St.mk 66
 [(0, V.c (C.str s)), (1, V.c (C.str t)), (2, V.c (C.int IntKind.i64 u)),
 (3, V.c (C.int IntKind.i64 (Lv.ar L BinOp.sub IntKind.i64 (Lv.mn L (Lv.ar L BinOp.add IntKind.i64 (LexW.cnt W s) 1) (Lv.ar L BinOp.add IntKind.i64 (Lv.cast L (Lv.slen L s)) 1)) 1))),
 (9,
 V.c
 (C.own 2
 (Lv.llen L Ty.str
 (Lv.rep L Ty.str (Lv.toN L (Lv.mn L (Lv.ar L BinOp.add IntKind.i64 (LexW.cnt W s) 1) (Lv.ar L BinOp.add IntKind.i64 (Lv.cast L (Lv.slen L s)) 1)))
 (Ty.dflt (TI.ty (TI.mk Kd.str 1 16 [Z.str] Ty.str))))))),
 (10, V.c (C.int IntKind.i64 0))]
 [(0, Ob.amb),
 (2,
 Ob.row 9 Ty.str
 (Lv.rep L Ty.str (Lv.toN L (Lv.mn L (Lv.ar L BinOp.add IntKind.i64 (LexW.cnt W s) 1) (Lv.ar L BinOp.add IntKind.i64 (Lv.cast L (Lv.slen L s)) 1)))
 (Ty.dflt (TI.ty (TI.mk Kd.str 1 16 [Z.str] Ty.str)))))]
 3)
 (VC.obl
 (I
 (s,
 Lv.rep L Ty.str (Lv.toN L (Lv.mn L (Lv.ar L BinOp.add IntKind.i64 (LexW.cnt W s) 1) (Lv.ar L BinOp.add IntKind.i64 (Lv.cast L (Lv.slen L s)) 1)))
 (Ty.dflt (TI.ty (TI.mk Kd.str 1 16 [Z.str] Ty.str))),
 0, ()))
 (VC.all (ByteArray × List ByteArray × Int × Unit) fun (x : ByteArray × List ByteArray × Int × Unit) =>
 VC.imp (I x)
 (VC.br
 (Lv.cmp L BinOp.lss (Prod.fst (Prod.snd (Prod.snd x)))
 (Lv.ar L BinOp.sub IntKind.i64 (Lv.mn L (Lv.ar L BinOp.add IntKind.i64 (LexW.cnt W s) 1) (Lv.ar L BinOp.add IntKind.i64 (Lv.cast L (Lv.slen L s)) 1)) 1))
 (VC.obl (LexW.pNl W t)
 (VC.br (Lv.cmp L BinOp.lss (LexW.idx W (Prod.fst x)) 0)
 (VC.obl (Lv.inR L (Prod.fst (Prod.snd (Prod.snd x))) (Lv.llen L Ty.str (Prod.fst (Prod.snd x))))
 (VC.obl (Lv.ltN L (Lv.toN L (Prod.fst (Prod.snd (Prod.snd x)))) (Lv.llen L Ty.str (Prod.fst (Prod.snd x))))
 (VC.obl (Lv.le3 L (Lv.cast L 0) (Lv.ar L BinOp.add IntKind.i64 (Prod.fst (Prod.snd (Prod.snd x))) 1) (Lv.llen L Ty.str (Prod.fst (Prod.snd x))))
 (VC.ok
 ((Lv.take L Ty.str (Lv.setl L Ty.str (Prod.fst (Prod.snd x)) (Lv.toN L (Prod.fst (Prod.snd (Prod.snd x)))) (Prod.fst x))
 (Lv.toN L (Lv.ar L BinOp.add IntKind.i64 (Prod.fst (Prod.snd (Prod.snd x))) 1)),
 ()) =
 (LexW.split W s, ()))))))
 (VC.obl (Lv.le3 L (Lv.cast L 0) (Lv.ar L BinOp.add IntKind.i64 (LexW.idx W (Prod.fst x)) u) (Lv.slen L (Prod.fst x)))
 (VC.obl (Lv.inR L (Prod.fst (Prod.snd (Prod.snd x))) (Lv.llen L Ty.str (Prod.fst (Prod.snd x))))
 (VC.obl (Lv.ltN L (Lv.toN L (Prod.fst (Prod.snd (Prod.snd x)))) (Lv.llen L Ty.str (Prod.fst (Prod.snd x))))
 (VC.obl (Lv.le3 L (Lv.ar L BinOp.add IntKind.i64 (LexW.idx W (Prod.fst x)) (Lv.cast L (Lv.slen L t))) (Lv.cast L (Lv.slen L (Prod.fst x))) (Lv.slen L (Prod.fst x)))
 (VC.ok
 (St.mk 66
 [(0,
 V.c
 (C.str
 (Lv.ext L (Prod.fst x) (Lv.toN L (Lv.ar L BinOp.add IntKind.i64 (LexW.idx W (Prod.fst x)) (Lv.cast L (Lv.slen L t))))
 (Lv.toN L (Lv.cast L (Lv.slen L (Prod.fst x))))))),
 (1, V.c (C.str t)), (2, V.c (C.int IntKind.i64 u)),
 (3,
 V.c
 (C.int IntKind.i64
 (Lv.ar L BinOp.sub IntKind.i64 (Lv.mn L (Lv.ar L BinOp.add IntKind.i64 (LexW.cnt W s) 1) (Lv.ar L BinOp.add IntKind.i64 (Lv.cast L (Lv.slen L s)) 1))
 1))),
 (9, V.c (C.own 2 (Lv.llen L Ty.str (Prod.fst (Prod.snd x))))),
 (10, V.c (C.int IntKind.i64 (Lv.ar L BinOp.add IntKind.i64 (Prod.fst (Prod.snd (Prod.snd x))) 1)))]
 [(0, Ob.amb),
 (2,
 Ob.row 9 Ty.str
 (Lv.setl L Ty.str (Prod.fst (Prod.snd x)) (Lv.toN L (Prod.fst (Prod.snd (Prod.snd x))))
 (Lv.ext L (Prod.fst x) (Lv.toN L (Lv.cast L 0)) (Lv.toN L (Lv.ar L BinOp.add IntKind.i64 (LexW.idx W (Prod.fst x)) u)))))]
 3 =
 St.mk 66
 [(0,
 V.c
 (C.str
 (Lv.ext L (Prod.fst x) (Lv.toN L (Lv.ar L BinOp.add IntKind.i64 (LexW.idx W (Prod.fst x)) (Lv.cast L (Lv.slen L t))))
 (Lv.toN L (Lv.cast L (Lv.slen L (Prod.fst x))))))),
 (1, V.c (C.str t)), (2, V.c (C.int IntKind.i64 u)),
 (3,
 V.c
 (C.int IntKind.i64
 (Lv.ar L BinOp.sub IntKind.i64 (Lv.mn L (Lv.ar L BinOp.add IntKind.i64 (LexW.cnt W s) 1) (Lv.ar L BinOp.add IntKind.i64 (Lv.cast L (Lv.slen L s)) 1))
 1))),
 (9,
 V.c
 (C.own 2
 (Lv.llen L Ty.str
 (Lv.setl L Ty.str (Prod.fst (Prod.snd x)) (Lv.toN L (Prod.fst (Prod.snd (Prod.snd x))))
 (Lv.ext L (Prod.fst x) (Lv.toN L (Lv.cast L 0)) (Lv.toN L (Lv.ar L BinOp.add IntKind.i64 (LexW.idx W (Prod.fst x)) u))))))),
 (10, V.c (C.int IntKind.i64 (Lv.ar L BinOp.add IntKind.i64 (Prod.fst (Prod.snd (Prod.snd x))) 1)))]
 [(0, Ob.amb),
 (2,
 Ob.row 9 Ty.str
 (Lv.setl L Ty.str (Prod.fst (Prod.snd x)) (Lv.toN L (Prod.fst (Prod.snd (Prod.snd x))))
 (Lv.ext L (Prod.fst x) (Lv.toN L (Lv.cast L 0)) (Lv.toN L (Lv.ar L BinOp.add IntKind.i64 (LexW.idx W (Prod.fst x)) u)))))]
 3 ∧
 I
 (Lv.ext L (Prod.fst x) (Lv.toN L (Lv.ar L BinOp.add IntKind.i64 (LexW.idx W (Prod.fst x)) (Lv.cast L (Lv.slen L t))))
 (Lv.toN L (Lv.cast L (Lv.slen L (Prod.fst x)))),
 Lv.setl L Ty.str (Prod.fst (Prod.snd x)) (Lv.toN L (Prod.fst (Prod.snd (Prod.snd x))))
 (Lv.ext L (Prod.fst x) (Lv.toN L (Lv.cast L 0)) (Lv.toN L (Lv.ar L BinOp.add IntKind.i64 (LexW.idx W (Prod.fst x)) u))),
 Lv.ar L BinOp.add IntKind.i64 (Prod.fst (Prod.snd (Prod.snd x))) 1, ()) ∧
 mu
 (Lv.ext L (Prod.fst x) (Lv.toN L (Lv.ar L BinOp.add IntKind.i64 (LexW.idx W (Prod.fst x)) (Lv.cast L (Lv.slen L t))))
 (Lv.toN L (Lv.cast L (Lv.slen L (Prod.fst x)))),
 Lv.setl L Ty.str (Prod.fst (Prod.snd x)) (Lv.toN L (Prod.fst (Prod.snd (Prod.snd x))))
 (Lv.ext L (Prod.fst x) (Lv.toN L (Lv.cast L 0)) (Lv.toN L (Lv.ar L BinOp.add IntKind.i64 (LexW.idx W (Prod.fst x)) u))),
 Lv.ar L BinOp.add IntKind.i64 (Prod.fst (Prod.snd (Prod.snd x))) 1, ()) <
 mu x))))))))
 (VC.obl (Lv.inR L (Prod.fst (Prod.snd (Prod.snd x))) (Lv.llen L Ty.str (Prod.fst (Prod.snd x))))
 (VC.obl (Lv.ltN L (Lv.toN L (Prod.fst (Prod.snd (Prod.snd x)))) (Lv.llen L Ty.str (Prod.fst (Prod.snd x))))
 (VC.obl (Lv.le3 L (Lv.cast L 0) (Lv.ar L BinOp.add IntKind.i64 (Prod.fst (Prod.snd (Prod.snd x))) 1) (Lv.llen L Ty.str (Prod.fst (Prod.snd x))))
 (VC.ok
 ((Lv.take L Ty.str (Lv.setl L Ty.str (Prod.fst (Prod.snd x)) (Lv.toN L (Prod.fst (Prod.snd (Prod.snd x)))) (Prod.fst x))
 (Lv.toN L (Lv.ar L BinOp.add IntKind.i64 (Prod.fst (Prod.snd (Prod.snd x))) 1)),
 ()) =
 (LexW.split W s, ()))))))))))))
 (VC.obl (Lv.mkOk L (Lv.mn L v (Lv.ar L BinOp.add IntKind.i64 (Lv.cast L (Lv.slen L s)) 1)) (Lv.mn L v (Lv.ar L BinOp.add IntKind.i64 (Lv.cast L (Lv.slen L s)) 1)) 16)
 (VC.obl
 (St.mk 66
 [(0, V.c (C.str s)), (1, V.c (C.str t)), (2, V.c (C.int IntKind.i64 u)),
 (3, V.c (C.int IntKind.i64 (Lv.ar L BinOp.sub IntKind.i64 (Lv.mn L v (Lv.ar L BinOp.add IntKind.i64 (Lv.cast L (Lv.slen L s)) 1)) 1))),
 (9, V.c (C.own 2 (Lv.toN L (Lv.mn L v (Lv.ar L BinOp.add IntKind.i64 (Lv.cast L (Lv.slen L s)) 1))))), (10, V.c (C.int IntKind.i64 0))]
 [(0, Ob.amb),
 (2, Ob.row 9 Ty.str (Lv.rep L Ty.str (Lv.toN L (Lv.mn L v (Lv.ar L BinOp.add IntKind.i64 (Lv.cast L (Lv.slen L s)) 1))) (Ty.dflt (TI.ty (TI.mk Kd.str 1 16 [Z.str] Ty.str)))))]
 3 =
 St.mk 66
 [(0, V.c (C.str s)), (1, V.c (C.str t)), (2, V.c (C.int IntKind.i64 u)),
 (3, V.c (C.int IntKind.i64 (Lv.ar L BinOp.sub IntKind.i64 (Lv.mn L v (Lv.ar L BinOp.add IntKind.i64 (Lv.cast L (Lv.slen L s)) 1)) 1))),
 (9,
 V.c
 (C.own 2
 (Lv.llen L Ty.str (Lv.rep L Ty.str (Lv.toN L (Lv.mn L v (Lv.ar L BinOp.add IntKind.i64 (Lv.cast L (Lv.slen L s)) 1))) (Ty.dflt (TI.ty (TI.mk Kd.str 1 16 [Z.str] Ty.str))))))),
 (10, V.c (C.int IntKind.i64 0))]
 [(0, Ob.amb),
 (2, Ob.row 9 Ty.str (Lv.rep L Ty.str (Lv.toN L (Lv.mn L v (Lv.ar L BinOp.add IntKind.i64 (Lv.cast L (Lv.slen L s)) 1))) (Ty.dflt (TI.ty (TI.mk Kd.str 1 16 [Z.str] Ty.str)))))]
 3)
 (VC.obl (I (s, Lv.rep L Ty.str (Lv.toN L (Lv.mn L v (Lv.ar L BinOp.add IntKind.i64 (Lv.cast L (Lv.slen L s)) 1))) (Ty.dflt (TI.ty (TI.mk Kd.str 1 16 [Z.str] Ty.str))), 0, ()))
 (VC.all (ByteArray × List ByteArray × Int × Unit) fun (x : ByteArray × List ByteArray × Int × Unit) =>
 VC.imp (I x)
 (VC.br (Lv.cmp L BinOp.lss (Prod.fst (Prod.snd (Prod.snd x))) (Lv.ar L BinOp.sub IntKind.i64 (Lv.mn L v (Lv.ar L BinOp.add IntKind.i64 (Lv.cast L (Lv.slen L s)) 1)) 1))
 (VC.obl (LexW.pNl W t)
 (VC.br (Lv.cmp L BinOp.lss (LexW.idx W (Prod.fst x)) 0)
 (VC.obl (Lv.inR L (Prod.fst (Prod.snd (Prod.snd x))) (Lv.llen L Ty.str (Prod.fst (Prod.snd x))))
 (VC.obl (Lv.ltN L (Lv.toN L (Prod.fst (Prod.snd (Prod.snd x)))) (Lv.llen L Ty.str (Prod.fst (Prod.snd x))))
 (VC.obl (Lv.le3 L (Lv.cast L 0) (Lv.ar L BinOp.add IntKind.i64 (Prod.fst (Prod.snd (Prod.snd x))) 1) (Lv.llen L Ty.str (Prod.fst (Prod.snd x))))
 (VC.ok
 ((Lv.take L Ty.str (Lv.setl L Ty.str (Prod.fst (Prod.snd x)) (Lv.toN L (Prod.fst (Prod.snd (Prod.snd x)))) (Prod.fst x))
 (Lv.toN L (Lv.ar L BinOp.add IntKind.i64 (Prod.fst (Prod.snd (Prod.snd x))) 1)),
 ()) =
 (LexW.split W s, ()))))))
 (VC.obl (Lv.le3 L (Lv.cast L 0) (Lv.ar L BinOp.add IntKind.i64 (LexW.idx W (Prod.fst x)) u) (Lv.slen L (Prod.fst x)))
 (VC.obl (Lv.inR L (Prod.fst (Prod.snd (Prod.snd x))) (Lv.llen L Ty.str (Prod.fst (Prod.snd x))))
 (VC.obl (Lv.ltN L (Lv.toN L (Prod.fst (Prod.snd (Prod.snd x)))) (Lv.llen L Ty.str (Prod.fst (Prod.snd x))))
 (VC.obl (Lv.le3 L (Lv.ar L BinOp.add IntKind.i64 (LexW.idx W (Prod.fst x)) (Lv.cast L (Lv.slen L t))) (Lv.cast L (Lv.slen L (Prod.fst x))) (Lv.slen L (Prod.fst x)))
 (VC.ok
 (St.mk 66
 [(0,
 V.c
 (C.str
 (Lv.ext L (Prod.fst x) (Lv.toN L (Lv.ar L BinOp.add IntKind.i64 (LexW.idx W (Prod.fst x)) (Lv.cast L (Lv.slen L t))))
 (Lv.toN L (Lv.cast L (Lv.slen L (Prod.fst x))))))),
 (1, V.c (C.str t)), (2, V.c (C.int IntKind.i64 u)),
 (3, V.c (C.int IntKind.i64 (Lv.ar L BinOp.sub IntKind.i64 (Lv.mn L v (Lv.ar L BinOp.add IntKind.i64 (Lv.cast L (Lv.slen L s)) 1)) 1))),
 (9, V.c (C.own 2 (Lv.llen L Ty.str (Prod.fst (Prod.snd x))))),
 (10, V.c (C.int IntKind.i64 (Lv.ar L BinOp.add IntKind.i64 (Prod.fst (Prod.snd (Prod.snd x))) 1)))]
 [(0, Ob.amb),
 (2,
 Ob.row 9 Ty.str
 (Lv.setl L Ty.str (Prod.fst (Prod.snd x)) (Lv.toN L (Prod.fst (Prod.snd (Prod.snd x))))
 (Lv.ext L (Prod.fst x) (Lv.toN L (Lv.cast L 0)) (Lv.toN L (Lv.ar L BinOp.add IntKind.i64 (LexW.idx W (Prod.fst x)) u)))))]
 3 =
 St.mk 66
 [(0,
 V.c
 (C.str
 (Lv.ext L (Prod.fst x) (Lv.toN L (Lv.ar L BinOp.add IntKind.i64 (LexW.idx W (Prod.fst x)) (Lv.cast L (Lv.slen L t))))
 (Lv.toN L (Lv.cast L (Lv.slen L (Prod.fst x))))))),
 (1, V.c (C.str t)), (2, V.c (C.int IntKind.i64 u)),
 (3, V.c (C.int IntKind.i64 (Lv.ar L BinOp.sub IntKind.i64 (Lv.mn L v (Lv.ar L BinOp.add IntKind.i64 (Lv.cast L (Lv.slen L s)) 1)) 1))),
 (9,
 V.c
 (C.own 2
 (Lv.llen L Ty.str
 (Lv.setl L Ty.str (Prod.fst (Prod.snd x)) (Lv.toN L (Prod.fst (Prod.snd (Prod.snd x))))
 (Lv.ext L (Prod.fst x) (Lv.toN L (Lv.cast L 0)) (Lv.toN L (Lv.ar L BinOp.add IntKind.i64 (LexW.idx W (Prod.fst x)) u))))))),
 (10, V.c (C.int IntKind.i64 (Lv.ar L BinOp.add IntKind.i64 (Prod.fst (Prod.snd (Prod.snd x))) 1)))]
 [(0, Ob.amb),
 (2,
 Ob.row 9 Ty.str
 (Lv.setl L Ty.str (Prod.fst (Prod.snd x)) (Lv.toN L (Prod.fst (Prod.snd (Prod.snd x))))
 (Lv.ext L (Prod.fst x) (Lv.toN L (Lv.cast L 0)) (Lv.toN L (Lv.ar L BinOp.add IntKind.i64 (LexW.idx W (Prod.fst x)) u)))))]
 3 ∧
 I
 (Lv.ext L (Prod.fst x) (Lv.toN L (Lv.ar L BinOp.add IntKind.i64 (LexW.idx W (Prod.fst x)) (Lv.cast L (Lv.slen L t))))
 (Lv.toN L (Lv.cast L (Lv.slen L (Prod.fst x)))),
 Lv.setl L Ty.str (Prod.fst (Prod.snd x)) (Lv.toN L (Prod.fst (Prod.snd (Prod.snd x))))
 (Lv.ext L (Prod.fst x) (Lv.toN L (Lv.cast L 0)) (Lv.toN L (Lv.ar L BinOp.add IntKind.i64 (LexW.idx W (Prod.fst x)) u))),
 Lv.ar L BinOp.add IntKind.i64 (Prod.fst (Prod.snd (Prod.snd x))) 1, ()) ∧
 mu
 (Lv.ext L (Prod.fst x) (Lv.toN L (Lv.ar L BinOp.add IntKind.i64 (LexW.idx W (Prod.fst x)) (Lv.cast L (Lv.slen L t))))
 (Lv.toN L (Lv.cast L (Lv.slen L (Prod.fst x)))),
 Lv.setl L Ty.str (Prod.fst (Prod.snd x)) (Lv.toN L (Prod.fst (Prod.snd (Prod.snd x))))
 (Lv.ext L (Prod.fst x) (Lv.toN L (Lv.cast L 0)) (Lv.toN L (Lv.ar L BinOp.add IntKind.i64 (LexW.idx W (Prod.fst x)) u))),
 Lv.ar L BinOp.add IntKind.i64 (Prod.fst (Prod.snd (Prod.snd x))) 1, ()) <
 mu x))))))))
 (VC.obl (Lv.inR L (Prod.fst (Prod.snd (Prod.snd x))) (Lv.llen L Ty.str (Prod.fst (Prod.snd x))))
 (VC.obl (Lv.ltN L (Lv.toN L (Prod.fst (Prod.snd (Prod.snd x)))) (Lv.llen L Ty.str (Prod.fst (Prod.snd x))))
 (VC.obl (Lv.le3 L (Lv.cast L 0) (Lv.ar L BinOp.add IntKind.i64 (Prod.fst (Prod.snd (Prod.snd x))) 1) (Lv.llen L Ty.str (Prod.fst (Prod.snd x))))
 (VC.ok
 ((Lv.take L Ty.str (Lv.setl L Ty.str (Prod.fst (Prod.snd x)) (Lv.toN L (Prod.fst (Prod.snd (Prod.snd x)))) (Prod.fst x))
 (Lv.toN L (Lv.ar L BinOp.add IntKind.i64 (Prod.fst (Prod.snd (Prod.snd x))) 1)),
 ()) =
 (LexW.split W s, ())))))))))))))
theorem n113_eq (L : Lv) (F : LexF) (G : LexG) (W : LexW) (I : Ds [.str, .sl .str, It] → Prop) (mu : Ds [.str, .sl .str, It] → Nat) (s t : ByteArray) (u v : Int) : vc3 L F G W [80, 111] (D113 (a113 L I mu)) (S113 W) (s, t, u, v, ()) = n113 L F G W I mu s t u v := by kernel_rfl
theorem n113_go (L : Lv) (F : LexF) (G : LexG) (W : LexW) (I : Ds [.str, .sl .str, It] → Prop) (mu : Ds [.str, .sl .str, It] → Nat) (s t : ByteArray) (u v : Int) (h : VC.holds (n113 L F G W I mu s t u v)) : Holds (vc3 L F G W [80, 111] (D113 (a113 L I mu)) (S113 W) (s, t, u, v, ())) := Holds.of_eq (n113_eq L F G W I mu s t u v) h
def n52 (L : Lv) (F : LexF) (G : LexG) (W : LexW) (s : ByteArray) (i : Int)  : VC :=
 VC.obl True
 (VC.br (Lv.cmp L BinOp.neq (Prod.snd (LexF.chk F s)) 0) (VC.ok (((0, 0), Prod.snd (LexF.chk F s), ()) = (Prod.fst (LexW.wh W s i), Prod.snd (LexW.wh W s i), ())))
 (VC.br (Lv.cmp L BinOp.lss i 0) (VC.ok (((0, 0), 3, ()) = (Prod.fst (LexW.wh W s i), Prod.snd (LexW.wh W s i), ())))
 (VC.br (Lv.cmp L BinOp.gtr i (Lv.cast L (Lv.slen L s))) (VC.ok (((0, 0), 3, ()) = (Prod.fst (LexW.wh W s i), Prod.snd (LexW.wh W s i), ())))
 (VC.obl (Lv.le3 L (Lv.cast L 0) i (Lv.slen L s))
 (VC.obl (LexW.pNl W (ByteArray.mk (Array.mk [UInt8.ofBitVec (BitVec.ofFin (Fin.mk 10 (Nat.mod_lt 10 (BitVec.ofNat._proof_1 8))))])))
 (VC.obl (LexW.pSz W (Lv.ext L s (Lv.toN L (Lv.cast L 0)) (Lv.toN L i)))
 (VC.ok
 (((Lv.ar L BinOp.add IntKind.i64 (LexW.cnt W (Lv.ext L s (Lv.toN L (Lv.cast L 0)) (Lv.toN L i))) 1,
 Lv.ar L BinOp.sub IntKind.i64 i (LexW.last W (Lv.ext L s (Lv.toN L (Lv.cast L 0)) (Lv.toN L i)) 10)),
 0, ()) =
 (Prod.fst (LexW.wh W s i), Prod.snd (LexW.wh W s i), ())))))))))
theorem n52_eq (L : Lv) (F : LexF) (G : LexG) (W : LexW) (s : ByteArray) (i : Int) : vc3 L F G W [56, 80, 81] (D52 a0) (S52 W) (s, i, ()) = n52 L F G W s i := by kernel_rfl
theorem n52_go (L : Lv) (F : LexF) (G : LexG) (W : LexW) (s : ByteArray) (i : Int) (h : VC.holds (n52 L F G W s i)) : Holds (vc3 L F G W [56, 80, 81] (D52 a0) (S52 W) (s, i, ())) := Holds.of_eq (n52_eq L F G W s i) h
def n53 (L : Lv) (F : LexF) (G : LexG) (W : LexW) (I : Ds [It, It] → Prop) (mu : Ds [It, It] → Nat) (s : ByteArray) (w : Int × Int)  : VC :=
 VC.obl True
 (VC.br (Lv.cmp L BinOp.neq (Prod.snd (LexF.chk F s)) 0) (VC.ok ((0, Prod.snd (LexF.chk F s), ()) = (Prod.fst (LexW.at' W s w), Prod.snd (LexW.at' W s w), ())))
 (VC.obl (LexW.p113 W s (ByteArray.mk (Array.mk [UInt8.ofBitVec (BitVec.ofFin (Fin.mk 10 (Nat.mod_lt 10 (BitVec.ofNat._proof_1 8))))])) 0 (Int.negSucc 0))
 (VC.br (Lv.cmp L BinOp.lss (Prod.fst w) 1) (VC.ok ((0, 3, ()) = (Prod.fst (LexW.at' W s w), Prod.snd (LexW.at' W s w), ())))
 (VC.br (Lv.cmp L BinOp.gtr (Prod.fst w) (Lv.cast L (Lv.llen L Ty.str (LexW.split W s)))) (VC.ok ((0, 3, ()) = (Prod.fst (LexW.at' W s w), Prod.snd (LexW.at' W s w), ())))
 (VC.br (Lv.cmp L BinOp.lss (Prod.snd w) 1) (VC.ok ((0, 3, ()) = (Prod.fst (LexW.at' W s w), Prod.snd (LexW.at' W s w), ())))
 (VC.obl (Lv.inR L (Lv.ar L BinOp.sub IntKind.i64 (Prod.fst w) 1) (Lv.llen L Ty.str (LexW.split W s)))
 (VC.br
 (Lv.cmp L BinOp.gtr (Prod.snd w) (Lv.ar L BinOp.add IntKind.i64 (Lv.cast L (Lv.slen L (Lv.get L Ty.str (LexW.split W s) (Lv.toN L (Lv.ar L BinOp.sub IntKind.i64 (Prod.fst w) 1))))) 1))
 (VC.ok ((0, 3, ()) = (Prod.fst (LexW.at' W s w), Prod.snd (LexW.at' W s w), ())))
 (VC.obl (Lv.le3 L (Lv.cast L 0) (Lv.ar L BinOp.sub IntKind.i64 (Prod.fst w) 1) (Lv.llen L Ty.str (LexW.split W s)))
 (VC.obl
 (St.mk 70
 [(9, V.c (C.int IntKind.i64 (Lv.ar L BinOp.sub IntKind.i64 (Prod.snd w) 1))),
 (57, V.c (C.sl Ty.str (Lv.drop L Ty.str (Lv.take L Ty.str (LexW.split W s) (Lv.toN L (Lv.ar L BinOp.sub IntKind.i64 (Prod.fst w) 1))) (Lv.toN L (Lv.cast L 0))))),
 (58,
 V.c
 (C.int IntKind.i64
 (Lv.cast L
 (Lv.llen L Ty.str (Lv.drop L Ty.str (Lv.take L Ty.str (LexW.split W s) (Lv.toN L (Lv.ar L BinOp.sub IntKind.i64 (Prod.fst w) 1))) (Lv.toN L (Lv.cast L 0))))))),
 (59, V.c (C.int IntKind.i64 0))]
 [(0, Ob.amb), (1, Ob.box 63 [C.int IntKind.i64 (Prod.fst w), C.int IntKind.i64 (Prod.snd w)])] 2 =
 St.mk 70
 [(9, V.c (C.int IntKind.i64 (Lv.ar L BinOp.sub IntKind.i64 (Prod.snd w) 1))),
 (57, V.c (C.sl Ty.str (Lv.drop L Ty.str (Lv.take L Ty.str (LexW.split W s) (Lv.toN L (Lv.ar L BinOp.sub IntKind.i64 (Prod.fst w) 1))) (Lv.toN L (Lv.cast L 0))))),
 (58,
 V.c
 (C.int IntKind.i64
 (Lv.cast L
 (Lv.llen L Ty.str (Lv.drop L Ty.str (Lv.take L Ty.str (LexW.split W s) (Lv.toN L (Lv.ar L BinOp.sub IntKind.i64 (Prod.fst w) 1))) (Lv.toN L (Lv.cast L 0))))))),
 (59, V.c (C.int IntKind.i64 0))]
 [(0, Ob.amb), (1, Ob.box 63 [C.int IntKind.i64 (Prod.fst w), C.int IntKind.i64 (Prod.snd w)])] 2)
 (VC.obl (I (Lv.ar L BinOp.sub IntKind.i64 (Prod.snd w) 1, 0, ()))
 (VC.all (Int × Int × Unit) fun (x : Int × Int × Unit) =>
 VC.imp (I x)
 (VC.br
 (Lv.cmp L BinOp.lss (Prod.fst (Prod.snd x))
 (Lv.cast L (Lv.llen L Ty.str (Lv.drop L Ty.str (Lv.take L Ty.str (LexW.split W s) (Lv.toN L (Lv.ar L BinOp.sub IntKind.i64 (Prod.fst w) 1))) (Lv.toN L (Lv.cast L 0))))))
 (VC.obl
 (Lv.inR L (Prod.fst (Prod.snd x))
 (Lv.llen L Ty.str (Lv.drop L Ty.str (Lv.take L Ty.str (LexW.split W s) (Lv.toN L (Lv.ar L BinOp.sub IntKind.i64 (Prod.fst w) 1))) (Lv.toN L (Lv.cast L 0)))))
 (VC.ok
 (St.mk 70
 [(9,
 V.c
 (C.int IntKind.i64
 (Lv.ar L BinOp.add IntKind.i64 (Prod.fst x)
 (Lv.ar L BinOp.add IntKind.i64
 (Lv.cast L
 (Lv.slen L
 (Lv.get L Ty.str
 (Lv.drop L Ty.str (Lv.take L Ty.str (LexW.split W s) (Lv.toN L (Lv.ar L BinOp.sub IntKind.i64 (Prod.fst w) 1))) (Lv.toN L (Lv.cast L 0)))
 (Lv.toN L (Prod.fst (Prod.snd x))))))
 1)))),
 (57,
 V.c (C.sl Ty.str (Lv.drop L Ty.str (Lv.take L Ty.str (LexW.split W s) (Lv.toN L (Lv.ar L BinOp.sub IntKind.i64 (Prod.fst w) 1))) (Lv.toN L (Lv.cast L 0))))),
 (58,
 V.c
 (C.int IntKind.i64
 (Lv.cast L
 (Lv.llen L Ty.str
 (Lv.drop L Ty.str (Lv.take L Ty.str (LexW.split W s) (Lv.toN L (Lv.ar L BinOp.sub IntKind.i64 (Prod.fst w) 1))) (Lv.toN L (Lv.cast L 0))))))),
 (59, V.c (C.int IntKind.i64 (Lv.ar L BinOp.add IntKind.i64 (Prod.fst (Prod.snd x)) 1)))]
 [(0, Ob.amb), (1, Ob.box 63 [C.int IntKind.i64 (Prod.fst w), C.int IntKind.i64 (Prod.snd w)])] 2 =
 St.mk 70
 [(9,
 V.c
 (C.int IntKind.i64
 (Lv.ar L BinOp.add IntKind.i64 (Prod.fst x)
 (Lv.ar L BinOp.add IntKind.i64
 (Lv.cast L
 (Lv.slen L
 (Lv.get L Ty.str
 (Lv.drop L Ty.str (Lv.take L Ty.str (LexW.split W s) (Lv.toN L (Lv.ar L BinOp.sub IntKind.i64 (Prod.fst w) 1))) (Lv.toN L (Lv.cast L 0)))
 (Lv.toN L (Prod.fst (Prod.snd x))))))
 1)))),
 (57,
 V.c (C.sl Ty.str (Lv.drop L Ty.str (Lv.take L Ty.str (LexW.split W s) (Lv.toN L (Lv.ar L BinOp.sub IntKind.i64 (Prod.fst w) 1))) (Lv.toN L (Lv.cast L 0))))),
 (58,
 V.c
 (C.int IntKind.i64
 (Lv.cast L
 (Lv.llen L Ty.str
 (Lv.drop L Ty.str (Lv.take L Ty.str (LexW.split W s) (Lv.toN L (Lv.ar L BinOp.sub IntKind.i64 (Prod.fst w) 1))) (Lv.toN L (Lv.cast L 0))))))),
 (59, V.c (C.int IntKind.i64 (Lv.ar L BinOp.add IntKind.i64 (Prod.fst (Prod.snd x)) 1)))]
 [(0, Ob.amb), (1, Ob.box 63 [C.int IntKind.i64 (Prod.fst w), C.int IntKind.i64 (Prod.snd w)])] 2 ∧
 I
 (Lv.ar L BinOp.add IntKind.i64 (Prod.fst x)
 (Lv.ar L BinOp.add IntKind.i64
 (Lv.cast L
 (Lv.slen L
 (Lv.get L Ty.str
 (Lv.drop L Ty.str (Lv.take L Ty.str (LexW.split W s) (Lv.toN L (Lv.ar L BinOp.sub IntKind.i64 (Prod.fst w) 1))) (Lv.toN L (Lv.cast L 0)))
 (Lv.toN L (Prod.fst (Prod.snd x))))))
 1),
 Lv.ar L BinOp.add IntKind.i64 (Prod.fst (Prod.snd x)) 1, ()) ∧
 mu
 (Lv.ar L BinOp.add IntKind.i64 (Prod.fst x)
 (Lv.ar L BinOp.add IntKind.i64
 (Lv.cast L
 (Lv.slen L
 (Lv.get L Ty.str
 (Lv.drop L Ty.str (Lv.take L Ty.str (LexW.split W s) (Lv.toN L (Lv.ar L BinOp.sub IntKind.i64 (Prod.fst w) 1))) (Lv.toN L (Lv.cast L 0)))
 (Lv.toN L (Prod.fst (Prod.snd x))))))
 1),
 Lv.ar L BinOp.add IntKind.i64 (Prod.fst (Prod.snd x)) 1, ()) <
 mu x)))
 (VC.ok ((Prod.fst x, 0, ()) = (Prod.fst (LexW.at' W s w), Prod.snd (LexW.at' W s w), ())))))))))))))))
theorem n53_eq (L : Lv) (F : LexF) (G : LexG) (W : LexW) (I : Ds [It, It] → Prop) (mu : Ds [It, It] → Nat) (s : ByteArray) (w : Int × Int) : vc3 L F G W [56, 82, 113] (D53 (a53 L I mu)) (S53 W) (s, w, ()) = n53 L F G W I mu s w := by kernel_rfl
theorem n53_go (L : Lv) (F : LexF) (G : LexG) (W : LexW) (I : Ds [It, It] → Prop) (mu : Ds [It, It] → Nat) (s : ByteArray) (w : Int × Int) (h : VC.holds (n53 L F G W I mu s w)) : Holds (vc3 L F G W [56, 82, 113] (D53 (a53 L I mu)) (S53 W) (s, w, ())) := Holds.of_eq (n53_eq L F G W I mu s w) h
def n54 (L : Lv) (F : LexF) (G : LexG) (W : LexW) (I : Ds [It, It, It] → Prop) (mu : Ds [It, It, It] → Nat) (s : ByteArray) (i : Int)  : VC :=
 VC.obl True
 (VC.br (Lv.cmp L BinOp.neq (Prod.snd (LexF.chk F s)) 0) (VC.ok (((0, 0), Prod.snd (LexF.chk F s), ()) = (Prod.fst (LexW.rWh W s i), Prod.snd (LexW.rWh W s i), ())))
 (VC.br (Lv.cmp L BinOp.lss i 0) (VC.ok (((0, 0), 3, ()) = (Prod.fst (LexW.rWh W s i), Prod.snd (LexW.rWh W s i), ())))
 (VC.br (Lv.cmp L BinOp.gtr i (Lv.cast L (Lv.slen L s))) (VC.ok (((0, 0), 3, ()) = (Prod.fst (LexW.rWh W s i), Prod.snd (LexW.rWh W s i), ())))
 (VC.obl
 (St.mk 48 [(0, V.c (C.str s)), (1, V.c (C.int IntKind.i64 i)), (4, V.c (C.ptr 1 0)), (8, V.c (C.ptr 2 0)), (9, V.c (C.int IntKind.i64 0))]
 [(0, Ob.amb), (1, Ob.box 63 [C.int IntKind.i64 0, C.int IntKind.i64 0]), (2, Ob.box 63 [C.int IntKind.i64 1, C.int IntKind.i64 1])] 3 =
 St.mk 48 [(0, V.c (C.str s)), (1, V.c (C.int IntKind.i64 i)), (4, V.c (C.ptr 1 0)), (8, V.c (C.ptr 2 0)), (9, V.c (C.int IntKind.i64 0))]
 [(0, Ob.amb), (1, Ob.box 63 [C.int IntKind.i64 0, C.int IntKind.i64 0]), (2, Ob.box 63 [C.int IntKind.i64 1, C.int IntKind.i64 1])] 3)
 (VC.obl (I (1, 1, 0, ()))
 (VC.all (Int × Int × Int × Unit) fun (x : Int × Int × Int × Unit) =>
 VC.imp (I x)
 (VC.br (Lv.cmp L BinOp.lss (Prod.fst (Prod.snd (Prod.snd x))) i)
 (VC.obl (Lv.inR L (Prod.fst (Prod.snd (Prod.snd x))) (Lv.slen L s))
 (VC.br (Lv.cmp L BinOp.eql (Lv.byte L s (Prod.fst (Prod.snd (Prod.snd x)))) 10)
 (VC.ok
 (St.mk 48
 [(0, V.c (C.str s)), (1, V.c (C.int IntKind.i64 i)), (4, V.c (C.ptr 1 0)), (8, V.c (C.ptr 2 0)),
 (9, V.c (C.int IntKind.i64 (Lv.ar L BinOp.add IntKind.i64 (Prod.fst (Prod.snd (Prod.snd x))) 1)))]
 [(0, Ob.amb), (1, Ob.box 63 [C.int IntKind.i64 0, C.int IntKind.i64 0]),
 (2, Ob.box 63 [C.int IntKind.i64 (Lv.ar L BinOp.add IntKind.i64 (Prod.fst x) 1), C.int IntKind.i64 1])]
 3 =
 St.mk 48
 [(0, V.c (C.str s)), (1, V.c (C.int IntKind.i64 i)), (4, V.c (C.ptr 1 0)), (8, V.c (C.ptr 2 0)),
 (9, V.c (C.int IntKind.i64 (Lv.ar L BinOp.add IntKind.i64 (Prod.fst (Prod.snd (Prod.snd x))) 1)))]
 [(0, Ob.amb), (1, Ob.box 63 [C.int IntKind.i64 0, C.int IntKind.i64 0]),
 (2, Ob.box 63 [C.int IntKind.i64 (Lv.ar L BinOp.add IntKind.i64 (Prod.fst x) 1), C.int IntKind.i64 1])]
 3 ∧
 I (Lv.ar L BinOp.add IntKind.i64 (Prod.fst x) 1, 1, Lv.ar L BinOp.add IntKind.i64 (Prod.fst (Prod.snd (Prod.snd x))) 1, ()) ∧
 mu (Lv.ar L BinOp.add IntKind.i64 (Prod.fst x) 1, 1, Lv.ar L BinOp.add IntKind.i64 (Prod.fst (Prod.snd (Prod.snd x))) 1, ()) < mu x))
 (VC.ok
 (St.mk 48
 [(0, V.c (C.str s)), (1, V.c (C.int IntKind.i64 i)), (4, V.c (C.ptr 1 0)), (8, V.c (C.ptr 2 0)),
 (9, V.c (C.int IntKind.i64 (Lv.ar L BinOp.add IntKind.i64 (Prod.fst (Prod.snd (Prod.snd x))) 1)))]
 [(0, Ob.amb), (1, Ob.box 63 [C.int IntKind.i64 0, C.int IntKind.i64 0]),
 (2, Ob.box 63 [C.int IntKind.i64 (Prod.fst x), C.int IntKind.i64 (Lv.ar L BinOp.add IntKind.i64 (Prod.fst (Prod.snd x)) 1)])]
 3 =
 St.mk 48
 [(0, V.c (C.str s)), (1, V.c (C.int IntKind.i64 i)), (4, V.c (C.ptr 1 0)), (8, V.c (C.ptr 2 0)),
 (9, V.c (C.int IntKind.i64 (Lv.ar L BinOp.add IntKind.i64 (Prod.fst (Prod.snd (Prod.snd x))) 1)))]
 [(0, Ob.amb), (1, Ob.box 63 [C.int IntKind.i64 0, C.int IntKind.i64 0]),
 (2, Ob.box 63 [C.int IntKind.i64 (Prod.fst x), C.int IntKind.i64 (Lv.ar L BinOp.add IntKind.i64 (Prod.fst (Prod.snd x)) 1)])]
 3 ∧
 I (Prod.fst x, Lv.ar L BinOp.add IntKind.i64 (Prod.fst (Prod.snd x)) 1, Lv.ar L BinOp.add IntKind.i64 (Prod.fst (Prod.snd (Prod.snd x))) 1, ()) ∧
 mu (Prod.fst x, Lv.ar L BinOp.add IntKind.i64 (Prod.fst (Prod.snd x)) 1, Lv.ar L BinOp.add IntKind.i64 (Prod.fst (Prod.snd (Prod.snd x))) 1, ()) < mu x))))
 (VC.ok (((Prod.fst x, Prod.fst (Prod.snd x)), 0, ()) = (Prod.fst (LexW.rWh W s i), Prod.snd (LexW.rWh W s i), ()))))))))))
theorem n54_eq (L : Lv) (F : LexF) (G : LexG) (W : LexW) (I : Ds [It, It, It] → Prop) (mu : Ds [It, It, It] → Nat) (s : ByteArray) (i : Int) : vc3 L F G W [59] (D54 (a54 L I mu)) (S54 W) (s, i, ()) = n54 L F G W I mu s i := by kernel_rfl
theorem n54_go (L : Lv) (F : LexF) (G : LexG) (W : LexW) (I : Ds [It, It, It] → Prop) (mu : Ds [It, It, It] → Nat) (s : ByteArray) (i : Int) (h : VC.holds (n54 L F G W I mu s i)) : Holds (vc3 L F G W [59] (D54 (a54 L I mu)) (S54 W) (s, i, ())) := Holds.of_eq (n54_eq L F G W I mu s i) h
def n55 (L : Lv) (F : LexF) (G : LexG) (W : LexW) (I : Ds [It] → Prop) (mu : Ds [It] → Nat) (s : ByteArray) (w : Int × Int)  : VC :=
 VC.obl True
 (VC.br (Lv.cmp L BinOp.neq (Prod.snd (LexF.chk F s)) 0) (VC.ok ((0, Prod.snd (LexF.chk F s), ()) = (Prod.fst (LexW.rAt W s w), Prod.snd (LexW.rAt W s w), ())))
 (VC.obl
 (St.mk 35 [(0, V.c (C.str s)), (3, V.c (C.ptr 1 0)), (8, V.c (C.int IntKind.i64 0))] [(0, Ob.amb), (1, Ob.box 63 [C.int IntKind.i64 (Prod.fst w), C.int IntKind.i64 (Prod.snd w)])] 2 =
 St.mk 35 [(0, V.c (C.str s)), (3, V.c (C.ptr 1 0)), (8, V.c (C.int IntKind.i64 0))] [(0, Ob.amb), (1, Ob.box 63 [C.int IntKind.i64 (Prod.fst w), C.int IntKind.i64 (Prod.snd w)])] 2)
 (VC.obl (I (0, ()))
 (VC.all (Int × Unit) fun (x : Int × Unit) =>
 VC.imp (I x)
 (VC.br (Lv.cmp L BinOp.leq (Prod.fst x) (Lv.cast L (Lv.slen L s)))
 (VC.obl True
 (VC.br
 (Lv.band L (Lv.cmp L BinOp.eql (Prod.fst (Prod.fst (LexW.rWh W s (Prod.fst x)))) (Prod.fst w))
 (Lv.band L (Lv.cmp L BinOp.eql (Prod.snd (Prod.fst (LexW.rWh W s (Prod.fst x)))) (Prod.snd w)) true))
 (VC.ok ((Prod.fst x, 0, ()) = (Prod.fst (LexW.rAt W s w), Prod.snd (LexW.rAt W s w), ())))
 (VC.ok
 (St.mk 35 [(0, V.c (C.str s)), (3, V.c (C.ptr 1 0)), (8, V.c (C.int IntKind.i64 (Lv.ar L BinOp.add IntKind.i64 (Prod.fst x) 1)))]
 [(0, Ob.amb), (1, Ob.box 63 [C.int IntKind.i64 (Prod.fst w), C.int IntKind.i64 (Prod.snd w)])] 2 =
 St.mk 35 [(0, V.c (C.str s)), (3, V.c (C.ptr 1 0)), (8, V.c (C.int IntKind.i64 (Lv.ar L BinOp.add IntKind.i64 (Prod.fst x) 1)))]
 [(0, Ob.amb), (1, Ob.box 63 [C.int IntKind.i64 (Prod.fst w), C.int IntKind.i64 (Prod.snd w)])] 2 ∧
 I (Lv.ar L BinOp.add IntKind.i64 (Prod.fst x) 1, ()) ∧ mu (Lv.ar L BinOp.add IntKind.i64 (Prod.fst x) 1, ()) < mu x))))
 (VC.ok ((0, 3, ()) = (Prod.fst (LexW.rAt W s w), Prod.snd (LexW.rAt W s w), ()))))))))
theorem n55_eq (L : Lv) (F : LexF) (G : LexG) (W : LexW) (I : Ds [It] → Prop) (mu : Ds [It] → Nat) (s : ByteArray) (w : Int × Int) : vc3 L F G W [54, 59] (D55 (a55 L I mu)) (S55 W) (s, w, ()) = n55 L F G W I mu s w := by kernel_rfl
theorem n55_go (L : Lv) (F : LexF) (G : LexG) (W : LexW) (I : Ds [It] → Prop) (mu : Ds [It] → Nat) (s : ByteArray) (w : Int × Int) (h : VC.holds (n55 L F G W I mu s w)) : Holds (vc3 L F G W [54, 59] (D55 (a55 L I mu)) (S55 W) (s, w, ())) := Holds.of_eq (n55_eq L F G W I mu s w) h
def n19 (L : Lv) (F : LexF) (G : LexG) (W : LexW) (s : ByteArray) (i : Int) (w : Int × Int)  : VC :=
 VC.br (Lv.cmp L BinOp.gtr (Lv.cast L (Lv.slen L s)) 400)
 (VC.br (Lv.cmp L BinOp.leq (Lv.cast L (Lv.slen L s)) 2500) (VC.obl True (VC.br (LexF.awake F) (VC.ok ((true, ()) = (true, ()))) (VC.ok ((false, ()) = (true, ())))))
 (VC.obl True
 (VC.br (LexF.short F s)
 (VC.obl True
 (VC.obl True
 (VC.obl True
 (VC.obl True
 (VC.br
 (Lv.band L (Lv.cmp L BinOp.eql (Prod.fst (Prod.fst (LexW.wh W s i))) (Prod.fst (Prod.fst (LexW.rWh W s i))))
 (Lv.band L (Lv.cmp L BinOp.eql (Prod.snd (Prod.fst (LexW.wh W s i))) (Prod.snd (Prod.fst (LexW.rWh W s i)))) true))
 (VC.br (Lv.cmp L BinOp.eql (Prod.snd (LexW.wh W s i)) (Prod.snd (LexW.rWh W s i)))
 (VC.br (Lv.cmp L BinOp.eql (Prod.fst (LexW.at' W s (Prod.fst w, Prod.snd w))) (Prod.fst (LexW.rAt W s (Prod.fst w, Prod.snd w))))
 (VC.br (Lv.cmp L BinOp.eql (Prod.snd (LexW.at' W s (Prod.fst w, Prod.snd w))) (Prod.snd (LexW.rAt W s (Prod.fst w, Prod.snd w))))
 (VC.obl True (VC.br (LexF.awake F) (VC.ok ((true, ()) = (true, ()))) (VC.ok ((false, ()) = (true, ())))))
 (VC.ok ((false, ()) = (true, ()))))
 (VC.ok ((false, ()) = (true, ()))))
 (VC.ok ((false, ()) = (true, ()))))
 (VC.ok ((false, ()) = (true, ()))))))))
 (VC.obl True (VC.br (LexF.awake F) (VC.ok ((true, ()) = (true, ()))) (VC.ok ((false, ()) = (true, ()))))))))
 (VC.obl True
 (VC.br (LexF.short F s)
 (VC.obl True
 (VC.obl True
 (VC.obl True
 (VC.obl True
 (VC.br
 (Lv.band L (Lv.cmp L BinOp.eql (Prod.fst (Prod.fst (LexW.wh W s i))) (Prod.fst (Prod.fst (LexW.rWh W s i))))
 (Lv.band L (Lv.cmp L BinOp.eql (Prod.snd (Prod.fst (LexW.wh W s i))) (Prod.snd (Prod.fst (LexW.rWh W s i)))) true))
 (VC.br (Lv.cmp L BinOp.eql (Prod.snd (LexW.wh W s i)) (Prod.snd (LexW.rWh W s i)))
 (VC.br (Lv.cmp L BinOp.eql (Prod.fst (LexW.at' W s (Prod.fst w, Prod.snd w))) (Prod.fst (LexW.rAt W s (Prod.fst w, Prod.snd w))))
 (VC.br (Lv.cmp L BinOp.eql (Prod.snd (LexW.at' W s (Prod.fst w, Prod.snd w))) (Prod.snd (LexW.rAt W s (Prod.fst w, Prod.snd w))))
 (VC.obl True (VC.br (LexF.awake F) (VC.ok ((true, ()) = (true, ()))) (VC.ok ((false, ()) = (true, ())))))
 (VC.ok ((false, ()) = (true, ()))))
 (VC.ok ((false, ()) = (true, ()))))
 (VC.ok ((false, ()) = (true, ()))))
 (VC.ok ((false, ()) = (true, ()))))))))
 (VC.obl True (VC.br (LexF.awake F) (VC.ok ((true, ()) = (true, ()))) (VC.ok ((false, ()) = (true, ())))))))
theorem n19_eq (L : Lv) (F : LexF) (G : LexG) (W : LexW) (s : ByteArray) (i : Int) (w : Int × Int) : vc3 L F G W [21, 22, 52, 53, 54, 55] (D19 a0) law19 (s, i, w, ()) = n19 L F G W s i w := by kernel_rfl
theorem n19_go (L : Lv) (F : LexF) (G : LexG) (W : LexW) (s : ByteArray) (i : Int) (w : Int × Int) (h : VC.holds (n19 L F G W s i w)) : Holds (vc3 L F G W [21, 22, 52, 53, 54, 55] (D19 a0) law19 (s, i, w, ())) := Holds.of_eq (n19_eq L F G W s i w) h
def n20 (L : Lv) (F : LexF) (G : LexG) (W : LexW) (I : Ds [It, It, It] → Prop) (mu : Ds [It, It, It] → Nat) (s : ByteArray)  : VC :=
 VC.obl True
 (VC.br (Lv.cmp L BinOp.neq (Prod.snd (Prod.snd (LexG.comments G s))) 0)
 (VC.obl True (VC.br (LexF.awake F) (VC.ok ((true, ()) = (true, ()))) (VC.ok ((false, ()) = (true, ())))))
 (VC.br (Lv.cmp L BinOp.gtr (Lv.cast L (Lv.slen L s)) 400) (VC.obl True (VC.br (LexF.awake F) (VC.ok ((true, ()) = (true, ()))) (VC.ok ((false, ()) = (true, ())))))
 (VC.obl
 (St.mk 86 [(0, V.c (C.str s)), (6, V.c (C.int IntKind.i64 1)), (7, V.c (C.int IntKind.i64 0)), (8, V.c (C.int IntKind.i64 0))] [(0, Ob.amb)] 1 =
 St.mk 86 [(0, V.c (C.str s)), (6, V.c (C.int IntKind.i64 1)), (7, V.c (C.int IntKind.i64 0)), (8, V.c (C.int IntKind.i64 0))] [(0, Ob.amb)] 1)
 (VC.obl (I (1, 0, 0, ()))
 (VC.all (Int × Int × Int × Unit) fun (x : Int × Int × Int × Unit) =>
 VC.imp (I x)
 (VC.br (Lv.cmp L BinOp.leq (Prod.fst (Prod.snd (Prod.snd x))) (Lv.cast L (Lv.slen L s)))
 (VC.obl True
 (VC.obl True
 (VC.br (Lv.cmp L BinOp.neq (Prod.snd (LexW.wh W s (Prod.fst (Prod.snd (Prod.snd x))))) 0) (VC.ok ((false, ()) = (true, ())))
 (VC.br
 (Lv.cmp L BinOp.neq
 (Prod.snd (LexW.at' W s (Prod.fst (Prod.fst (LexW.wh W s (Prod.fst (Prod.snd (Prod.snd x))))), Prod.snd (Prod.fst (LexW.wh W s (Prod.fst (Prod.snd (Prod.snd x)))))))) 0)
 (VC.ok ((false, ()) = (true, ())))
 (VC.br
 (Lv.cmp L BinOp.neq
 (Prod.fst (LexW.at' W s (Prod.fst (Prod.fst (LexW.wh W s (Prod.fst (Prod.snd (Prod.snd x))))), Prod.snd (Prod.fst (LexW.wh W s (Prod.fst (Prod.snd (Prod.snd x))))))))
 (Prod.fst (Prod.snd (Prod.snd x))))
 (VC.ok ((false, ()) = (true, ())))
 (VC.br (Lv.cmp L BinOp.neq (Prod.fst (Prod.fst (LexW.wh W s (Prod.fst (Prod.snd (Prod.snd x)))))) (Prod.fst x)) (VC.ok ((false, ()) = (true, ())))
 (VC.br
 (Lv.cmp L BinOp.neq (Prod.snd (Prod.fst (LexW.wh W s (Prod.fst (Prod.snd (Prod.snd x))))))
 (Lv.ar L BinOp.add IntKind.i64 (Lv.ar L BinOp.sub IntKind.i64 (Prod.fst (Prod.snd (Prod.snd x))) (Prod.fst (Prod.snd x))) 1))
 (VC.ok ((false, ()) = (true, ())))
 (VC.br (Lv.cmp L BinOp.lss (Prod.fst (Prod.snd (Prod.snd x))) (Lv.cast L (Lv.slen L s)))
 (VC.obl (Lv.inR L (Prod.fst (Prod.snd (Prod.snd x))) (Lv.slen L s))
 (VC.br (Lv.cmp L BinOp.eql (Lv.byte L s (Prod.fst (Prod.snd (Prod.snd x)))) 10)
 (VC.ok
 (St.mk 86
 [(0, V.c (C.str s)), (6, V.c (C.int IntKind.i64 (Lv.ar L BinOp.add IntKind.i64 (Prod.fst x) 1))),
 (7, V.c (C.int IntKind.i64 (Lv.ar L BinOp.add IntKind.i64 (Prod.fst (Prod.snd (Prod.snd x))) 1))),
 (8, V.c (C.int IntKind.i64 (Lv.ar L BinOp.add IntKind.i64 (Prod.fst (Prod.snd (Prod.snd x))) 1)))]
 [(0, Ob.amb)] 1 =
 St.mk 86
 [(0, V.c (C.str s)), (6, V.c (C.int IntKind.i64 (Lv.ar L BinOp.add IntKind.i64 (Prod.fst x) 1))),
 (7, V.c (C.int IntKind.i64 (Lv.ar L BinOp.add IntKind.i64 (Prod.fst (Prod.snd (Prod.snd x))) 1))),
 (8, V.c (C.int IntKind.i64 (Lv.ar L BinOp.add IntKind.i64 (Prod.fst (Prod.snd (Prod.snd x))) 1)))]
 [(0, Ob.amb)] 1 ∧
 I
 (Lv.ar L BinOp.add IntKind.i64 (Prod.fst x) 1, Lv.ar L BinOp.add IntKind.i64 (Prod.fst (Prod.snd (Prod.snd x))) 1,
 Lv.ar L BinOp.add IntKind.i64 (Prod.fst (Prod.snd (Prod.snd x))) 1, ()) ∧
 mu
 (Lv.ar L BinOp.add IntKind.i64 (Prod.fst x) 1, Lv.ar L BinOp.add IntKind.i64 (Prod.fst (Prod.snd (Prod.snd x))) 1,
 Lv.ar L BinOp.add IntKind.i64 (Prod.fst (Prod.snd (Prod.snd x))) 1, ()) <
 mu x))
 (VC.ok
 (St.mk 86
 [(0, V.c (C.str s)), (6, V.c (C.int IntKind.i64 (Prod.fst x))), (7, V.c (C.int IntKind.i64 (Prod.fst (Prod.snd x)))),
 (8, V.c (C.int IntKind.i64 (Lv.ar L BinOp.add IntKind.i64 (Prod.fst (Prod.snd (Prod.snd x))) 1)))]
 [(0, Ob.amb)] 1 =
 St.mk 86
 [(0, V.c (C.str s)), (6, V.c (C.int IntKind.i64 (Prod.fst x))), (7, V.c (C.int IntKind.i64 (Prod.fst (Prod.snd x)))),
 (8, V.c (C.int IntKind.i64 (Lv.ar L BinOp.add IntKind.i64 (Prod.fst (Prod.snd (Prod.snd x))) 1)))]
 [(0, Ob.amb)] 1 ∧
 I (Prod.fst x, Prod.fst (Prod.snd x), Lv.ar L BinOp.add IntKind.i64 (Prod.fst (Prod.snd (Prod.snd x))) 1, ()) ∧
 mu (Prod.fst x, Prod.fst (Prod.snd x), Lv.ar L BinOp.add IntKind.i64 (Prod.fst (Prod.snd (Prod.snd x))) 1, ()) < mu x))))
 (VC.ok
 (St.mk 86
 [(0, V.c (C.str s)), (6, V.c (C.int IntKind.i64 (Prod.fst x))), (7, V.c (C.int IntKind.i64 (Prod.fst (Prod.snd x)))),
 (8, V.c (C.int IntKind.i64 (Lv.ar L BinOp.add IntKind.i64 (Prod.fst (Prod.snd (Prod.snd x))) 1)))]
 [(0, Ob.amb)] 1 =
 St.mk 86
 [(0, V.c (C.str s)), (6, V.c (C.int IntKind.i64 (Prod.fst x))), (7, V.c (C.int IntKind.i64 (Prod.fst (Prod.snd x)))),
 (8, V.c (C.int IntKind.i64 (Lv.ar L BinOp.add IntKind.i64 (Prod.fst (Prod.snd (Prod.snd x))) 1)))]
 [(0, Ob.amb)] 1 ∧
 I (Prod.fst x, Prod.fst (Prod.snd x), Lv.ar L BinOp.add IntKind.i64 (Prod.fst (Prod.snd (Prod.snd x))) 1, ()) ∧
 mu (Prod.fst x, Prod.fst (Prod.snd x), Lv.ar L BinOp.add IntKind.i64 (Prod.fst (Prod.snd (Prod.snd x))) 1, ()) < mu x))))))))))
 (VC.obl True (VC.br (LexF.awake F) (VC.ok ((true, ()) = (true, ()))) (VC.ok ((false, ()) = (true, ())))))))))))
theorem n20_eq (L : Lv) (F : LexF) (G : LexG) (W : LexW) (I : Ds [It, It, It] → Prop) (mu : Ds [It, It, It] → Nat) (s : ByteArray) : vc3 L F G W [22, 48, 52, 53] (D20 (a20 L I mu)) law1 (s, ()) = n20 L F G W I mu s := by kernel_rfl
theorem n20_go (L : Lv) (F : LexF) (G : LexG) (W : LexW) (I : Ds [It, It, It] → Prop) (mu : Ds [It, It, It] → Nat) (s : ByteArray) (h : VC.holds (n20 L F G W I mu s)) : Holds (vc3 L F G W [22, 48, 52, 53] (D20 (a20 L I mu)) law1 (s, ())) := Holds.of_eq (n20_eq L F G W I mu s) h

end Go.Proofs.Tryd
set_option autoImplicit false
set_option linter.all false
namespace Go.Proofs.Tryd
open Go Go.VM
set_option maxRecDepth 100000
/-! ### how many line ends stand ahead of a place -/
def cN (s : ByteArray) : Nat → Nat
  | 0 => 0
  | i + 1 => cN s i + if byteAt s i = 10 then 1 else 0
def lc (s : ByteArray) : Nat → Int × Int
  | 0 => (1, 1)
  | i + 1 => if byteAt s i = 10 then ((lc s i).1 + 1, 1) else ((lc s i).1, (lc s i).2 + 1)
def cntF (s : ByteArray) : Int := (Lib.countByte s.data.toList 10 : Nat)
def lastF (s : ByteArray) (c : Int) : Int := Lib.lastIndexByte s c
theorem count_take (s : ByteArray) : ∀ i, i ≤ s.size → (s.data.toList.take i).count 10 = cN s i
  | 0, _ => by simp [cN]
  | i + 1, h => by
    have hlt : i < s.data.size := h
    rw [List.take_succ, List.count_append, count_take s i (by omega), cN, byteAt_list, Int.toNat_natCast]
    have e : s.data.toList[i]? = some (s.data[i]'hlt) := by rw [Array.getElem?_toList, Array.getElem?_eq_getElem hlt]
    rw [e]
    simp only [Option.toList, Option.map_some, Option.getD_some, List.count_singleton]
    congr 1
    by_cases hb : s.data[i]'hlt = 10
    · rw [hb]; rfl
    · rw [if_neg (by simpa using hb), if_neg (fun h => hb (by
        apply UInt8.toNat_inj.1
        have : ((s.data[i]'hlt).toNat : Int) = 10 := h
        show (s.data[i]'hlt).toNat = 10
        omega))]
theorem cntF_eq (s : ByteArray) : cntF s = cN s s.size := by
  unfold cntF Lib.countByte
  rw [← count_take s s.size (Nat.le_refl _), List.take_of_length_le (by show s.data.toList.length ≤ s.data.size; simp)]
theorem cN_le (s : ByteArray) : ∀ i, cN s i ≤ i
  | 0 => Nat.le_refl _
  | i + 1 => by rw [cN]; have := cN_le s i; split <;> omega
theorem cN_ext (s : ByteArray) (a b : Nat) : ∀ k, k + a ≤ min b s.size → cN (s.extract a b) k + cN s a = cN s (a + k)
  | 0, _ => by rw [cN, Nat.add_zero, Nat.zero_add]
  | k + 1, h => by
    have ih := cN_ext s a b k (by omega)
    rw [cN, show a + (k + 1) = (a + k) + 1 by omega, cN, byteAt_ext (by omega) (by omega), show ((a : Int) + (k : Nat)) = ((a + k : Nat) : Int) by omega]
    omega
theorem lc_pos (s : ByteArray) : ∀ i, 1 ≤ (lc s i).1 ∧ (lc s i).1 ≤ i + 1 ∧ 1 ≤ (lc s i).2 ∧ (lc s i).2 ≤ i + 1
  | 0 => by simp only [lc]; omega
  | i + 1 => by
    have := lc_pos s i
    rw [lc]; split <;> simp only <;> omega
theorem lc_line (s : ByteArray) : ∀ i, (lc s i).1 = cN s i + 1
  | 0 => rfl
  | i + 1 => by
    have := lc_line s i
    rw [lc, cN]
    split <;> simp only <;> omega
theorem data_byte (s : ByteArray) (k : Nat) (h : k < s.size) : ((s.data[k]!).toNat : Int) = byteAt s k := by
  have hlt : k < s.data.size := h
  rw [byteAt_list, Int.toNat_natCast, Array.getElem?_toList, Array.getElem?_eq_getElem hlt, getElem!_pos s.data k hlt]
  rfl
theorem lastIdx_ext (s : ByteArray) (n : Nat) (hn : n ≤ s.size) : ∀ k, k ≤ n → Lib.lastIdx (s.extract 0 n) 10 k = Lib.lastIdx s 10 k
  | 0, _ => rfl
  | k + 1, h => by
    rw [Lib.lastIdx, Lib.lastIdx, lastIdx_ext s n hn k (by omega), data_byte _ k (by rw [ext_size]; omega), data_byte s k (by omega), byteAt_ext (by omega) (by omega), show ((0 : Nat) : Int) + (k : Nat) = k by omega]
theorem lc_col (s : ByteArray) : ∀ i, i ≤ s.size → (lc s i).2 = i - Lib.lastIdx s 10 i
  | 0, _ => rfl
  | i + 1, h => by
    have := lc_col s i (by omega)
    rw [lc, Lib.lastIdx, data_byte s i (by omega)]
    split <;> simp only <;> omega
theorem where_lc (s : ByteArray) (i : Nat) (h : i ≤ s.size) : (cntF (s.extract 0 i) + 1, (i : Int) - lastF (s.extract 0 i) 10) = lc s i := by
  have hz : (s.extract 0 i).size = i := by rw [ext_size]; omega
  apply Prod.ext
  · show cntF (s.extract 0 i) + 1 = _
    rw [cntF_eq, hz, lc_line]
    have := cN_ext s 0 i i (by omega)
    simp only [cN, Nat.zero_add, Nat.add_zero] at this
    rw [this]
  · show (i : Int) - lastF (s.extract 0 i) 10 = _
    unfold lastF Lib.lastIndexByte
    rw [hz, lastIdx_ext s i h i (Nat.le_refl _), lc_col s i h]
/-! ### lines -/
def splN : Nat → ByteArray → List ByteArray
  | 0, r => [r]
  | n + 1, r => r.extract 0 (idxB r 10).toNat :: splN n (r.extract (idxB r 10 + 1).toNat r.size)
def splitF (s : ByteArray) : List ByteArray := splN (cN s s.size) s
theorem splN_len : ∀ (n : Nat) (r : ByteArray), (splN n r).length = n + 1
  | 0, _ => rfl
  | n + 1, r => by rw [splN, List.length_cons, splN_len n]
theorem cN_zero {s : ByteArray} : ∀ (n : Nat), (∀ m : Int, 0 ≤ m → m < n → byteAt s m ≠ 10) → cN s n = 0
  | 0, _ => rfl
  | n + 1, h => by rw [cN, cN_zero n (fun m h0 h1 => h m h0 (by omega)), if_neg (h n (by omega) (by omega))]
theorem cN_none {s : ByteArray} : ∀ (n : Nat), cN s n = 0 → ∀ m : Int, 0 ≤ m → m < n → byteAt s m ≠ 10
  | 0, _, m, h0, h1 => by omega
  | n + 1, h, m, h0, h1 => by
    rw [cN] at h
    by_cases e : m = n
    · subst e; intro hb; rw [if_pos hb] at h; omega
    · exact cN_none n (by omega) m h0 (by omega)
/-- The first line end: none, or one that takes one off the count. -/
theorem first_nl (r : ByteArray) : (idxB r 10 = -1 ∧ cN r r.size = 0) ∨ ∃ k : Nat, idxB r 10 = k ∧ k < r.size ∧ byteAt r k = 10 ∧ (∀ m : Int, 0 ≤ m → m < k → byteAt r m ≠ 10) ∧ cN (r.extract (k + 1) r.size) (r.size - (k + 1)) + 1 = cN r r.size := by
  rcases idxB_spec r 10 (by omega) (by omega) with ⟨q1, q2⟩ | ⟨q1, q2, q3, q4⟩
  · exact .inl ⟨q1, cN_zero r.size q2⟩
  · refine .inr ⟨(idxB r 10).toNat, by omega, by omega, ?_, fun m h0 h1 => q4 m h0 (by omega), ?_⟩
    · rw [Int.toNat_of_nonneg q1]; exact q3
    · generalize hk : (idxB r 10).toNat = k
      have e : idxB r 10 = k := by omega
      rw [e] at q2 q3 q4
      have h1 := cN_ext r (k + 1) r.size (r.size - (k + 1)) (by omega)
      have h2 : cN r (k + 1) = 1 := by rw [cN, cN_zero k q4, if_pos q3]
      rw [h2, show k + 1 + (r.size - (k + 1)) = r.size by omega] at h1
      exact h1
def stL : List ByteArray → Nat → Nat
  | _, 0 => 0
  | [], _ => 0
  | x :: l, k + 1 => x.size + 1 + stL l k
theorem stL_succ : ∀ (l : List ByteArray) (k : Nat) (x : ByteArray), l[k]? = some x → stL l (k + 1) = stL l k + x.size + 1
  | [], k, x, h => by simp at h
  | y :: l, 0, x, h => by
    simp only [List.getElem?_cons_zero, Option.some.injEq] at h; subst h
    simp [stL]
  | y :: l, k + 1, x, h => by
    rw [List.getElem?_cons_succ] at h
    have := stL_succ l k x h
    rw [stL, this, stL]; omega
/-- A place lies in one line. -/
theorem stL_at : ∀ (l : List ByteArray) (j : Nat), j < stL l l.length → ∃ (k m : Nat) (x : ByteArray), l[k]? = some x ∧ m ≤ x.size ∧ j = stL l k + m
  | [], j, h => by simp [stL] at h
  | x :: l, j, h => by
    rw [List.length_cons, stL] at h
    by_cases hj : j ≤ x.size
    · exact ⟨0, j, x, rfl, hj, by simp [stL]⟩
    · obtain ⟨k, m, y, h1, h2, h3⟩ := stL_at l (j - (x.size + 1)) (by omega)
      exact ⟨k + 1, m, y, by rw [List.getElem?_cons_succ]; exact h1, h2, by rw [stL]; omega⟩
theorem stL_mono : ∀ (l : List ByteArray) (k : Nat), k ≤ l.length → stL l k ≤ stL l l.length
  | _, 0, _ => by simp [stL]
  | [], k + 1, h => by simp at h
  | x :: l, k + 1, h => by
    have := stL_mono l k (by simpa using h)
    rw [List.length_cons, stL, stL]; omega
theorem lc_run (s : ByteArray) (p : Nat) (l : Int) (h : lc s p = (l, 1)) : ∀ m : Nat, (∀ q : Int, p ≤ q → q < p + m → byteAt s q ≠ 10) → lc s (p + m) = (l, (m : Int) + 1)
  | 0, _ => by rw [Nat.add_zero, h]; rfl
  | m + 1, hn => by
    rw [show p + (m + 1) = (p + m) + 1 by omega, lc, lc_run s p l h m (fun q h0 h1 => hn q h0 (by omega)), if_neg (hn _ (by omega) (by omega))]
    simp only [Prod.mk.injEq, true_and]; omega
theorem seg (s : ByteArray) : ∀ (n p : Nat) (l : Int), p ≤ s.size → cN (s.extract p s.size) (s.size - p) = n → lc s p = (l, 1) →
    (∀ (k m : Nat) (x : ByteArray), (splN n (s.extract p s.size))[k]? = some x → m ≤ x.size → lc s (p + stL (splN n (s.extract p s.size)) k + m) = (l + k, (m : Int) + 1)) ∧ p + stL (splN n (s.extract p s.size)) (n + 1) = s.size + 1
  | 0, p, l, hp, hc, hl => by
    have hz : (s.extract p s.size).size = s.size - p := by rw [ext_size]; omega
    refine ⟨fun k m x hk hm => ?_, by simp only [splN, stL]; omega⟩
    match k, hk with
    | 0, hk =>
      simp only [splN, List.getElem?_cons_zero, Option.some.injEq] at hk
      subst hk
      rw [stL, Nat.add_zero, lc_run s p l hl m (fun q h0 h1 => ?_)]
      · simp
      · have := cN_none _ hc (q - p) (by omega) (by omega)
        rwa [byteAt_ext (by omega) (by omega), show (p : Int) + (q - p) = q by omega] at this
    | k + 1, hk => simp [splN] at hk
  | n + 1, p, l, hp, hc, hl => by
    have hz : (s.extract p s.size).size = s.size - p := by rw [ext_size]; omega
    rcases first_nl (s.extract p s.size) with ⟨q1, q2⟩ | ⟨i, q1, q2, q3, q4, q5⟩
    · rw [hz, hc] at q2; omega
    · rw [hz] at q2 q5
      have ee : (s.extract p s.size).extract (i + 1) (s.size - p) = s.extract (p + (i + 1)) s.size := by
        rw [ByteArray.extract_extract]; congr 1; omega
      rw [ee] at q5
      have eb : ∀ m : Int, 0 ≤ m → m ≤ i → byteAt (s.extract p s.size) m = byteAt s (p + m) := fun m h0 h1 => byteAt_ext h0 (by omega)
      have hrun : ∀ m : Nat, m ≤ i → lc s (p + m) = (l, (m : Int) + 1) := fun m hm => lc_run s p l hl m (fun q h0 h1 => by
        have := q4 (q - p) (by omega) (by omega)
        rwa [eb _ (by omega) (by omega), show (p : Int) + (q - p) = q by omega] at this)
      have hnext : lc s (p + (i + 1)) = (l + 1, 1) := by
        rw [show p + (i + 1) = (p + i) + 1 by omega, lc, if_pos (by rw [eb i (by omega) (Int.le_refl _)] at q3; rw [show (((p + i : Nat)) : Int) = (p : Int) + (i : Nat) by omega]; exact q3), hrun i (Nat.le_refl _)]
      have hrest : cN (s.extract (p + (i + 1)) s.size) (s.size - (p + (i + 1))) = n := by
        rw [show s.size - (p + (i + 1)) = s.size - p - (i + 1) by omega]; omega
      obtain ⟨r1, r2⟩ := seg s n (p + (i + 1)) (l + 1) (by omega) hrest hnext
      have e1 : splN (n + 1) (s.extract p s.size) = (s.extract p s.size).extract 0 i :: splN n (s.extract (p + (i + 1)) s.size) := by
        rw [splN, q1, Int.toNat_natCast, show ((i : Int) + 1).toNat = i + 1 by omega, hz, ee]
      have ez : ((s.extract p s.size).extract 0 i).size = i := by rw [ext_size, hz]; omega
      rw [e1]
      refine ⟨fun k m x hk hm => ?_, by rw [stL, ez]; omega⟩
      match k, hk with
      | 0, hk =>
        simp only [List.getElem?_cons_zero, Option.some.injEq] at hk
        subst hk
        rw [ez] at hm
        rw [stL, Nat.add_zero, hrun m hm]; simp
      | k + 1, hk =>
        rw [List.getElem?_cons_succ] at hk
        have := r1 k m x hk hm
        rw [stL, ez, show p + (i + 1 + stL (splN n (s.extract (p + (i + 1)) s.size)) k) + m = p + (i + 1) + stL (splN n (s.extract (p + (i + 1)) s.size)) k + m by omega, this]
        simp only [Prod.mk.injEq, and_true]; omega
theorem ext_all0 (s : ByteArray) : s.extract 0 s.size = s := ba_ext2 (by rw [ext_size]; omega) (fun i h0 h1 => by rw [ext_size] at h1; rw [byteAt_ext h0 (by omega)]; congr 1; omega)
theorem split_lc (s : ByteArray) : (∀ (k m : Nat) (x : ByteArray), (splitF s)[k]? = some x → m ≤ x.size → lc s (stL (splitF s) k + m) = ((k : Int) + 1, (m : Int) + 1)) ∧ stL (splitF s) (splitF s).length = s.size + 1 := by
  have h := seg s (cN s s.size) 0 1 (Nat.zero_le _) (by rw [ext_all0]; simp) rfl
  rw [ext_all0] at h
  obtain ⟨h1, h2⟩ := h
  refine ⟨fun k m x hk hm => ?_, ?_⟩
  · have := h1 k m x hk hm
    rw [Nat.zero_add] at this
    rw [splitF, this]
    simp only [Prod.mk.injEq, and_true]; omega
  · rw [splitF, splN_len]; omega
/-- A place, by its line and column: at most one. -/
theorem lc_inv (s : ByteArray) (i : Nat) (h : i ≤ s.size) : ∃ (k m : Nat) (x : ByteArray), (splitF s)[k]? = some x ∧ m ≤ x.size ∧ i = stL (splitF s) k + m ∧ lc s i = ((k : Int) + 1, (m : Int) + 1) := by
  obtain ⟨g1, g2⟩ := split_lc s
  obtain ⟨k, m, x, h1, h2, h3⟩ := stL_at (splitF s) i (by omega)
  exact ⟨k, m, x, h1, h2, h3, by rw [h3]; exact g1 k m x h1 h2⟩
theorem lc_inj (s : ByteArray) (i j : Nat) (hi : i ≤ s.size) (hj : j ≤ s.size) (h : lc s i = lc s j) : i = j := by
  obtain ⟨k, m, x, h1, h2, h3, h4⟩ := lc_inv s i hi
  obtain ⟨k', m', x', h1', h2', h3', h4'⟩ := lc_inv s j hj
  rw [h4, h4', Prod.mk.injEq] at h
  obtain ⟨e1, e2⟩ := h
  obtain rfl : k = k' := by omega
  omega
/-! ### places -/
def whF (s : ByteArray) (i : Int) : (Int × Int) × Int := if (chk s).2 ≠ 0 then ((0, 0), (chk s).2) else if i < 0 ∨ (s.size : Int) < i then ((0, 0), 3) else (lc s i.toNat, 0)
def atF (s : ByteArray) (w : Int × Int) : Int × Int := if (chk s).2 ≠ 0 then (0, (chk s).2) else match (List.range (s.size + 1)).find? fun i => decide (lc s i = w) with
  | some i => ((i : Int), 0)
  | none => (0, 3)
theorem at_hit (s : ByteArray) (w : Int × Int) (i : Nat) (hc : (chk s).2 = 0) (hi : i ≤ s.size) (h : lc s i = w) : atF s w = ((i : Int), 0) := by
  unfold atF
  rw [if_neg (fun h => h hc)]
  have : (List.range (s.size + 1)).find? (fun i => decide (lc s i = w)) = some i := by
    rw [List.find?_range_eq_some]
    refine ⟨by simpa using h, by simp; omega, fun j hj => ?_⟩
    simp only [Bool.not_eq_true', decide_eq_false_iff_not]
    intro e
    exact absurd (lc_inj s j i (by omega) hi (by rw [e, h])) (by omega)
  rw [this]
theorem at_none (s : ByteArray) (w : Int × Int) (hc : (chk s).2 = 0) (h : ∀ j, j ≤ s.size → lc s j ≠ w) : atF s w = (0, 3) := by
  unfold atF
  rw [if_neg (fun h => h hc)]
  have : (List.range (s.size + 1)).find? (fun i => decide (lc s i = w)) = none := by
    rw [List.find?_eq_none]
    intro j hj
    simp only [List.mem_range] at hj
    simpa using h j (by omega)
  rw [this]
end Go.Proofs.Tryd
set_option autoImplicit false
set_option linter.all false
namespace Go.Proofs.Tryd
open Go Go.VM
set_option maxRecDepth 100000

def nl1 : ByteArray := ⟨#[10]⟩
def pNlF (t : ByteArray) : Prop := t = nl1
def pSzF (s : ByteArray) : Prop := s.size ≤ 1000000
def p113F (s t : ByteArray) (u v : Int) : Prop := t = nl1 ∧ u = 0 ∧ v = -1 ∧ s.size ≤ 1000000
theorem kv_s {ok : Nat → Prop} {w : World} {s : ByteArray} {v : Value} (h : KV ok w .str s v) : v = .string s := by
  simp only [KV, Ty.agg, K, List.cons.injEq, and_true] at h
  simpa using h
theorem kv_i {ok : Nat → Prop} {w : World} {k : IntKind} {i : Int} {v : Value} (h : KV ok w (.int k) i v) : v = .int k i := by
  simp only [KV, Ty.agg, K, List.cons.injEq, and_true] at h
  simpa using h
theorem has80 : Has prog 80 := ⟨f80, func80, by kernel_rfl, by kernel_rfl⟩
theorem has81 : Has prog 81 := ⟨f81, func81, by kernel_rfl, by kernel_rfl⟩
theorem has111 : Has prog 111 := ⟨f111, func111, by kernel_rfl, by kernel_rfl⟩
theorem ok80 (W : LexW) (hp : W.pNl = pNlF) (h : W.cnt = cntF) : SpecOk prog 80 (S80 W) := by
  refine ⟨has80, fun ok w vs x hG hK hpre => ?_⟩
  obtain ⟨s, t, ⟨⟩⟩ := x
  match vs, hK with
  | [v, u], hK => ?_
  obtain rfl := kv_s hK.1
  obtain rfl := kv_s hK.2.1
  have hpre' : W.pNl t := hpre
  rw [hp] at hpre'
  obtain rfl : t = nl1 := hpre'
  refine (strings_Count_one s 10 w).mono fun e w' he => ?_
  obtain ⟨rfl, rfl⟩ := he
  refine ⟨_, rfl, Go.RowKit.Below.refl _ _, ?_⟩
  show KV _ _ It (W.cnt s) _
  rw [h]
  simp only [KV, Ty.agg, K]
  rfl
theorem ok81 (W : LexW) (hp : W.pSz = pSzF) (h : W.last = lastF) : SpecOk prog 81 (S81 W) := by
  refine ⟨has81, fun ok w vs x hG hK hpre => ?_⟩
  obtain ⟨s, c, ⟨⟩⟩ := x
  match vs, hK with
  | [v, u], hK => ?_
  obtain rfl := kv_s hK.1
  obtain rfl := kv_i hK.2.1
  have hpre' : W.pSz s := hpre
  rw [hp] at hpre'
  have hz : s.size ≤ 1000000 := hpre'
  refine (strings_LastIndexByte s c (by omega) w).mono fun e w' he => ?_
  obtain ⟨rfl, rfl⟩ := he
  refine ⟨_, rfl, Go.RowKit.Below.refl _ _, ?_⟩
  show KV _ _ It (W.last s c) _
  rw [h]
  simp only [KV, Ty.agg, K]
  rfl
theorem ok111 (W : LexW) (hp : W.pNl = pNlF) (h : W.idx = fun s => idxB s 10) : SpecOk prog 111 (S111 W) := by
  refine ⟨has111, fun ok w vs x hG hK hpre => ?_⟩
  obtain ⟨s, t, ⟨⟩⟩ := x
  match vs, hK with
  | [v, u], hK => ?_
  obtain rfl := kv_s hK.1
  obtain rfl := kv_s hK.2.1
  have hpre' : W.pNl t := hpre
  rw [hp] at hpre'
  obtain rfl : t = nl1 := hpre'
  refine (strings_Index_one s 10 w).mono fun e w' he => ?_
  obtain ⟨rfl, rfl⟩ := he
  refine ⟨_, rfl, Go.RowKit.Below.refl _ _, ?_⟩
  show KV _ _ It (W.idx s) _
  rw [h]
  simp only [KV, Ty.agg, K]
  rfl
theorem take_set {α : Type} (a : List α) (i : Nat) (x : α) (h : i < a.length) : (a.set i x).take (i + 1) = a.take i ++ [x] := by
  rw [List.take_succ, List.getElem?_set_self h, List.take_set_of_le (Nat.le_refl _)]; rfl

theorem ok113 (F : LexF) (G : LexG) (W : LexW) (hp : W.pNl = pNlF) (hpp : W.p113 = p113F) (hc : W.cnt = cntF) (hi : W.idx = fun s => idxB s 10) (hs : W.split = splitF) (k1 : SpecOk prog 80 (S80 W)) (k2 : SpecOk prog 111 (S111 W)) : SpecOk prog 113 (S113 W) := by
  refine contract_by hm hE D113 fnok113 _ fun (z : ByteArray × ByteArray × Int × Int × Unit) hpre => ?_
  obtain ⟨s, t, u, v, ⟨⟩⟩ := z
  have hpre' : W.p113 s t u v := hpre
  rw [hpp] at hpre'
  obtain ⟨rfl, rfl, rfl, hz⟩ := hpre'
  let I : ByteArray × List ByteArray × Int × Unit → Prop := fun z => 0 ≤ z.2.2.1 ∧ z.2.2.1 ≤ cN s s.size ∧ z.2.1.length = cN s s.size + 1 ∧ z.1.size ≤ s.size ∧ cN z.1 z.1.size + z.2.2.1 = cN s s.size ∧ z.2.1.take z.2.2.1.toNat ++ splN (cN z.1 z.1.size) z.1 = splitF s
  let mu : ByteArray × List ByteArray × Int × Unit → Nat := fun z => (cN s s.size - z.2.2.1).toNat
  refine pack _ 1 (a113 Lv.std I mu) (only_tab (T := fT3 F G W) (l := [80, 111]) (tb_cons (tb_sp k1 (by kernel_rfl)) (tb_cons (tb_sp k2 (by kernel_rfl)) tb_nil))) ?_
  refine n113_go Lv.std F G W I mu s nl1 0 (-1) ?_
  have hn1 : nl1.size = 1 := rfl
  have hcl := cN_le s s.size
  have hcn : cntF s + 1 = ((cN s s.size + 1 : Nat) : Int) := by rw [cntF_eq]; omega
  have w1 : IntKind.i64.wrap ((cN s s.size + 1 : Nat) : Int) = (cN s s.size : Int) + 1 := by rw [wrap_i64 (by omega) (by omega)]; omega
  have w2 : IntKind.i64.wrap ((s.size : Int) + 1) = s.size + 1 := wrap_i64 (by omega) (by omega)
  have w3 : min ((cN s s.size : Int) + 1) ((s.size : Int) + 1) = (cN s s.size : Int) + 1 := by omega
  have w4 : IntKind.i64.wrap ((cN s s.size : Int) + 1 - 1) = (cN s s.size : Int) := by rw [wrap_i64 (by omega) (by omega)]; omega
  have w5 : ((cN s s.size : Int) + 1).toNat = cN s s.size + 1 := by omega
  simp only [n113, VC.holds, std_cmp, std_scmp, std_ar_add, std_ar_sub, std_ar_mul, std_ar, std_dv, std_shf, std_conv, std_mn, std_mx, std_beq, std_bnot, std_band, std_scat, std_byte, std_ext, std_slen, std_strOf, std_bytes, std_llen, std_get, std_setl, std_app, std_take, std_drop, std_rep, std_mhas, std_mval, std_mput, std_cast, std_toN, std_sub, std_add, std_inR, std_le3, std_leN, std_ltN, std_ne0, std_nonneg, std_catOk, std_room, std_mkOk, std_nth, std_cnt, cmp_lss_t, cmp_lss_f, cmp_leq_t, cmp_leq_f, cmp_gtr_t, cmp_gtr_f, cmp_geq_t, cmp_geq_f, cmp_eql_t, cmp_eql_f, cmp_neq_t, cmp_neq_f, scmp_eql_t, scmp_eql_f, scmp_neq_t, scmp_neq_f, dflt_int, dflt_bool, dflt_str, dflt_sl, dflt_pair, hc, hi, hs, hp, hpp, hn1, hcn, w1, w2, w3, w4, w5, List.length_replicate, List.length_set, Int.add_zero, Prod.mk.injEq, and_true, true_and]
  refine ⟨fun h => by omega, fun _ => ⟨fun h => (by cases h), fun _ => ⟨fun _ => ⟨rfl, ⟨by omega, by omega, by omega, by omega⟩, ⟨Int.le_refl 0, by show (0 : Int) ≤ cN s s.size; omega, by simp, Nat.le_refl _, by show (cN s s.size : Int) + 0 = _; omega, rfl⟩, ?_⟩, fun h => by omega⟩⟩⟩
  rintro ⟨r, a, i, ⟨⟩⟩ ⟨i1, i2, i3, i4, i5, i6⟩
  simp only at i1 i2 i3 i4 i5 i6 ⊢
  obtain ⟨k, rfl⟩ : ∃ k : Nat, i = k := ⟨i.toNat, by omega⟩
  have ew : IntKind.i64.wrap ((k : Int) + 1) = (k : Int) + 1 := by rw [wrap_i64 (by omega) (by omega)]
  have hka : k < a.length := by omega
  simp only [ew, Int.toNat_natCast, i3] at i6 ⊢
  refine ⟨fun hlt => ⟨rfl, fun hn => ?_, fun hp => ?_⟩, fun hge => ?_⟩
  · rcases first_nl r with ⟨q1, q2⟩ | ⟨j, q1, _⟩
    · omega
    · omega
  · rcases first_nl r with ⟨q1, q2⟩ | ⟨j, q1, q2, q3, q4, q5⟩
    · omega
    have ej : IntKind.i64.wrap (idxB r 10) = j := by rw [q1, wrap_i64 (by omega) (by omega)]
    have ej1 : IntKind.i64.wrap (idxB r 10 + (1 : Nat)) = (j : Int) + 1 := by rw [q1, wrap_i64 (by omega) (by omega)]; omega
    have ez : (r.extract (j + 1) r.size).size = r.size - (j + 1) := by rw [ext_size]; omega
    simp only [ej, ej1, Int.toNat_natCast, show ((j : Int) + 1).toNat = j + 1 by omega]
    refine ⟨⟨by omega, by omega, by omega⟩, ⟨by omega, by omega⟩, by omega, ⟨by omega, by omega, by omega⟩, ⟨by show (0 : Int) ≤ (k : Int) + 1; omega, by show (k : Int) + 1 ≤ _; omega, by show (a.set k _).length = _; rw [List.length_set]; exact i3, by show (r.extract (j + 1) r.size).size ≤ _; omega, by show (cN (r.extract (j + 1) r.size) (r.extract (j + 1) r.size).size : Int) + ((k : Int) + 1) = _; rw [ez]; omega, ?_⟩, by show ((cN s s.size : Int) - ((k : Int) + 1)).toNat < ((cN s s.size : Int) - k).toNat; omega⟩
    show (a.set k (r.extract 0 j)).take ((k : Int) + 1).toNat ++ splN (cN (r.extract (j + 1) r.size) (r.extract (j + 1) r.size).size) (r.extract (j + 1) r.size) = splitF s
    rw [show ((k : Int) + 1).toNat = k + 1 by omega, take_set a k _ hka, ez, List.append_assoc, ← i6]
    congr 1
    rw [← q5, splN, q1, Int.toNat_natCast, show ((j : Int) + 1).toNat = j + 1 by omega]; rfl
  · have hk : k = cN s s.size := by omega
    have h0 : cN r r.size = 0 := by omega
    rw [h0, splN] at i6
    refine ⟨⟨by omega, by omega⟩, by omega, ⟨by omega, by omega, by omega⟩, ?_⟩
    rw [show ((k : Int) + 1).toNat = k + 1 by omega, take_set a k _ hka]
    exact i6

theorem ok52 (F : LexF) (G : LexG) (W : LexW) (h : F.chk = chk) (hp : W.pNl = pNlF) (hz : W.pSz = pSzF) (hc : W.cnt = cntF) (hl : W.last = lastF) (hw : W.wh = whF) (k1 : SpecOk prog 56 (S56 F)) (k2 : SpecOk prog 80 (S80 W)) (k3 : SpecOk prog 81 (S81 W)) : SpecOk prog 52 (S52 W) := by
  refine contract_by hm hE D52 fnok52 _ fun (z : ByteArray × Int × Unit) hpre => ?_
  obtain ⟨s, i, ⟨⟩⟩ := z
  refine pack _ 1 a0 (only_tab (T := fT3 F G W) (l := [56, 80, 81]) (tb_cons (tb_sp k1 (by kernel_rfl)) (tb_cons (tb_sp k2 (by kernel_rfl)) (tb_cons (tb_sp k3 (by kernel_rfl)) tb_nil)))) ?_
  refine n52_go Lv.std F G W s i ?_
  simp only [n52, VC.holds, std_cmp, std_scmp, std_ar_add, std_ar_sub, std_ar_mul, std_ar, std_dv, std_shf, std_conv, std_mn, std_mx, std_beq, std_bnot, std_band, std_scat, std_byte, std_ext, std_slen, std_strOf, std_bytes, std_llen, std_get, std_setl, std_app, std_take, std_drop, std_rep, std_mhas, std_mval, std_mput, std_cast, std_toN, std_sub, std_add, std_inR, std_le3, std_leN, std_ltN, std_ne0, std_nonneg, std_catOk, std_room, std_mkOk, std_nth, std_cnt, cmp_lss_t, cmp_lss_f, cmp_leq_t, cmp_leq_f, cmp_gtr_t, cmp_gtr_f, cmp_geq_t, cmp_geq_f, cmp_eql_t, cmp_eql_f, cmp_neq_t, cmp_neq_f, scmp_eql_t, scmp_eql_f, scmp_neq_t, scmp_neq_f, dflt_int, dflt_bool, dflt_str, dflt_sl, dflt_pair, h, hp, hz, hc, hl, hw, Int.toNat_natCast, Prod.mk.injEq, and_true, true_and]
  refine ⟨fun hne => ?_, fun he => ⟨fun h0 => ?_, fun h0 => ⟨fun h1 => ?_, fun h1 => ?_⟩⟩⟩
  · simp only [whF, if_pos hne]; exact ⟨trivial, trivial⟩
  · simp only [whF, if_neg (fun h : (chk s).2 ≠ 0 => h he), if_pos (Or.inl h0)]; exact ⟨trivial, trivial⟩
  · simp only [whF, if_neg (fun h : (chk s).2 ≠ 0 => h he), if_pos (Or.inr h1)]; exact ⟨trivial, trivial⟩
  · have hb := chk_big he
    have hin : i.toNat ≤ s.size := by omega
    have e := where_lc s i.toNat hin
    have b := lc_pos s i.toNat
    have hsz : (s.extract 0 i.toNat).size = i.toNat := by rw [ext_size]; omega
    rw [Prod.ext_iff] at e
    obtain ⟨e1, e2⟩ := e
    simp only at e1 e2
    rw [Int.toNat_of_nonneg (by omega)] at e2
    refine ⟨⟨by omega, by omega, by omega⟩, rfl, by show (s.extract 0 i.toNat).size ≤ 1000000; omega, ?_⟩
    rw [e1, e2, wrap_i64 (by omega) (by omega), wrap_i64 (by omega) (by omega)]
    simp only [whF, if_neg (fun h : (chk s).2 ≠ 0 => h he), if_neg (fun h : i < 0 ∨ (s.size : Int) < i => by omega)]
    exact ⟨trivial, trivial⟩

theorem ok54 (F : LexF) (G : LexG) (W : LexW) (h : F.chk = chk) (hw : W.rWh = whF) (k1 : SpecOk prog 59 (S59 F)) : SpecOk prog 54 (S54 W) := by
  refine contract_by hm hE D54 fnok54 _ fun (z : ByteArray × Int × Unit) hpre => ?_
  obtain ⟨s, i, ⟨⟩⟩ := z
  let I : Int × Int × Int × Unit → Prop := fun z => 0 ≤ z.2.2.1 ∧ z.2.2.1 ≤ i ∧ (z.1, z.2.1) = lc s z.2.2.1.toNat
  let mu : Int × Int × Int × Unit → Nat := fun z => (i - z.2.2.1).toNat
  refine pack _ 1 (a54 Lv.std I mu) (only_tab (T := fT3 F G W) (l := [59]) (tb_cons (tb_sp k1 (by kernel_rfl)) tb_nil)) ?_
  refine n54_go Lv.std F G W I mu s i ?_
  simp only [n54, VC.holds, std_cmp, std_scmp, std_ar_add, std_ar_sub, std_ar_mul, std_ar, std_dv, std_shf, std_conv, std_mn, std_mx, std_beq, std_bnot, std_band, std_scat, std_byte, std_ext, std_slen, std_strOf, std_bytes, std_llen, std_get, std_setl, std_app, std_take, std_drop, std_rep, std_mhas, std_mval, std_mput, std_cast, std_toN, std_sub, std_add, std_inR, std_le3, std_leN, std_ltN, std_ne0, std_nonneg, std_catOk, std_room, std_mkOk, std_nth, std_cnt, cmp_lss_t, cmp_lss_f, cmp_leq_t, cmp_leq_f, cmp_gtr_t, cmp_gtr_f, cmp_geq_t, cmp_geq_f, cmp_eql_t, cmp_eql_f, cmp_neq_t, cmp_neq_f, scmp_eql_t, scmp_eql_f, scmp_neq_t, scmp_neq_f, dflt_int, dflt_bool, dflt_str, dflt_sl, dflt_pair, h, hw, Prod.mk.injEq, and_true, true_and]
  refine ⟨fun hne => ?_, fun he => ⟨fun h0 => ?_, fun h0 => ⟨fun h1 => ?_, fun h1 => ⟨⟨Int.le_refl 0, by show (0 : Int) ≤ i; omega, rfl⟩, ?_⟩⟩⟩⟩
  · simp only [whF, if_pos hne]; exact ⟨trivial, trivial⟩
  · simp only [whF, if_neg (fun h : (chk s).2 ≠ 0 => h he), if_pos (Or.inl h0)]; exact ⟨trivial, trivial⟩
  · simp only [whF, if_neg (fun h : (chk s).2 ≠ 0 => h he), if_pos (Or.inr h1)]; exact ⟨trivial, trivial⟩
  have hb := chk_big he
  rintro ⟨l, c, j, ⟨⟩⟩ ⟨i1, i2, i3⟩
  simp only at i1 i2 i3 ⊢
  obtain ⟨k, rfl⟩ : ∃ k : Nat, j = k := ⟨j.toNat, by omega⟩
  rw [Int.toNat_natCast] at i3
  have b := lc_pos s k
  rw [← i3] at b
  simp only at b
  have e1 : IntKind.i64.wrap ((k : Int) + 1) = (k : Int) + 1 := by rw [wrap_i64 (by omega) (by omega)]
  have e2 : IntKind.i64.wrap (l + 1) = l + 1 := by rw [wrap_i64 (by omega) (by omega)]
  have e3 : IntKind.i64.wrap (c + 1) = c + 1 := by rw [wrap_i64 (by omega) (by omega)]
  simp only [e1, e2, e3]
  have hmu : mu (l, c, (k : Int) + 1, ()) = (i - ((k : Int) + 1)).toNat := rfl
  refine ⟨fun hlt => ⟨⟨by omega, by omega⟩, fun hb10 => ⟨⟨by show (0 : Int) ≤ (k : Int) + 1; omega, by show (k : Int) + 1 ≤ i; omega, ?_⟩, by show (i - ((k : Int) + 1)).toNat < (i - (k : Int)).toNat; omega⟩, fun hb10 => ⟨⟨by show (0 : Int) ≤ (k : Int) + 1; omega, by show (k : Int) + 1 ≤ i; omega, ?_⟩, by show (i - ((k : Int) + 1)).toNat < (i - (k : Int)).toNat; omega⟩⟩, fun hge => ?_⟩
  · show (l + 1, (1 : Int)) = lc s ((k : Int) + 1).toNat
    rw [show ((k : Int) + 1).toNat = k + 1 by omega, lc, if_pos hb10, ← i3]
  · show (l, c + 1) = lc s ((k : Int) + 1).toNat
    rw [show ((k : Int) + 1).toNat = k + 1 by omega, lc, if_neg hb10, ← i3]
  · have hk : i = k := by omega
    subst hk
    simp only [whF, if_neg (fun h : (chk s).2 ≠ 0 => h he), if_neg (fun h : (k : Int) < 0 ∨ (s.size : Int) < k => by omega), Int.toNat_natCast, ← i3]
    exact ⟨trivial, trivial⟩

theorem ok55 (F : LexF) (G : LexG) (W : LexW) (h : F.chk = chk) (hw : W.rWh = whF) (ha : W.rAt = atF) (k0 : SpecOk prog 54 (S54 W)) (k1 : SpecOk prog 59 (S59 F)) : SpecOk prog 55 (S55 W) := by
  refine contract_by hm hE D55 fnok55 _ fun (z : ByteArray × (Int × Int) × Unit) hpre => ?_
  obtain ⟨s, w, ⟨⟩⟩ := z
  let I : Int × Unit → Prop := fun z => 0 ≤ z.1 ∧ z.1 ≤ s.size + 1 ∧ ∀ j : Nat, (j : Int) < z.1 → lc s j ≠ w
  let mu : Int × Unit → Nat := fun z => ((s.size : Int) + 1 - z.1).toNat
  refine pack _ 1 (a55 Lv.std I mu) (only_tab (T := fT3 F G W) (l := [54, 59]) (tb_cons (tb_sp k0 (by kernel_rfl)) (tb_cons (tb_sp k1 (by kernel_rfl)) tb_nil))) ?_
  refine n55_go Lv.std F G W I mu s w ?_
  simp only [n55, VC.holds, std_cmp, std_scmp, std_ar_add, std_ar_sub, std_ar_mul, std_ar, std_dv, std_shf, std_conv, std_mn, std_mx, std_beq, std_bnot, std_band, std_scat, std_byte, std_ext, std_slen, std_strOf, std_bytes, std_llen, std_get, std_setl, std_app, std_take, std_drop, std_rep, std_mhas, std_mval, std_mput, std_cast, std_toN, std_sub, std_add, std_inR, std_le3, std_leN, std_ltN, std_ne0, std_nonneg, std_catOk, std_room, std_mkOk, std_nth, std_cnt, cmp_lss_t, cmp_lss_f, cmp_leq_t, cmp_leq_f, cmp_gtr_t, cmp_gtr_f, cmp_geq_t, cmp_geq_f, cmp_eql_t, cmp_eql_f, cmp_neq_t, cmp_neq_f, scmp_eql_t, scmp_eql_f, scmp_neq_t, scmp_neq_f, dflt_int, dflt_bool, dflt_str, dflt_sl, dflt_pair, h, hw, ha, Prod.mk.injEq, and_true, true_and]
  refine ⟨fun hne => ?_, fun he => ⟨⟨Int.le_refl 0, by show (0 : Int) ≤ (s.size : Int) + 1; omega, fun j hj => by simp only at hj; omega⟩, ?_⟩⟩
  · simp only [atF, if_pos hne]; exact ⟨trivial, trivial⟩
  have hb := chk_big he
  rintro ⟨j, ⟨⟩⟩ ⟨i1, i2, i3⟩
  simp only at i1 i2 i3 ⊢
  obtain ⟨k, rfl⟩ : ∃ k : Nat, j = k := ⟨j.toNat, by omega⟩
  have e1 : IntKind.i64.wrap ((k : Int) + 1) = (k : Int) + 1 := by rw [wrap_i64 (by omega) (by omega)]
  simp only [e1]
  refine ⟨fun hle => ?_, fun hgt => ?_⟩
  · have ew : whF s k = (lc s k, 0) := by simp only [whF, if_neg (fun h : (chk s).2 ≠ 0 => h he), if_neg (fun h : (k : Int) < 0 ∨ (s.size : Int) < k => by omega), Int.toNat_natCast]
    rw [ew]
    simp only
    refine ⟨fun hb => ?_, fun hb => ⟨⟨by show (0 : Int) ≤ (k : Int) + 1; omega, by show (k : Int) + 1 ≤ (s.size : Int) + 1; omega, fun m hm => ?_⟩, by show ((s.size : Int) + 1 - ((k : Int) + 1)).toNat < ((s.size : Int) + 1 - (k : Int)).toNat; omega⟩⟩
    · have e : lc s k = w := by
        simp only [VM.compare, Bool.and_true, Bool.and_eq_true, beq_iff_eq] at hb
        exact Prod.ext hb.1 hb.2
      rw [at_hit s w k he (by omega) e]
      exact ⟨rfl, rfl⟩
    · simp only at hm
      by_cases hmk : m = k
      · subst hmk
        intro e
        rw [e] at hb
        simp [VM.compare] at hb
      · exact i3 m (by omega)
  · rw [at_none s w he (fun m hm => i3 m (by omega))]
    exact ⟨rfl, rfl⟩

theorem ok53 (F : LexF) (G : LexG) (W : LexW) (h : F.chk = chk) (hpp : W.p113 = p113F) (hs : W.split = splitF) (ha : W.at' = atF) (k0 : SpecOk prog 56 (S56 F)) (k1 : SpecOk prog 113 (S113 W)) : SpecOk prog 53 (S53 W) := by
  refine contract_by hm hE D53 fnok53 _ fun (z : ByteArray × (Int × Int) × Unit) hpre => ?_
  obtain ⟨s, w, ⟨⟩⟩ := z
  obtain ⟨wl, wc⟩ := w
  let I : Int × Int × Unit → Prop := fun z => 0 ≤ z.2.1 ∧ z.2.1 ≤ wl - 1 ∧ z.1 = wc - 1 + stL (splitF s) z.2.1.toNat
  let mu : Int × Int × Unit → Nat := fun z => (wl - z.2.1).toNat
  refine pack _ 1 (a53 Lv.std I mu) (only_tab (T := fT3 F G W) (l := [56, 82, 113]) (tb_cons (tb_sp k0 (by kernel_rfl)) (tb_cons (tb_d (fnok82 a0) (by kernel_rfl)) (tb_cons (tb_sp k1 (by kernel_rfl)) tb_nil)))) ?_
  refine n53_go Lv.std F G W I mu s (wl, wc) ?_
  simp only [n53, VC.holds, std_cmp, std_scmp, std_ar_add, std_ar_sub, std_ar_mul, std_ar, std_dv, std_shf, std_conv, std_mn, std_mx, std_beq, std_bnot, std_band, std_scat, std_byte, std_ext, std_slen, std_strOf, std_bytes, std_llen, std_get, std_setl, std_app, std_take, std_drop, std_rep, std_mhas, std_mval, std_mput, std_cast, std_toN, std_sub, std_add, std_inR, std_le3, std_leN, std_ltN, std_ne0, std_nonneg, std_catOk, std_room, std_mkOk, std_nth, std_cnt, cmp_lss_t, cmp_lss_f, cmp_leq_t, cmp_leq_f, cmp_gtr_t, cmp_gtr_f, cmp_geq_t, cmp_geq_f, cmp_eql_t, cmp_eql_f, cmp_neq_t, cmp_neq_f, scmp_eql_t, scmp_eql_f, scmp_neq_t, scmp_neq_f, dflt_int, dflt_bool, dflt_str, dflt_sl, dflt_pair, h, hpp, hs, ha, Int.toNat_natCast, List.drop_zero, Prod.mk.injEq, and_true, true_and]
  have m1 : (Int.negSucc 0 : Int) = -1 := rfl
  refine ⟨fun hne => ?_, fun he => ?_⟩
  · simp only [atF, if_pos hne]; exact ⟨trivial, trivial⟩
  have hb := chk_big he
  obtain ⟨g1, g2⟩ := split_lc s
  have hno : (∀ j, j ≤ s.size → lc s j ≠ (wl, wc)) → 0 = (atF s (wl, wc)).1 ∧ 3 = (atF s (wl, wc)).2 := fun h => by rw [at_none s _ he h]; exact ⟨rfl, rfl⟩
  have hlen : (splitF s).length ≤ s.size + 1 := by
    rw [splitF, splN_len]; have := cN_le s s.size; omega
  refine ⟨⟨rfl, rfl, rfl, by omega⟩, fun h1 => hno fun j hj e => ?_, fun h1 => ⟨fun h2 => hno fun j hj e => ?_, fun h2 => ⟨fun h3 => hno fun j hj e => ?_, fun h3 => ?_⟩⟩⟩
  · have := lc_pos s j; rw [e] at this; simp only at this; omega
  · obtain ⟨k, m, x, q1, q2, q3, q4⟩ := lc_inv s j hj
    have hk := (List.getElem?_eq_some_iff.1 q1).1
    rw [e, Prod.mk.injEq] at q4; omega
  · have := lc_pos s j; rw [e] at this; simp only at this; omega
  obtain ⟨n, rfl⟩ : ∃ n : Nat, wl = (n : Int) + 1 := ⟨(wl - 1).toNat, by omega⟩
  have e1 : IntKind.i64.wrap ((n : Int) + 1 - 1) = n := by rw [wrap_i64 (by omega) (by omega)]; omega
  have hn : n < (splitF s).length := by omega
  obtain ⟨x, hx⟩ : ∃ x, (splitF s)[n]? = some x := ⟨_, List.getElem?_eq_getElem hn⟩
  have hst := stL_succ (splitF s) n x hx
  have hmo := stL_mono (splitF s) (n + 1) hn
  have e2 : IntKind.i64.wrap ((x.size : Int) + 1) = x.size + 1 := wrap_i64 (by omega) (by omega)
  simp only [e1, Int.toNat_natCast, hx, Option.getD_some, e2, List.length_take]
  refine ⟨⟨by omega, by omega⟩, fun h4 => hno fun j hj e => ?_, fun h4 => ?_⟩
  · obtain ⟨k, m, y, q1, q2, q3, q4⟩ := lc_inv s j hj
    rw [e, Prod.mk.injEq] at q4
    obtain rfl : k = n := by omega
    rw [hx, Option.some.injEq] at q1
    subst q1; omega
  have e3 : IntKind.i64.wrap (wc - 1) = wc - 1 := wrap_i64 (by omega) (by omega)
  rw [e3]
  refine ⟨⟨by omega, by omega, by omega⟩, ⟨Int.le_refl 0, by show (0 : Int) ≤ (n : Int) + 1 - 1; omega, by show wc - 1 = wc - 1 + ((stL (splitF s) (0 : Int).toNat : Nat) : Int); simp [stL]⟩, ?_⟩
  rintro ⟨a, j, ⟨⟩⟩ ⟨i1, i2, i3⟩
  simp only at i1 i2 i3 ⊢
  obtain ⟨k, rfl⟩ : ∃ k : Nat, j = k := ⟨j.toNat, by omega⟩
  rw [Int.toNat_natCast] at i3
  have hmk := stL_mono (splitF s) k (by omega)
  refine ⟨fun hlt => ?_, fun hge => ?_⟩
  · have hkn : k < n := by omega
    obtain ⟨y, hy⟩ : ∃ y, (splitF s)[k]? = some y := ⟨_, List.getElem?_eq_getElem (by omega)⟩
    have hsk := stL_succ (splitF s) k y hy
    have hmk1 := stL_mono (splitF s) (k + 1) (by omega)
    have hy' : ((splitF s).take n)[k]? = some y := by rw [List.getElem?_take_of_lt hkn]; exact hy
    have e4 : IntKind.i64.wrap ((y.size : Int) + 1) = y.size + 1 := wrap_i64 (by omega) (by omega)
    have e5 : IntKind.i64.wrap (a + ((y.size : Int) + 1)) = a + ((y.size : Int) + 1) := wrap_i64 (by omega) (by omega)
    have e6 : IntKind.i64.wrap ((k : Int) + 1) = (k : Int) + 1 := wrap_i64 (by omega) (by omega)
    simp only [Int.toNat_natCast, hy', Option.getD_some, e4, e5, e6]
    refine ⟨⟨by omega, by omega⟩, ⟨by show (0 : Int) ≤ (k : Int) + 1; omega, by show (k : Int) + 1 ≤ (n : Int) + 1 - 1; omega, ?_⟩, by show ((n : Int) + 1 - ((k : Int) + 1)).toNat < ((n : Int) + 1 - (k : Int)).toNat; omega⟩
    show a + ((y.size : Int) + 1) = wc - 1 + ((stL (splitF s) ((k : Int) + 1).toNat : Nat) : Int)
    rw [show ((k : Int) + 1).toNat = k + 1 by omega]
    omega
  · obtain rfl : k = n := by omega
    have hl := g1 k (wc - 1).toNat x hx (by omega)
    rw [Int.toNat_of_nonneg (by omega), show wc - 1 + 1 = wc by omega] at hl
    rw [at_hit s _ _ he (by omega) hl]
    exact ⟨by simp only; omega, rfl⟩

theorem ok19 (F : LexF) (G : LexG) (W : LexW) (hsh : F.short = shortF) (haw : F.awake = true) (h1 : W.wh = whF) (h2 : W.rWh = whF) (h3 : W.at' = atF) (h4 : W.rAt = atF) (k21 : SpecOk prog 21 (S21 F)) (k22 : SpecOk prog 22 (S22 F)) (k52 : SpecOk prog 52 (S52 W)) (k53 : SpecOk prog 53 (S53 W)) (k54 : SpecOk prog 54 (S54 W)) (k55 : SpecOk prog 55 (S55 W)) : SpecOk prog 19 law19 := by
  refine contract_by hm hE D19 fnok19 _ fun (z : ByteArray × Int × (Int × Int) × Unit) hpre => ?_
  obtain ⟨s, i, w, ⟨⟩⟩ := z
  refine pack _ 1 a0 (only_tab (T := fT3 F G W) (l := [21, 22, 52, 53, 54, 55]) (tb_cons (tb_sp k21 (by kernel_rfl)) (tb_cons (tb_sp k22 (by kernel_rfl)) (tb_cons (tb_sp k52 (by kernel_rfl)) (tb_cons (tb_sp k53 (by kernel_rfl)) (tb_cons (tb_sp k54 (by kernel_rfl)) (tb_cons (tb_sp k55 (by kernel_rfl)) tb_nil))))))) ?_
  refine n19_go Lv.std F G W s i w ?_
  simp only [n19, VC.holds, std_cmp, std_scmp, std_beq, std_bnot, std_band, cmp_eql_t, cmp_eql_f, cmp_neq_t, cmp_neq_f, scmp_eql_t, scmp_eql_f, scmp_neq_t, scmp_neq_f, hsh, haw, h1, h2, h3, h4, Prod.mk.injEq, and_true, true_and]
  simp [VM.compare]

theorem ok20 (F : LexF) (G : LexG) (W : LexW) (haw : F.awake = true) (h0 : G.comments = commentsF) (h1 : W.wh = whF) (h3 : W.at' = atF) (k22 : SpecOk prog 22 (S22 F)) (k48 : SpecOk prog 48 (S48 G)) (k52 : SpecOk prog 52 (S52 W)) (k53 : SpecOk prog 53 (S53 W)) : SpecOk prog 20 law1 := by
  refine contract_by hm hE D20 fnok20 _ fun (z : ByteArray × Unit) hpre => ?_
  obtain ⟨s, ⟨⟩⟩ := z
  let I : Int × Int × Int × Unit → Prop := fun z => 0 ≤ z.2.2.1 ∧ z.2.2.1 ≤ s.size + 1 ∧ (z.2.2.1 ≤ s.size → z.1 = (lc s z.2.2.1.toNat).1 ∧ z.2.2.1 - z.2.1 + 1 = (lc s z.2.2.1.toNat).2)
  let mu : Int × Int × Int × Unit → Nat := fun z => ((s.size : Int) + 1 - z.2.2.1).toNat
  refine pack _ 1 (a20 Lv.std I mu) (only_tab (T := fT3 F G W) (l := [22, 48, 52, 53]) (tb_cons (tb_sp k22 (by kernel_rfl)) (tb_cons (tb_sp k48 (by kernel_rfl)) (tb_cons (tb_sp k52 (by kernel_rfl)) (tb_cons (tb_sp k53 (by kernel_rfl)) tb_nil))))) ?_
  refine n20_go Lv.std F G W I mu s ?_
  simp only [n20, VC.holds, std_cmp, std_scmp, std_ar_add, std_ar_sub, std_ar_mul, std_ar, std_dv, std_shf, std_conv, std_mn, std_mx, std_beq, std_bnot, std_band, std_scat, std_byte, std_ext, std_slen, std_strOf, std_bytes, std_llen, std_get, std_setl, std_app, std_take, std_drop, std_rep, std_mhas, std_mval, std_mput, std_cast, std_toN, std_sub, std_add, std_inR, std_le3, std_leN, std_ltN, std_ne0, std_nonneg, std_catOk, std_room, std_mkOk, std_nth, std_cnt, cmp_lss_t, cmp_lss_f, cmp_leq_t, cmp_leq_f, cmp_gtr_t, cmp_gtr_f, cmp_geq_t, cmp_geq_f, cmp_eql_t, cmp_eql_f, cmp_neq_t, cmp_neq_f, scmp_eql_t, scmp_eql_f, scmp_neq_t, scmp_neq_f, dflt_int, dflt_bool, dflt_str, dflt_sl, dflt_pair, haw, h0, h1, h3, Prod.mk.injEq, and_true, true_and]
  refine ⟨fun _ => ⟨fun _ => trivial, fun h => by cases h⟩, fun h0 => ⟨fun _ => ⟨fun _ => trivial, fun h => by cases h⟩, fun h400 => ?_⟩⟩
  have he : (chk s).2 = 0 := by
    refine Classical.byContradiction fun hne => ?_
    rw [commentsF, if_pos hne] at h0
    exact hne h0
  refine ⟨⟨Int.le_refl 0, by show (0 : Int) ≤ (s.size : Int) + 1; omega, fun _ => ⟨rfl, rfl⟩⟩, ?_⟩
  rintro ⟨l, b, j, ⟨⟩⟩ ⟨i1, i2, i3⟩
  simp only at i1 i2 i3 ⊢
  obtain ⟨k, rfl⟩ : ∃ k : Nat, j = k := ⟨j.toNat, by omega⟩
  refine ⟨fun hle => ?_, fun _ => ⟨fun _ => trivial, fun h => by cases h⟩⟩
  have hle' : (k : Int) ≤ s.size := hle
  obtain ⟨q1, q2⟩ := i3 hle'
  rw [Int.toNat_natCast] at q1 q2
  have hp := lc_pos s k
  have ew : whF s k = (lc s k, 0) := by simp only [whF, if_neg (fun h : (chk s).2 ≠ 0 => h he), if_neg (fun h : (k : Int) < 0 ∨ (s.size : Int) < k => by omega), Int.toNat_natCast]
  have ea : atF s ((lc s k).1, (lc s k).2) = ((k : Int), 0) := at_hit s _ k he (by omega) rfl
  have e1 : IntKind.i64.wrap ((k : Int) + 1) = (k : Int) + 1 := wrap_i64 (by omega) (by omega)
  have e2 : IntKind.i64.wrap (l + 1) = l + 1 := wrap_i64 (by omega) (by omega)
  have e3 : IntKind.i64.wrap ((k : Int) - b) = (k : Int) - b := wrap_i64 (by omega) (by omega)
  have e4 : IntKind.i64.wrap ((k : Int) - b + 1) = (k : Int) - b + 1 := wrap_i64 (by omega) (by omega)
  simp only [ew, ea, e1, e2, e3, e4]
  refine ⟨fun h => absurd rfl h, fun _ => ⟨fun h => absurd rfl h, fun _ => ⟨fun h => absurd rfl h, fun _ => ⟨fun h => absurd q1.symm h, fun _ => ⟨fun h => absurd q2.symm h, fun _ => ⟨fun hlt => ⟨⟨by omega, hlt⟩, fun h10 => ⟨⟨by show (0 : Int) ≤ (k : Int) + 1; omega, by show (k : Int) + 1 ≤ (s.size : Int) + 1; omega, fun _ => ?_⟩, by show ((s.size : Int) + 1 - ((k : Int) + 1)).toNat < ((s.size : Int) + 1 - (k : Int)).toNat; omega⟩, fun h10 => ⟨⟨by show (0 : Int) ≤ (k : Int) + 1; omega, by show (k : Int) + 1 ≤ (s.size : Int) + 1; omega, fun _ => ?_⟩, by show ((s.size : Int) + 1 - ((k : Int) + 1)).toNat < ((s.size : Int) + 1 - (k : Int)).toNat; omega⟩⟩, fun hge => ⟨⟨by show (0 : Int) ≤ (k : Int) + 1; omega, by show (k : Int) + 1 ≤ (s.size : Int) + 1; omega, fun h => ?_⟩, by show ((s.size : Int) + 1 - ((k : Int) + 1)).toNat < ((s.size : Int) + 1 - (k : Int)).toNat; omega⟩⟩⟩⟩⟩⟩⟩
  · show l + 1 = (lc s ((k : Int) + 1).toNat).1 ∧ (k : Int) + 1 - ((k : Int) + 1) + 1 = (lc s ((k : Int) + 1).toNat).2
    rw [show ((k : Int) + 1).toNat = k + 1 by omega, lc, if_pos h10]
    exact ⟨by rw [q1], by simp only; omega⟩
  · show l = (lc s ((k : Int) + 1).toNat).1 ∧ (k : Int) + 1 - b + 1 = (lc s ((k : Int) + 1).toNat).2
    rw [show ((k : Int) + 1).toNat = k + 1 by omega, lc, if_neg h10]
    exact ⟨q1, by simp only; omega⟩
  · have h' : (k : Int) + 1 ≤ s.size := h
    omega
end Go.Proofs.Tryd
set_option autoImplicit false
set_option linter.all false
namespace Go.Proofs.Tryd
open Go Go.VM
set_option maxRecDepth 100000
def GW : LexG where
  coms := comsF
  rep := fun s _ => s
  pRep := fun _ _ => True
  comments := commentsF
  blank := fun s => (s, 0, 0)
  rComments := commentsF
  rBlank := fun s => (s, 0, 0)
  same := fun a b => decide (a = b)
  pSl := fun l => l.length ≤ 1000000
theorem hw103 : ItOk prog 103 (I103 FF GW) := ok103 FF GW rfl rfl rfl rfl rfl h84 h104
theorem hw48 : SpecOk prog 48 (S48 GW) := ok48 FF GW rfl rfl rfl rfl h56 hw103
noncomputable def WW : LexW where
  wh := whF
  at' := atF
  rWh := whF
  rAt := atF
  cnt := cntF
  last := lastF
  idx := fun s => idxB s 10
  split := splitF
  pNl := pNlF
  pSz := pSzF
  p113 := p113F
theorem h80 : SpecOk prog 80 (S80 WW) := ok80 WW rfl rfl
theorem h81 : SpecOk prog 81 (S81 WW) := ok81 WW rfl rfl
theorem h111 : SpecOk prog 111 (S111 WW) := ok111 WW rfl rfl
theorem h113 : SpecOk prog 113 (S113 WW) := ok113 FF GW WW rfl rfl rfl rfl rfl h80 h111
theorem h52 : SpecOk prog 52 (S52 WW) := ok52 FF GW WW rfl rfl rfl rfl rfl rfl h56 h80 h81
theorem h53 : SpecOk prog 53 (S53 WW) := ok53 FF GW WW rfl rfl rfl rfl h56 h113
theorem h54 : SpecOk prog 54 (S54 WW) := ok54 FF GW WW rfl rfl h59
theorem h55 : SpecOk prog 55 (S55 WW) := ok55 FF GW WW rfl rfl rfl h54 h59
theorem h19 : SpecOk prog 19 law19 := ok19 FF GW WW rfl rfl rfl rfl rfl rfl h21 h22 h52 h53 h54 h55
theorem h20 : SpecOk prog 20 law1 := ok20 FF GW WW rfl rfl rfl rfl h22 hw48 h52 h53
end Go.Proofs.Tryd
