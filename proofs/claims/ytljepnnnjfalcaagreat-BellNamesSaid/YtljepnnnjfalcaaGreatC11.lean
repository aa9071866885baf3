/- What functions of the weak memory compute, proved through the condition generator, and plain facts of it. Conditions: none of ours. -/
import Derived.Test.YtljepnnnjfalcaaGreatC10
set_option autoImplicit false
set_option maxRecDepth 100000
set_option linter.all false
namespace Go.Proofs.Tryz
open Go Go.VM
def a77 (L:Lv) (I:Ds [It]→Prop) (mu:Ds [It]→Nat):Nat→LAnn
 | 0=>anH L [0,1,5] [] [.s 5 It] I mu
 | _=>.no
def n86 (L:Lv) (F:BxF) (a b c:Int)  : VC :=
 .br (L.cmp .geq a b) (.br (L.cmp .leq a c) (.ok ((true,()) = (BxF.within F a b c,()))) (.ok ((false,()) = (BxF.within F a b c,()))))
 (.ok ((false,()) = (BxF.within F a b c,())))
theorem n86_go (L:Lv) (F:BxF) (a b c:Int) (h:VC.holds (n86 L F a b c)):Holds (vcB L F [] (D86 a0) (S86 F) (a,b,c,())):=Holds.of_eq (by kernel_rfl) h
def n54 (L:Lv) (F:BxF) (a b c:Int)  : VC :=
 .br (L.cmp .geq a b) (.br (L.cmp .leq a c) (.ok ((true,()) = (BxF.within F a b c,()))) (.ok ((false,()) = (BxF.within F a b c,()))))
 (.ok ((false,()) = (BxF.within F a b c,())))
theorem n54_go (L:Lv) (F:BxF) (a b c:Int) (h:VC.holds (n54 L F a b c)):Holds (vcB L F [] (D54 a0) (S86 F) (a,b,c,())):=Holds.of_eq (by kernel_rfl) h
def n92 (L:Lv) (F:BxF) (a:Int)  : VC :=
 .obl True (.br (BxF.within F a (Int.negSucc 999999999) 1000000000) (.ok ((true,()) = (BxF.isNum F a,()))) (.ok ((false,()) = (BxF.isNum F a,()))))
theorem n92_go (L:Lv) (F:BxF) (a:Int) (h:VC.holds (n92 L F a)):Holds (vcB L F [151] (D92 a0) (S92 F) (a,())):=Holds.of_eq (by kernel_rfl) h
def n63 (L:Lv) (F:BxF) (a:Int)  : VC :=
 .obl True (.br (BxF.within F a (Int.negSucc 999999999) 1000000000) (.ok ((true,()) = (BxF.isNum F a,()))) (.ok ((false,()) = (BxF.isNum F a,()))))
theorem n63_go (L:Lv) (F:BxF) (a:Int) (h:VC.holds (n63 L F a)):Holds (vcB L F [37] (D63 a0) (S92 F) (a,())):=Holds.of_eq (by kernel_rfl) h
def n134 (L:Lv) (F:BxF) (a:Bool)  : VC :=
 .br a (.ok ((1,()) = (BxF.truth F a,()))) (.ok ((0,()) = (BxF.truth F a,())))
theorem n134_go (L:Lv) (F:BxF) (a:Bool) (h:VC.holds (n134 L F a)):Holds (vcB L F [] (D134 a0) (S134 F) (a,())):=Holds.of_eq (by kernel_rfl) h
def n143 (L:Lv) (F:BxF) (s:StD) (t:ThD) (i:InD)  : VC :=
 .obl (L.inR i.2.2.1 (L.llen (Ty.int .i64) t.2.1))
 (.obl True
 (.br
 (BxF.within F
 (L.ar .add .i64 (L.get (Ty.int .i64) t.2.1 (L.toN i.2.2.1)) i.2.2.2.2.2) 0
 (L.ar .sub .i64 (L.cast (L.llen (Ty.int .i64) s.1)) 1))
 (.ok
 ((L.ar .add .i64 (L.get (Ty.int .i64) t.2.1 (L.toN i.2.2.1)) i.2.2.2.2.2,
 true,()) =
 (Prod.fst (BxF.place F s t i),Prod.snd (BxF.place F s t i),())))
 (.ok
 ((L.ar .add .i64 (L.get (Ty.int .i64) t.2.1 (L.toN i.2.2.1)) i.2.2.2.2.2,
 false,()) =
 (Prod.fst (BxF.place F s t i),Prod.snd (BxF.place F s t i),())))))
theorem n143_go (L:Lv) (F:BxF) (s:StD) (t:ThD) (i:InD) (h:VC.holds (n143 L F s t i)):Holds (vcB L F [151] (D143 a0) (S143 F) (s,t,i,())):=Holds.of_eq (by kernel_rfl) h
def n145 (L:Lv) (F:BxF) (l:List Int) (i:InD)  : VC :=
 .obl (L.inR i.2.2.1 (L.llen (Ty.int .i64) l))
 (.obl (L.inR i.2.2.2.1 (L.llen (Ty.int .i64) l))
 (.br (L.cmp .eql i.1 1)
 (.obl True
 (.br (BxF.isNum F i.2.2.2.2.2)
 (.ok ((Prod.snd i.2.2.2.2,true,()) = (Prod.fst (BxF.worked F l i),Prod.snd (BxF.worked F l i),())))
 (.ok ((Prod.snd i.2.2.2.2,false,()) = (Prod.fst (BxF.worked F l i),Prod.snd (BxF.worked F l i),())))))
 (.br (L.cmp .eql i.1 2)
 (.obl True
 (.br
 (BxF.isNum F
 (L.ar .add .i64 (L.get (Ty.int .i64) l (L.toN i.2.2.1))
 (L.get (Ty.int .i64) l (L.toN i.2.2.2.1))))
 (.ok
 ((L.ar .add .i64 (L.get (Ty.int .i64) l (L.toN i.2.2.1))
 (L.get (Ty.int .i64) l (L.toN i.2.2.2.1)),
 true,()) =
 (Prod.fst (BxF.worked F l i),Prod.snd (BxF.worked F l i),())))
 (.ok
 ((L.ar .add .i64 (L.get (Ty.int .i64) l (L.toN i.2.2.1))
 (L.get (Ty.int .i64) l (L.toN i.2.2.2.1)),
 false,()) =
 (Prod.fst (BxF.worked F l i),Prod.snd (BxF.worked F l i),())))))
 (.br (L.cmp .eql i.1 3)
 (.obl True
 (.br
 (BxF.isNum F
 (L.ar .sub .i64 (L.get (Ty.int .i64) l (L.toN i.2.2.1))
 (L.get (Ty.int .i64) l (L.toN i.2.2.2.1))))
 (.ok
 ((L.ar .sub .i64 (L.get (Ty.int .i64) l (L.toN i.2.2.1))
 (L.get (Ty.int .i64) l (L.toN i.2.2.2.1)),
 true,()) =
 (Prod.fst (BxF.worked F l i),Prod.snd (BxF.worked F l i),())))
 (.ok
 ((L.ar .sub .i64 (L.get (Ty.int .i64) l (L.toN i.2.2.1))
 (L.get (Ty.int .i64) l (L.toN i.2.2.2.1)),
 false,()) =
 (Prod.fst (BxF.worked F l i),Prod.snd (BxF.worked F l i),())))))
 (.br (L.cmp .eql i.1 4)
 (.br (L.cmp .lss (L.get (Ty.int .i64) l (L.toN i.2.2.2.1)) 1)
 (.ok ((0,false,()) = (Prod.fst (BxF.worked F l i),Prod.snd (BxF.worked F l i),())))
 (.obl (L.ne0 (L.get (Ty.int .i64) l (L.toN i.2.2.2.1)))
 (.obl (L.ne0 (L.get (Ty.int .i64) l (L.toN i.2.2.2.1)))
 (.obl True
 (.br
 (BxF.isNum F
 (L.dv .rem .i64
 (L.ar .add .i64
 (L.dv .rem .i64 (L.get (Ty.int .i64) l (L.toN i.2.2.1))
 (L.get (Ty.int .i64) l (L.toN i.2.2.2.1)))
 (L.get (Ty.int .i64) l (L.toN i.2.2.2.1)))
 (L.get (Ty.int .i64) l (L.toN i.2.2.2.1))))
 (.ok
 ((L.dv .rem .i64
 (L.ar .add .i64
 (L.dv .rem .i64 (L.get (Ty.int .i64) l (L.toN i.2.2.1))
 (L.get (Ty.int .i64) l (L.toN i.2.2.2.1)))
 (L.get (Ty.int .i64) l (L.toN i.2.2.2.1)))
 (L.get (Ty.int .i64) l (L.toN i.2.2.2.1)),
 true,()) =
 (Prod.fst (BxF.worked F l i),Prod.snd (BxF.worked F l i),())))
 (.ok
 ((L.dv .rem .i64
 (L.ar .add .i64
 (L.dv .rem .i64 (L.get (Ty.int .i64) l (L.toN i.2.2.1))
 (L.get (Ty.int .i64) l (L.toN i.2.2.2.1)))
 (L.get (Ty.int .i64) l (L.toN i.2.2.2.1)))
 (L.get (Ty.int .i64) l (L.toN i.2.2.2.1)),
 false,()) =
 (Prod.fst (BxF.worked F l i),Prod.snd (BxF.worked F l i),()))))))))
 (.br (L.cmp .eql i.1 5)
 (.br (L.cmp .lss (L.get (Ty.int .i64) l (L.toN i.2.2.1)) 0)
 (.ok ((0,false,()) = (Prod.fst (BxF.worked F l i),Prod.snd (BxF.worked F l i),())))
 (.br (L.cmp .lss (L.get (Ty.int .i64) l (L.toN i.2.2.2.1)) 0)
 (.ok ((0,false,()) = (Prod.fst (BxF.worked F l i),Prod.snd (BxF.worked F l i),())))
 (.obl True
 (.br
 (BxF.isNum F
 (L.ar .or .i64 (L.get (Ty.int .i64) l (L.toN i.2.2.1))
 (L.get (Ty.int .i64) l (L.toN i.2.2.2.1))))
 (.ok
 ((L.ar .or .i64 (L.get (Ty.int .i64) l (L.toN i.2.2.1))
 (L.get (Ty.int .i64) l (L.toN i.2.2.2.1)),
 true,()) =
 (Prod.fst (BxF.worked F l i),Prod.snd (BxF.worked F l i),())))
 (.ok
 ((L.ar .or .i64 (L.get (Ty.int .i64) l (L.toN i.2.2.1))
 (L.get (Ty.int .i64) l (L.toN i.2.2.2.1)),
 false,()) =
 (Prod.fst (BxF.worked F l i),Prod.snd (BxF.worked F l i),())))))))
 (.br (L.cmp .eql i.1 6)
 (.br
 (L.cmp .gtr (L.get (Ty.int .i64) l (L.toN i.2.2.1))
 (L.get (Ty.int .i64) l (L.toN i.2.2.2.1)))
 (.obl True
 (.obl True
 (.br (BxF.isNum F (BxF.truth F true)) (.ok ((BxF.truth F true,true,()) = (Prod.fst (BxF.worked F l i),Prod.snd (BxF.worked F l i),())))
 (.ok ((BxF.truth F true,false,()) = (Prod.fst (BxF.worked F l i),Prod.snd (BxF.worked F l i),()))))))
 (.obl True
 (.obl True
 (.br (BxF.isNum F (BxF.truth F false)) (.ok ((BxF.truth F false,true,()) = (Prod.fst (BxF.worked F l i),Prod.snd (BxF.worked F l i),())))
 (.ok ((BxF.truth F false,false,()) = (Prod.fst (BxF.worked F l i),Prod.snd (BxF.worked F l i),())))))))
 (.br (L.cmp .eql i.1 7)
 (.br
 (L.cmp .eql (L.get (Ty.int .i64) l (L.toN i.2.2.1))
 (L.get (Ty.int .i64) l (L.toN i.2.2.2.1)))
 (.obl True
 (.obl True
 (.br (BxF.isNum F (BxF.truth F true)) (.ok ((BxF.truth F true,true,()) = (Prod.fst (BxF.worked F l i),Prod.snd (BxF.worked F l i),())))
 (.ok ((BxF.truth F true,false,()) = (Prod.fst (BxF.worked F l i),Prod.snd (BxF.worked F l i),()))))))
 (.obl True
 (.obl True
 (.br (BxF.isNum F (BxF.truth F false)) (.ok ((BxF.truth F false,true,()) = (Prod.fst (BxF.worked F l i),Prod.snd (BxF.worked F l i),())))
 (.ok ((BxF.truth F false,false,()) = (Prod.fst (BxF.worked F l i),Prod.snd (BxF.worked F l i),())))))))
 (.obl True
 (.br (BxF.isNum F 0) (.ok ((0,true,()) = (Prod.fst (BxF.worked F l i),Prod.snd (BxF.worked F l i),())))
 (.ok ((0,false,()) = (Prod.fst (BxF.worked F l i),Prod.snd (BxF.worked F l i),())))))))))))))
theorem n145_go (L:Lv) (F:BxF) (l:List Int) (i:InD) (h:VC.holds (n145 L F l i)):Holds (vcB L F [152,212] (D145 a0) (S145 F) (l,i,())):=Holds.of_eq (by kernel_rfl) h
def n78 (L:Lv) (F:BxF) (b:Int)  : VC :=
 .br (L.cmp .eql b 1) (.ok ((ByteArray.mk #[65,78],()) = (BxF.fields F b,())))
 (.br (L.cmp .eql b 2) (.ok ((ByteArray.mk #[65,66,67],()) = (BxF.fields F b,())))
 (.br (L.cmp .eql b 3) (.ok ((ByteArray.mk #[65,66,67],()) = (BxF.fields F b,())))
 (.br (L.cmp .eql b 4) (.ok ((ByteArray.mk #[65,66,67],()) = (BxF.fields F b,())))
 (.br (L.cmp .eql b 5) (.ok ((ByteArray.mk #[65,66,67],()) = (BxF.fields F b,())))
 (.br (L.cmp .eql b 6) (.ok ((ByteArray.mk #[65,66,67],()) = (BxF.fields F b,())))
 (.br (L.cmp .eql b 7) (.ok ((ByteArray.mk #[65,66,67],()) = (BxF.fields F b,())))
 (.br (L.cmp .eql b 8) (.ok ((ByteArray.mk #[65,66,80],()) = (BxF.fields F b,())))
 (.br (L.cmp .eql b 9) (.ok ((ByteArray.mk #[65,66,80],()) = (BxF.fields F b,())))
 (.br (L.cmp .eql b 10) (.ok ((ByteArray.mk #[65,66,67,68,80],()) = (BxF.fields F b,())))
 (.br (L.cmp .eql b 11) (.ok ((ByteArray.mk #[45],()) = (BxF.fields F b,())))
 (.br (L.cmp .eql b 12) (.ok ((ByteArray.mk #[66,80],()) = (BxF.fields F b,())))
 (.br (L.cmp .eql b 13) (.ok ((ByteArray.mk #[74],()) = (BxF.fields F b,())))
 (.br (L.cmp .eql b 14) (.ok ((ByteArray.mk #[65,74],()) = (BxF.fields F b,())))
 (.br (L.cmp .eql b 15) (.ok ((ByteArray.mk #[65],()) = (BxF.fields F b,())))
 (.ok ((ByteArray.mk #[],()) = (BxF.fields F b,())))))))))))))))))
theorem n78_go (L:Lv) (F:BxF) (b:Int) (h:VC.holds (n78 L F b)):Holds (vcB L F [] (D78 a0) (S78 F) (b,())):=Holds.of_eq (by kernel_rfl) h
def n120 (L:Lv) (F:BxF) (b:Int)  : VC :=
 .br (L.cmp .eql b 1) (.ok ((17,true,()) = (Prod.fst (BxF.shape F b),Prod.snd (BxF.shape F b),())))
 (.br (L.cmp .eql b 2) (.ok ((7,true,()) = (Prod.fst (BxF.shape F b),Prod.snd (BxF.shape F b),())))
 (.br (L.cmp .eql b 3) (.ok ((7,true,()) = (Prod.fst (BxF.shape F b),Prod.snd (BxF.shape F b),())))
 (.br (L.cmp .eql b 4) (.ok ((7,true,()) = (Prod.fst (BxF.shape F b),Prod.snd (BxF.shape F b),())))
 (.br (L.cmp .eql b 5) (.ok ((7,true,()) = (Prod.fst (BxF.shape F b),Prod.snd (BxF.shape F b),())))
 (.br (L.cmp .eql b 6) (.ok ((7,true,()) = (Prod.fst (BxF.shape F b),Prod.snd (BxF.shape F b),())))
 (.br (L.cmp .eql b 7) (.ok ((7,true,()) = (Prod.fst (BxF.shape F b),Prod.snd (BxF.shape F b),())))
 (.br (L.cmp .eql b 8) (.ok ((35,true,()) = (Prod.fst (BxF.shape F b),Prod.snd (BxF.shape F b),())))
 (.br (L.cmp .eql b 9) (.ok ((35,true,()) = (Prod.fst (BxF.shape F b),Prod.snd (BxF.shape F b),())))
 (.br (L.cmp .eql b 10) (.ok ((47,true,()) = (Prod.fst (BxF.shape F b),Prod.snd (BxF.shape F b),())))
 (.br (L.cmp .eql b 11) (.ok ((0,true,()) = (Prod.fst (BxF.shape F b),Prod.snd (BxF.shape F b),())))
 (.br (L.cmp .eql b 12) (.ok ((34,true,()) = (Prod.fst (BxF.shape F b),Prod.snd (BxF.shape F b),())))
 (.br (L.cmp .eql b 13) (.ok ((64,true,()) = (Prod.fst (BxF.shape F b),Prod.snd (BxF.shape F b),())))
 (.br (L.cmp .eql b 14) (.ok ((65,true,()) = (Prod.fst (BxF.shape F b),Prod.snd (BxF.shape F b),())))
 (.br (L.cmp .eql b 15) (.ok ((1,true,()) = (Prod.fst (BxF.shape F b),Prod.snd (BxF.shape F b),())))
 (.ok ((0,false,()) = (Prod.fst (BxF.shape F b),Prod.snd (BxF.shape F b),())))))))))))))))))
theorem n120_go (L:Lv) (F:BxF) (b:Int) (h:VC.holds (n120 L F b)):Holds (vcB L F [] (D120 a0) (S120 F) (b,())):=Holds.of_eq (by kernel_rfl) h
def r76 (L:Lv) (F:BxF) (l:List Int)  : VC :=
 .br (L.cmp .eql (L.cast (L.llen (Ty.int .i64) l)) 0)
 (.all Bool fun (x:Bool) =>
 .br x (.ok (l = []))
 (.obl (L.room (L.add (L.llen (Ty.int .i64) (L.take (Ty.int .i64) [] 0)) (L.llen (Ty.int .i64) l)) 8)
 (.ok
 (3 = 3 ∧
 L.app (Ty.int .i64) (L.take (Ty.int .i64) [] 0) l = l ∧
 L.add (L.llen (Ty.int .i64) (L.take (Ty.int .i64) [] 0)) (L.llen (Ty.int .i64) l) =
 L.llen (Ty.int .i64) (L.app (Ty.int .i64) (L.take (Ty.int .i64) [] 0) l)))))
 (.obl (L.room (L.add (L.llen (Ty.int .i64) (L.take (Ty.int .i64) [] 0)) (L.llen (Ty.int .i64) l)) 8)
 (.ok
 (3 = 3 ∧
 L.app (Ty.int .i64) (L.take (Ty.int .i64) [] 0) l = l ∧
 L.add (L.llen (Ty.int .i64) (L.take (Ty.int .i64) [] 0)) (L.llen (Ty.int .i64) l) =
 L.llen (Ty.int .i64) (L.app (Ty.int .i64) (L.take (Ty.int .i64) [] 0) l))))
theorem r76_go (L:Lv) (F:BxF) (l:List Int) (h:VC.holds (r76 L F l)):Holds (vcR L F [] (D76 a0) (R76 F) (l,())):=Holds.of_eq (by kernel_rfl) h
def r141 (L:Lv) (F:BxF) (l:List ThD)  : VC :=
 .br
 (L.cmp .eql
 (L.cast
 (L.llen
 (Ty.pair (Ty.int .i64) (Ty.pair (Ty.sl (Ty.int .i64)) (Ty.pair (Ty.sl (Ty.pair (Ty.int .i64) (Ty.int .i64))) (Ty.pair (Ty.sl (Ty.int .i64)) Ty.bool)))) l))
 0)
 (.all Bool fun (x:Bool) =>
 .br x (.ok (l = []))
 (.obl
 (L.room
 (L.add
 (L.llen
 (Ty.pair (Ty.int .i64) (Ty.pair (Ty.sl (Ty.int .i64)) (Ty.pair (Ty.sl (Ty.pair (Ty.int .i64) (Ty.int .i64))) (Ty.pair (Ty.sl (Ty.int .i64)) Ty.bool))))
 (L.take
 (Ty.pair (Ty.int .i64)
 (Ty.pair (Ty.sl (Ty.int .i64)) (Ty.pair (Ty.sl (Ty.pair (Ty.int .i64) (Ty.int .i64))) (Ty.pair (Ty.sl (Ty.int .i64)) Ty.bool))))
 [] 0))
 (L.llen
 (Ty.pair (Ty.int .i64) (Ty.pair (Ty.sl (Ty.int .i64)) (Ty.pair (Ty.sl (Ty.pair (Ty.int .i64) (Ty.int .i64))) (Ty.pair (Ty.sl (Ty.int .i64)) Ty.bool))))
 l))
 88)
 (.ok
 (137 = 137 ∧
 L.app
 (Ty.pair (Ty.int .i64)
 (Ty.pair (Ty.sl (Ty.int .i64)) (Ty.pair (Ty.sl (Ty.pair (Ty.int .i64) (Ty.int .i64))) (Ty.pair (Ty.sl (Ty.int .i64)) Ty.bool))))
 (L.take
 (Ty.pair (Ty.int .i64)
 (Ty.pair (Ty.sl (Ty.int .i64)) (Ty.pair (Ty.sl (Ty.pair (Ty.int .i64) (Ty.int .i64))) (Ty.pair (Ty.sl (Ty.int .i64)) Ty.bool))))
 [] 0)
 l =
 l ∧
 L.add
 (L.llen
 (Ty.pair (Ty.int .i64)
 (Ty.pair (Ty.sl (Ty.int .i64)) (Ty.pair (Ty.sl (Ty.pair (Ty.int .i64) (Ty.int .i64))) (Ty.pair (Ty.sl (Ty.int .i64)) Ty.bool))))
 (L.take
 (Ty.pair (Ty.int .i64)
 (Ty.pair (Ty.sl (Ty.int .i64)) (Ty.pair (Ty.sl (Ty.pair (Ty.int .i64) (Ty.int .i64))) (Ty.pair (Ty.sl (Ty.int .i64)) Ty.bool))))
 [] 0))
 (L.llen
 (Ty.pair (Ty.int .i64)
 (Ty.pair (Ty.sl (Ty.int .i64)) (Ty.pair (Ty.sl (Ty.pair (Ty.int .i64) (Ty.int .i64))) (Ty.pair (Ty.sl (Ty.int .i64)) Ty.bool))))
 l) =
 L.llen
 (Ty.pair (Ty.int .i64)
 (Ty.pair (Ty.sl (Ty.int .i64)) (Ty.pair (Ty.sl (Ty.pair (Ty.int .i64) (Ty.int .i64))) (Ty.pair (Ty.sl (Ty.int .i64)) Ty.bool))))
 (L.app
 (Ty.pair (Ty.int .i64)
 (Ty.pair (Ty.sl (Ty.int .i64)) (Ty.pair (Ty.sl (Ty.pair (Ty.int .i64) (Ty.int .i64))) (Ty.pair (Ty.sl (Ty.int .i64)) Ty.bool))))
 (L.take
 (Ty.pair (Ty.int .i64)
 (Ty.pair (Ty.sl (Ty.int .i64)) (Ty.pair (Ty.sl (Ty.pair (Ty.int .i64) (Ty.int .i64))) (Ty.pair (Ty.sl (Ty.int .i64)) Ty.bool))))
 [] 0)
 l)))))
 (.obl
 (L.room
 (L.add
 (L.llen
 (Ty.pair (Ty.int .i64) (Ty.pair (Ty.sl (Ty.int .i64)) (Ty.pair (Ty.sl (Ty.pair (Ty.int .i64) (Ty.int .i64))) (Ty.pair (Ty.sl (Ty.int .i64)) Ty.bool))))
 (L.take
 (Ty.pair (Ty.int .i64) (Ty.pair (Ty.sl (Ty.int .i64)) (Ty.pair (Ty.sl (Ty.pair (Ty.int .i64) (Ty.int .i64))) (Ty.pair (Ty.sl (Ty.int .i64)) Ty.bool))))
 [] 0))
 (L.llen
 (Ty.pair (Ty.int .i64) (Ty.pair (Ty.sl (Ty.int .i64)) (Ty.pair (Ty.sl (Ty.pair (Ty.int .i64) (Ty.int .i64))) (Ty.pair (Ty.sl (Ty.int .i64)) Ty.bool)))) l))
 88)
 (.ok
 (137 = 137 ∧
 L.app
 (Ty.pair (Ty.int .i64) (Ty.pair (Ty.sl (Ty.int .i64)) (Ty.pair (Ty.sl (Ty.pair (Ty.int .i64) (Ty.int .i64))) (Ty.pair (Ty.sl (Ty.int .i64)) Ty.bool))))
 (L.take
 (Ty.pair (Ty.int .i64)
 (Ty.pair (Ty.sl (Ty.int .i64)) (Ty.pair (Ty.sl (Ty.pair (Ty.int .i64) (Ty.int .i64))) (Ty.pair (Ty.sl (Ty.int .i64)) Ty.bool))))
 [] 0)
 l =
 l ∧
 L.add
 (L.llen
 (Ty.pair (Ty.int .i64)
 (Ty.pair (Ty.sl (Ty.int .i64)) (Ty.pair (Ty.sl (Ty.pair (Ty.int .i64) (Ty.int .i64))) (Ty.pair (Ty.sl (Ty.int .i64)) Ty.bool))))
 (L.take
 (Ty.pair (Ty.int .i64)
 (Ty.pair (Ty.sl (Ty.int .i64)) (Ty.pair (Ty.sl (Ty.pair (Ty.int .i64) (Ty.int .i64))) (Ty.pair (Ty.sl (Ty.int .i64)) Ty.bool))))
 [] 0))
 (L.llen
 (Ty.pair (Ty.int .i64)
 (Ty.pair (Ty.sl (Ty.int .i64)) (Ty.pair (Ty.sl (Ty.pair (Ty.int .i64) (Ty.int .i64))) (Ty.pair (Ty.sl (Ty.int .i64)) Ty.bool))))
 l) =
 L.llen
 (Ty.pair (Ty.int .i64) (Ty.pair (Ty.sl (Ty.int .i64)) (Ty.pair (Ty.sl (Ty.pair (Ty.int .i64) (Ty.int .i64))) (Ty.pair (Ty.sl (Ty.int .i64)) Ty.bool))))
 (L.app
 (Ty.pair (Ty.int .i64)
 (Ty.pair (Ty.sl (Ty.int .i64)) (Ty.pair (Ty.sl (Ty.pair (Ty.int .i64) (Ty.int .i64))) (Ty.pair (Ty.sl (Ty.int .i64)) Ty.bool))))
 (L.take
 (Ty.pair (Ty.int .i64)
 (Ty.pair (Ty.sl (Ty.int .i64)) (Ty.pair (Ty.sl (Ty.pair (Ty.int .i64) (Ty.int .i64))) (Ty.pair (Ty.sl (Ty.int .i64)) Ty.bool))))
 [] 0)
 l))))
theorem r141_go (L:Lv) (F:BxF) (l:List ThD) (h:VC.holds (r141 L F l)):Holds (vcR L F [] (D141 a0) (R141 F) (l,())):=Holds.of_eq (by kernel_rfl) h
def r142 (L:Lv) (F:BxF) (l:List KpD)  : VC :=
 .br (L.cmp .eql (L.cast (L.llen (Ty.pair (Ty.int .i64) (Ty.int .i64)) l)) 0)
 (.all Bool fun (x:Bool) =>
 .br x (.ok (l = []))
 (.obl
 (L.room
 (L.add (L.llen (Ty.pair (Ty.int .i64) (Ty.int .i64)) (L.take (Ty.pair (Ty.int .i64) (Ty.int .i64)) [] 0))
 (L.llen (Ty.pair (Ty.int .i64) (Ty.int .i64)) l))
 16)
 (.ok
 (190 = 190 ∧
 L.app (Ty.pair (Ty.int .i64) (Ty.int .i64)) (L.take (Ty.pair (Ty.int .i64) (Ty.int .i64)) [] 0) l = l ∧
 L.add (L.llen (Ty.pair (Ty.int .i64) (Ty.int .i64)) (L.take (Ty.pair (Ty.int .i64) (Ty.int .i64)) [] 0))
 (L.llen (Ty.pair (Ty.int .i64) (Ty.int .i64)) l) =
 L.llen (Ty.pair (Ty.int .i64) (Ty.int .i64))
 (L.app (Ty.pair (Ty.int .i64) (Ty.int .i64)) (L.take (Ty.pair (Ty.int .i64) (Ty.int .i64)) [] 0) l)))))
 (.obl
 (L.room
 (L.add (L.llen (Ty.pair (Ty.int .i64) (Ty.int .i64)) (L.take (Ty.pair (Ty.int .i64) (Ty.int .i64)) [] 0))
 (L.llen (Ty.pair (Ty.int .i64) (Ty.int .i64)) l))
 16)
 (.ok
 (190 = 190 ∧
 L.app (Ty.pair (Ty.int .i64) (Ty.int .i64)) (L.take (Ty.pair (Ty.int .i64) (Ty.int .i64)) [] 0) l = l ∧
 L.add (L.llen (Ty.pair (Ty.int .i64) (Ty.int .i64)) (L.take (Ty.pair (Ty.int .i64) (Ty.int .i64)) [] 0))
 (L.llen (Ty.pair (Ty.int .i64) (Ty.int .i64)) l) =
 L.llen (Ty.pair (Ty.int .i64) (Ty.int .i64))
 (L.app (Ty.pair (Ty.int .i64) (Ty.int .i64)) (L.take (Ty.pair (Ty.int .i64) (Ty.int .i64)) [] 0) l))))
theorem r142_go (L:Lv) (F:BxF) (l:List KpD) (h:VC.holds (r142 L F l)):Holds (vcR L F [] (D142 a0) (R142 F) (l,())):=Holds.of_eq (by kernel_rfl) h
def m144 (L:Lv) (F:BxF)  : VC :=
 .obl True
 (.obl (L.cmp .eql 9 8 = false∧True)
 (.obl (L.cmp .eql 10 8 = false∧L.cmp .eql 10 9 = false∧True)
 (.obl (L.cmp .eql 12 8 = false∧L.cmp .eql 12 9 = false∧L.cmp .eql 12 10 = false∧True)
 (.ok
 ([(C.int .u8 8,C.fn 215 []),(C.int .u8 9,C.fn 216 []),(C.int .u8 10,C.fn 217 []),(C.int .u8 12,C.fn 218 [])] =
 [(C.int .u8 8,C.fn 215 []),(C.int .u8 9,C.fn 216 []),(C.int .u8 10,C.fn 217 []),(C.int .u8 12,C.fn 218 [])])))))
theorem m144_go (L:Lv) (F:BxF) (h:VC.holds (m144 L F)):Holds (mapcVC L E01 (callG L E01 (only (bT F) []) 0) (spcOf (only (bT F) [])) (D144 a0) acT):=Holds.of_eq (by kernel_rfl) h
def withinF (n a b:Int):Bool:=decide (a≤n) && decide (n≤b)
def isNumF (n:Int):Bool:=withinF n (-1000000000) 1000000000
def truthF (b:Bool):Int:=if b then 1 else 0
def remF (b c:Int):Int:=Lv.std.dv .rem .i64 b c
def orF (b c:Int):Int:=Lv.std.ar .or .i64 b c
def regF (l:List Int) (k:Int):Int:=(l[k.toNat]?).getD 0
def numF (op n b c:Int):Option Int :=
 if op = 1 then some n else if op = 2 then some (IntKind.i64.wrap (b + c)) else if op = 3 then some (IntKind.i64.wrap (b - c))
 else if op = 4 then (if c < 1 then none else some (remF (IntKind.i64.wrap (remF b c + c)) c))
 else if op = 5 then (if b < 0∨c < 0 then none else some (orF b c))
 else if op = 6 then some (truthF (decide (c < b))) else if op = 7 then some (truthF (decide (b = c))) else some 0
def workedF (l:List Int) (i:InD):Int × Bool:=match numF i.1 i.2.2.2.2.2 (regF l i.2.2.1) (regF l i.2.2.2.1) with
 | some n=>(n,isNumF n)
 | none=>(0,false)
def placeF (s:StD) (t:ThD) (i:InD):Int × Bool:=let n:=IntKind.i64.wrap (regF t.2.1 i.2.2.1 + i.2.2.2.2.2); (n,withinF n 0 (IntKind.i64.wrap ((s.1.length:Int) - 1)))
def inReg (l:List Int) (k:Int):Prop:=0≤k∧k < l.length
theorem ok86 (F:BxF) (h:F.within = withinF):SpecOk prog 151 (S86 F):=by
 refine Zc hm hE D86 fnok86 _ fun (z:Int × Int × Int × Unit) _=>?_
 obtain ⟨a,b,c,⟨⟩⟩:=z
 refine Yp _ 3 a0 (Zs (T:=bT F) (l:=[]) Z4) ?_
 refine n86_go Lv.std F a b c ?_
 simp only [n86,VC.holds,ZJ,ZO,Zb,Zh,Zm,Yj,Ym,Z5,ZM,Yl,Yk,Yf,ZX,ZY,ZT,ZR,Ye,ZN,Zz,ZD,Zr,Z1,ZS,Z2,ZK,ZW,Yb,ZV,ZP,ZQ,Zt,ZH,Ya,Z3,ZI,Yd,Yc,Z6,Z7,Zg,ZC,ZL,ZU,Z8,Z9,Zd,Ze,ZA,ZB,Zu,Zv,Zx,Zy,Zk,Zl,Zp,Zq,Zi,Zj,Zn,Zo,ZG,ZF,ZZ,Yg,ZE,h,withinF,Prod.mk.injEq,and_true]
 refine ⟨fun h1=>⟨fun h2=>by simp [h1,h2],fun h2=>?_⟩,fun h1=>?_⟩
 ·rw [decide_eq_false (by omega:¬ a≤c)]; simp
 ·rw [decide_eq_false (by omega:¬ b≤a)]; simp
theorem ok54 (F:BxF) (h:F.within = withinF):SpecOk prog 37 (S86 F):=by
 refine Zc hm hE D54 fnok54 _ fun (z:Int × Int × Int × Unit) _=>?_
 obtain ⟨a,b,c,⟨⟩⟩:=z
 refine Yp _ 3 a0 (Zs (T:=bT F) (l:=[]) Z4) ?_
 refine n54_go Lv.std F a b c ?_
 simp only [n54,VC.holds,ZJ,ZO,Zb,Zh,Zm,Yj,Ym,Z5,ZM,Yl,Yk,Yf,ZX,ZY,ZT,ZR,Ye,ZN,Zz,ZD,Zr,Z1,ZS,Z2,ZK,ZW,Yb,ZV,ZP,ZQ,Zt,ZH,Ya,Z3,ZI,Yd,Yc,Z6,Z7,Zg,ZC,ZL,ZU,Z8,Z9,Zd,Ze,ZA,ZB,Zu,Zv,Zx,Zy,Zk,Zl,Zp,Zq,Zi,Zj,Zn,Zo,ZG,ZF,ZZ,Yg,ZE,h,withinF,Prod.mk.injEq,and_true]
 refine ⟨fun h1=>⟨fun h2=>by simp [h1,h2],fun h2=>?_⟩,fun h1=>?_⟩
 ·rw [decide_eq_false (by omega:¬ a≤c)]; simp
 ·rw [decide_eq_false (by omega:¬ b≤a)]; simp
theorem ok92 (F:BxF) (hw:F.within = withinF) (h:F.isNum = isNumF) (k:SpecOk prog 151 (S86 F)):SpecOk prog 152 (S92 F):=by
 refine Zc hm hE D92 fnok92 _ fun (z:Int × Unit) _=>?_
 obtain ⟨a,⟨⟩⟩:=z
 refine Yp _ 3 a0 (Zs (T:=bT F) (l:=[151]) (Za (Yh k (by kernel_rfl)) Z4)) ?_
 refine n92_go Lv.std F a ?_
 have m1:(Int.negSucc 999999999:Int) = -1000000000:=rfl
 simp only [n92,VC.holds,h,hw,m1,isNumF,Prod.mk.injEq,and_true]
 exact ⟨trivial,fun h=>h.symm,fun h=>h.symm⟩
theorem ok63 (F:BxF) (hw:F.within = withinF) (h:F.isNum = isNumF) (k:SpecOk prog 37 (S86 F)):SpecOk prog 84 (S92 F):=by
 refine Zc hm hE D63 fnok63 _ fun (z:Int × Unit) _=>?_
 obtain ⟨a,⟨⟩⟩:=z
 refine Yp _ 3 a0 (Zs (T:=bT F) (l:=[37]) (Za (Yh k (by kernel_rfl)) Z4)) ?_
 refine n63_go Lv.std F a ?_
 have m1:(Int.negSucc 999999999:Int) = -1000000000:=rfl
 simp only [n63,VC.holds,h,hw,m1,isNumF,Prod.mk.injEq,and_true]
 exact ⟨trivial,fun h=>h.symm,fun h=>h.symm⟩
theorem ok134 (F:BxF) (h:F.truth = truthF):SpecOk prog 212 (S134 F):=by
 refine Zc hm hE D134 fnok134 _ fun (z:Bool × Unit) _=>?_
 obtain ⟨a,⟨⟩⟩:=z
 refine Yp _ 3 a0 (Zs (T:=bT F) (l:=[]) Z4) ?_
 refine n134_go Lv.std F a ?_
 simp only [n134,VC.holds,h,truthF,Prod.mk.injEq,and_true]
 exact ⟨fun h=>by rw [h]; rfl,fun h=>by rw [h]; rfl⟩
theorem ok143 (F:BxF) (hw:F.within = withinF) (h:F.place = placeF) (hp:F.pPlace = fun _ t i=>inReg t.2.1 i.2.2.1) (k:SpecOk prog 151 (S86 F)):SpecOk prog 195 (S143 F):=by
 refine Zc hm hE D143 fnok143 _ fun (z:StD × ThD × InD × Unit) hpre=>?_
 obtain ⟨s,t,i,⟨⟩⟩:=z
 have hpre':F.pPlace s t i:=hpre
 rw [hp] at hpre'
 have hr:0≤i.2.2.1∧i.2.2.1 < t.2.1.length:=hpre'
 refine Yp _ 3 a0 (Zs (T:=bT F) (l:=[151]) (Za (Yh k (by kernel_rfl)) Z4)) ?_
 refine n143_go Lv.std F s t i ?_
 simp only [n143,VC.holds,ZJ,ZO,Zb,Zh,Zm,Yj,Ym,Z5,ZM,Yl,Yk,Yf,ZX,ZY,ZT,ZR,Ye,ZN,Zz,ZD,Zr,Z1,ZS,Z2,ZK,ZW,Yb,ZV,ZP,ZQ,Zt,ZH,Ya,Z3,ZI,Yd,Yc,Z6,Z7,Zg,ZC,ZL,ZU,Z8,Z9,Zd,Ze,ZA,ZB,Zu,Zv,Zx,Zy,Zk,Zl,Zp,Zq,Zi,Zj,Zn,Zo,ZG,ZF,ZZ,Yg,ZE,h,hw,placeF,regF,Prod.mk.injEq,and_true,true_and]
 exact ⟨hr,fun h=>h.symm,fun h=>h.symm⟩
theorem lt1 (x:Int) (h:1≤x):(x < 1) = False:=by simp; omega
theorem lt0 (x:Int) (h:0≤x):(x < 0) = False:=by simp; omega
theorem le0 (x:Int) (h:x < 0):(0≤x) = False:=by simp; omega
theorem lt_le (x y:Int) (h:x≤y):(y < x) = False:=by simp; omega
theorem ok145 (F:BxF) (h:F.worked = workedF) (hn:F.isNum = isNumF) (ht:F.truth = truthF) (hp:F.pRegs = fun l i=>inReg l i.2.2.1∧inReg l i.2.2.2.1) (k1:SpecOk prog 152 (S92 F)) (k2:SpecOk prog 212 (S134 F)):SpecOk prog 197 (S145 F):=by
 refine Zc hm hE D145 fnok145 _ fun (z:List Int × InD × Unit) hpre=>?_
 obtain ⟨l,i,⟨⟩⟩:=z
 have hpre':F.pRegs l i:=hpre
 rw [hp] at hpre'
 obtain ⟨hb,hc⟩:=hpre'
 refine Yp _ 3 a0 (Zs (T:=bT F) (l:=[152,212]) (Za (Yh k1 (by kernel_rfl)) (Za (Yh k2 (by kernel_rfl)) Z4))) ?_
 refine n145_go Lv.std F l i ?_
 simp only [n145,VC.holds,ZJ,Zb,Zh,Zr,Z1,ZH,ZI,Z7,Zd,Ze,Zu,Zv,Zk,Zl,ZG,h,hn,ht,workedF,numF,remF,orF,regF,Prod.mk.injEq,and_true,true_and]
 refine ⟨hb,hc,?_⟩
 have tt:truthF true = 1:=rfl
 have tf:truthF false = 0:=rfl
 have n0:isNumF 0 = true:=by decide
 have n1:isNumF 1 = true:=by decide
 repeat' (first | apply And.intro | intro _)
 all_goals (first | trivial | omega | simp_all [truthF,lt1,lt0,le0,lt_le] | skip)
 all_goals (first | (rw [if_neg (by omega)]; simp_all; done) | (rw [if_pos (by omega)]; done) | (rw [if_pos (by omega)]; simp_all; done) | skip)
 all_goals trace_state
theorem ok76 (F:BxF) (hp:F.pLi = fun l=>l.length≤1000000):XOk prog 113 (R76 F).x:=by
 refine rowX_ok hm hE 1 (fns:=only (bT F) []) (Zs Z4) (fnok76 a0) (R76 F) fun (z:List Int × Unit) hpre=>?_
 obtain ⟨l,⟨⟩⟩:=z
 have hl:l.length≤1000000:=by have:=hpre; simp only [R76,hp] at this; exact this
 refine r76_go Lv.std F l ?_
 simp only [r76,VC.holds,ZJ,ZO,Zb,Zh,Zm,Yj,Ym,Z5,ZM,Yl,Yk,Yf,ZX,ZY,ZT,ZR,Ye,ZN,Zz,ZD,Zr,Z1,ZS,Z2,ZK,ZW,Yb,ZV,ZP,ZQ,Zt,ZH,Ya,Z3,ZI,Yd,Yc,Z6,Z7,Zg,ZC,ZL,ZU,Z8,Z9,Zd,Ze,ZA,ZB,Zu,Zv,Zx,Zy,Zk,Zl,Zp,Zq,Zi,Zj,Zn,Zo,ZG,ZF,ZZ,Yg,ZE,List.take_nil,List.length_nil,Nat.zero_add,List.nil_append,Prod.mk.injEq,and_true,true_and]
 exact ⟨fun h b=>⟨fun _=>List.eq_nil_of_length_eq_zero (by omega),fun _=>⟨by omega,by omega⟩⟩,fun _=>⟨by omega,by omega⟩⟩
theorem ok141 (F:BxF) (hp:F.pLt = fun l=>l.length≤1000000):XOk prog 193 (R141 F).x:=by
 refine rowX_ok hm hE 1 (fns:=only (bT F) []) (Zs Z4) (fnok141 a0) (R141 F) fun (z:List ThD × Unit) hpre=>?_
 obtain ⟨l,⟨⟩⟩:=z
 have hl:l.length≤1000000:=by have:=hpre; simp only [R141,hp] at this; exact this
 refine r141_go Lv.std F l ?_
 simp only [r141,VC.holds,ZJ,ZO,Zb,Zh,Zm,Yj,Ym,Z5,ZM,Yl,Yk,Yf,ZX,ZY,ZT,ZR,Ye,ZN,Zz,ZD,Zr,Z1,ZS,Z2,ZK,ZW,Yb,ZV,ZP,ZQ,Zt,ZH,Ya,Z3,ZI,Yd,Yc,Z6,Z7,Zg,ZC,ZL,ZU,Z8,Z9,Zd,Ze,ZA,ZB,Zu,Zv,Zx,Zy,Zk,Zl,Zp,Zq,Zi,Zj,Zn,Zo,ZG,ZF,ZZ,Yg,ZE,List.take_nil,List.length_nil,Nat.zero_add,List.nil_append,Prod.mk.injEq,and_true,true_and]
 exact ⟨fun h b=>⟨fun _=>List.eq_nil_of_length_eq_zero (by omega),fun _=>⟨by omega,by omega⟩⟩,fun _=>⟨by omega,by omega⟩⟩
theorem ok142 (F:BxF) (hp:F.pLk = fun l=>l.length≤1000000):XOk prog 194 (R142 F).x:=by
 refine rowX_ok hm hE 1 (fns:=only (bT F) []) (Zs Z4) (fnok142 a0) (R142 F) fun (z:List KpD × Unit) hpre=>?_
 obtain ⟨l,⟨⟩⟩:=z
 have hl:l.length≤1000000:=by have:=hpre; simp only [R142,hp] at this; exact this
 refine r142_go Lv.std F l ?_
 simp only [r142,VC.holds,ZJ,ZO,Zb,Zh,Zm,Yj,Ym,Z5,ZM,Yl,Yk,Yf,ZX,ZY,ZT,ZR,Ye,ZN,Zz,ZD,Zr,Z1,ZS,Z2,ZK,ZW,Yb,ZV,ZP,ZQ,Zt,ZH,Ya,Z3,ZI,Yd,Yc,Z6,Z7,Zg,ZC,ZL,ZU,Z8,Z9,Zd,Ze,ZA,ZB,Zu,Zv,Zx,Zy,Zk,Zl,Zp,Zq,Zi,Zj,Zn,Zo,ZG,ZF,ZZ,Yg,ZE,List.take_nil,List.length_nil,Nat.zero_add,List.nil_append,Prod.mk.injEq,and_true,true_and]
 exact ⟨fun h b=>⟨fun _=>List.eq_nil_of_length_eq_zero (by omega),fun _=>⟨by omega,by omega⟩⟩,fun _=>⟨by omega,by omega⟩⟩
theorem ok144 (F:BxF):XOk prog 196 (mapcX acT):=by
 refine mapcX_ok hm hE 0 (fns:=only (bT F) []) (Zs Z4) (fnok144 a0) acT rfl ?_
 refine m144_go Lv.std F ?_
 simp only [m144,VC.holds,ZJ,ZO,Zb,Zh,Zm,Yj,Ym,Z5,ZM,Yl,Yk,Yf,ZX,ZY,ZT,ZR,Ye,ZN,Zz,ZD,Zr,Z1,ZS,Z2,ZK,ZW,Yb,ZV,ZP,ZQ,Zt,ZH,Ya,Z3,ZI,Yd,Yc,Z6,Z7,Zg,ZC,ZL,ZU,Z8,Z9,Zd,Ze,ZA,ZB,Zu,Zv,Zx,Zy,Zk,Zl,Zp,Zq,Zi,Zj,Zn,Zo,ZG,ZF,ZZ,Yg,ZE]
 decide
end Go.Proofs.Tryz
