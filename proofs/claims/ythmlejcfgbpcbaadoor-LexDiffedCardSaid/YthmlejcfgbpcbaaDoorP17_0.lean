/- What some functions of the lexer compute, proved through the condition generator. No condition of ours. -/
import Derived.Test.YthmlejcfgbpcbaaDoorP13_0
set_option autoImplicit false
set_option linter.all false
namespace Go.Proofs.Tryd
open Go Go.VM
set_option maxRecDepth 100000
def a10 (L : Lv) (I : Ds [It] → Prop) (mu : Ds [It] → Nat) (J : Ds [It] → Prop) (nu : Ds [It] → Nat) : Nat → LAnn
  | 0 => anH L [0, 1, 5, 9] [] [.s 9 It] I mu
  | 2 => anH L [0, 1, 5, 9, 10] [] [.s 10 It] J nu
  | _ => .no
def n10 (L : Lv) (F : LexF) (I : Ds [It] → Prop) (mu : Ds [It] → Nat) (J : Ds [It] → Prop) (nu : Ds [It] → Nat) (s t : ByteArray)  : VC :=
 VC.obl True
 (VC.br (Lv.cmp L BinOp.neq (Prod.snd (LexF.diff F s t)) 0) (VC.obl True (VC.br (LexF.awake F) (VC.ok ((true, ()) = (true, ()))) (VC.ok ((false, ()) = (true, ())))))
 (VC.br (Lv.cmp L BinOp.gtr (Lv.cast L (Lv.slen L s)) 60) (VC.obl True (VC.br (LexF.awake F) (VC.ok ((true, ()) = (true, ()))) (VC.ok ((false, ()) = (true, ())))))
 (VC.br (Lv.cmp L BinOp.gtr (Lv.cast L (Lv.slen L t)) 60) (VC.obl True (VC.br (LexF.awake F) (VC.ok ((true, ()) = (true, ()))) (VC.ok ((false, ()) = (true, ())))))
 (VC.obl (LexF.pB F (Prod.snd (Prod.snd (Prod.fst (LexF.diff F s t)))))
 (VC.br
 (Lv.cmp L BinOp.neq (Prod.snd (LexF.apply F s (Prod.fst (Prod.fst (LexF.diff F s t)), Prod.fst (Prod.snd (Prod.fst (LexF.diff F s t))), Prod.snd (Prod.snd (Prod.fst (LexF.diff F s t))))))
 0)
 (VC.ok ((false, ()) = (true, ())))
 (VC.br
 (Lv.scmp L BinOp.neq
 (Prod.fst (LexF.apply F s (Prod.fst (Prod.fst (LexF.diff F s t)), Prod.fst (Prod.snd (Prod.fst (LexF.diff F s t))), Prod.snd (Prod.snd (Prod.fst (LexF.diff F s t)))))) t)
 (VC.ok ((false, ()) = (true, ())))
 (VC.obl
 (St.mk 119 [(0, V.c (C.str s)), (1, V.c (C.str t)), (5, V.c (C.ptr 1 0)), (9, V.c (C.int IntKind.i64 0))]
 [(0, Ob.amb),
 (1,
 Ob.box 35
 [C.int IntKind.i64 (Prod.fst (Prod.fst (LexF.diff F s t))), C.int IntKind.i64 (Prod.fst (Prod.snd (Prod.fst (LexF.diff F s t)))),
 C.str (Prod.snd (Prod.snd (Prod.fst (LexF.diff F s t))))])]
 2 =
 St.mk 119 [(0, V.c (C.str s)), (1, V.c (C.str t)), (5, V.c (C.ptr 1 0)), (9, V.c (C.int IntKind.i64 0))]
 [(0, Ob.amb),
 (1,
 Ob.box 35
 [C.int IntKind.i64 (Prod.fst (Prod.fst (LexF.diff F s t))), C.int IntKind.i64 (Prod.fst (Prod.snd (Prod.fst (LexF.diff F s t)))),
 C.str (Prod.snd (Prod.snd (Prod.fst (LexF.diff F s t))))])]
 2)
 (VC.obl (I (0, ()))
 (VC.all (Int × Unit) fun (x : Int × Unit) =>
 VC.imp (I x)
 (VC.br (Lv.cmp L BinOp.leq (Prod.fst x) (Lv.cast L (Lv.slen L s)))
 (VC.br (Lv.cmp L BinOp.leq (Prod.fst x) (Lv.cast L (Lv.slen L t)))
 (VC.obl (Lv.le3 L (Lv.cast L 0) (Prod.fst x) (Lv.slen L s))
 (VC.obl (Lv.le3 L (Lv.cast L 0) (Prod.fst x) (Lv.slen L t))
 (VC.br (Lv.scmp L BinOp.eql (Lv.ext L s (Lv.toN L (Lv.cast L 0)) (Lv.toN L (Prod.fst x))) (Lv.ext L t (Lv.toN L (Lv.cast L 0)) (Lv.toN L (Prod.fst x))))
 (VC.obl
 (St.mk 119 [(0, V.c (C.str s)), (1, V.c (C.str t)), (5, V.c (C.ptr 1 0)), (9, V.c (C.int IntKind.i64 (Prod.fst x))), (10, V.c (C.int IntKind.i64 0))]
 [(0, Ob.amb),
 (1,
 Ob.box 35
 [C.int IntKind.i64 (Prod.fst (Prod.fst (LexF.diff F s t))), C.int IntKind.i64 (Prod.fst (Prod.snd (Prod.fst (LexF.diff F s t)))),
 C.str (Prod.snd (Prod.snd (Prod.fst (LexF.diff F s t))))])]
 2 =
 St.mk 119 [(0, V.c (C.str s)), (1, V.c (C.str t)), (5, V.c (C.ptr 1 0)), (9, V.c (C.int IntKind.i64 (Prod.fst x))), (10, V.c (C.int IntKind.i64 0))]
 [(0, Ob.amb),
 (1,
 Ob.box 35
 [C.int IntKind.i64 (Prod.fst (Prod.fst (LexF.diff F s t))), C.int IntKind.i64 (Prod.fst (Prod.snd (Prod.fst (LexF.diff F s t)))),
 C.str (Prod.snd (Prod.snd (Prod.fst (LexF.diff F s t))))])]
 2)
 (VC.obl (J (0, ()))
 (VC.all (Int × Unit) fun (x_1 : Int × Unit) =>
 VC.imp (J x_1)
 (VC.br (Lv.cmp L BinOp.leq (Lv.ar L BinOp.add IntKind.i64 (Prod.fst x) (Prod.fst x_1)) (Lv.cast L (Lv.slen L s)))
 (VC.br (Lv.cmp L BinOp.leq (Lv.ar L BinOp.add IntKind.i64 (Prod.fst x) (Prod.fst x_1)) (Lv.cast L (Lv.slen L t)))
 (VC.obl (Lv.le3 L (Lv.ar L BinOp.sub IntKind.i64 (Lv.cast L (Lv.slen L s)) (Prod.fst x_1)) (Lv.cast L (Lv.slen L s)) (Lv.slen L s))
 (VC.obl (Lv.le3 L (Lv.ar L BinOp.sub IntKind.i64 (Lv.cast L (Lv.slen L t)) (Prod.fst x_1)) (Lv.cast L (Lv.slen L t)) (Lv.slen L t))
 (VC.br
 (Lv.scmp L BinOp.eql
 (Lv.ext L s (Lv.toN L (Lv.ar L BinOp.sub IntKind.i64 (Lv.cast L (Lv.slen L s)) (Prod.fst x_1))) (Lv.toN L (Lv.cast L (Lv.slen L s))))
 (Lv.ext L t (Lv.toN L (Lv.ar L BinOp.sub IntKind.i64 (Lv.cast L (Lv.slen L t)) (Prod.fst x_1))) (Lv.toN L (Lv.cast L (Lv.slen L t)))))
 (VC.br
 (Lv.cmp L BinOp.lss
 (Lv.ar L BinOp.sub IntKind.i64
 (Lv.ar L BinOp.sub IntKind.i64
 (Lv.ar L BinOp.add IntKind.i64
 (Lv.ar L BinOp.sub IntKind.i64 (Lv.ar L BinOp.sub IntKind.i64 (Lv.cast L (Lv.slen L s)) (Prod.fst x)) (Prod.fst x_1))
 (Lv.cast L (Lv.slen L t)))
 (Prod.fst x))
 (Prod.fst x_1))
 (Lv.ar L BinOp.add IntKind.i64
 (Lv.ar L BinOp.sub IntKind.i64 (Prod.fst (Prod.snd (Prod.fst (LexF.diff F s t)))) (Prod.fst (Prod.fst (LexF.diff F s t))))
 (Lv.cast L (Lv.slen L (Prod.snd (Prod.snd (Prod.fst (LexF.diff F s t))))))))
 (VC.ok ((false, ()) = (true, ())))
 (VC.ok
 (St.mk 119
 [(0, V.c (C.str s)), (1, V.c (C.str t)), (5, V.c (C.ptr 1 0)), (9, V.c (C.int IntKind.i64 (Prod.fst x))),
 (10, V.c (C.int IntKind.i64 (Lv.ar L BinOp.add IntKind.i64 (Prod.fst x_1) 1)))]
 [(0, Ob.amb),
 (1,
 Ob.box 35
 [C.int IntKind.i64 (Prod.fst (Prod.fst (LexF.diff F s t))), C.int IntKind.i64 (Prod.fst (Prod.snd (Prod.fst (LexF.diff F s t)))),
 C.str (Prod.snd (Prod.snd (Prod.fst (LexF.diff F s t))))])]
 2 =
 St.mk 119
 [(0, V.c (C.str s)), (1, V.c (C.str t)), (5, V.c (C.ptr 1 0)), (9, V.c (C.int IntKind.i64 (Prod.fst x))),
 (10, V.c (C.int IntKind.i64 (Lv.ar L BinOp.add IntKind.i64 (Prod.fst x_1) 1)))]
 [(0, Ob.amb),
 (1,
 Ob.box 35
 [C.int IntKind.i64 (Prod.fst (Prod.fst (LexF.diff F s t))), C.int IntKind.i64 (Prod.fst (Prod.snd (Prod.fst (LexF.diff F s t)))),
 C.str (Prod.snd (Prod.snd (Prod.fst (LexF.diff F s t))))])]
 2 ∧
 J (Lv.ar L BinOp.add IntKind.i64 (Prod.fst x_1) 1, ()) ∧ nu (Lv.ar L BinOp.add IntKind.i64 (Prod.fst x_1) 1, ()) < nu x_1)))
 (VC.ok
 (St.mk 119
 [(0, V.c (C.str s)), (1, V.c (C.str t)), (5, V.c (C.ptr 1 0)), (9, V.c (C.int IntKind.i64 (Lv.ar L BinOp.add IntKind.i64 (Prod.fst x) 1)))]
 [(0, Ob.amb),
 (1,
 Ob.box 35
 [C.int IntKind.i64 (Prod.fst (Prod.fst (LexF.diff F s t))), C.int IntKind.i64 (Prod.fst (Prod.snd (Prod.fst (LexF.diff F s t)))),
 C.str (Prod.snd (Prod.snd (Prod.fst (LexF.diff F s t))))])]
 2 =
 St.mk 119
 [(0, V.c (C.str s)), (1, V.c (C.str t)), (5, V.c (C.ptr 1 0)), (9, V.c (C.int IntKind.i64 (Lv.ar L BinOp.add IntKind.i64 (Prod.fst x) 1)))]
 [(0, Ob.amb),
 (1,
 Ob.box 35
 [C.int IntKind.i64 (Prod.fst (Prod.fst (LexF.diff F s t))), C.int IntKind.i64 (Prod.fst (Prod.snd (Prod.fst (LexF.diff F s t)))),
 C.str (Prod.snd (Prod.snd (Prod.fst (LexF.diff F s t))))])]
 2 ∧
 I (Lv.ar L BinOp.add IntKind.i64 (Prod.fst x) 1, ()) ∧ mu (Lv.ar L BinOp.add IntKind.i64 (Prod.fst x) 1, ()) < mu x)))))
 (VC.ok
 (St.mk 119 [(0, V.c (C.str s)), (1, V.c (C.str t)), (5, V.c (C.ptr 1 0)), (9, V.c (C.int IntKind.i64 (Lv.ar L BinOp.add IntKind.i64 (Prod.fst x) 1)))]
 [(0, Ob.amb),
 (1,
 Ob.box 35
 [C.int IntKind.i64 (Prod.fst (Prod.fst (LexF.diff F s t))), C.int IntKind.i64 (Prod.fst (Prod.snd (Prod.fst (LexF.diff F s t)))),
 C.str (Prod.snd (Prod.snd (Prod.fst (LexF.diff F s t))))])]
 2 =
 St.mk 119 [(0, V.c (C.str s)), (1, V.c (C.str t)), (5, V.c (C.ptr 1 0)), (9, V.c (C.int IntKind.i64 (Lv.ar L BinOp.add IntKind.i64 (Prod.fst x) 1)))]
 [(0, Ob.amb),
 (1,
 Ob.box 35
 [C.int IntKind.i64 (Prod.fst (Prod.fst (LexF.diff F s t))), C.int IntKind.i64 (Prod.fst (Prod.snd (Prod.fst (LexF.diff F s t)))),
 C.str (Prod.snd (Prod.snd (Prod.fst (LexF.diff F s t))))])]
 2 ∧
 I (Lv.ar L BinOp.add IntKind.i64 (Prod.fst x) 1, ()) ∧ mu (Lv.ar L BinOp.add IntKind.i64 (Prod.fst x) 1, ()) < mu x)))
 (VC.ok
 (St.mk 119 [(0, V.c (C.str s)), (1, V.c (C.str t)), (5, V.c (C.ptr 1 0)), (9, V.c (C.int IntKind.i64 (Lv.ar L BinOp.add IntKind.i64 (Prod.fst x) 1)))]
 [(0, Ob.amb),
 (1,
 Ob.box 35
 [C.int IntKind.i64 (Prod.fst (Prod.fst (LexF.diff F s t))), C.int IntKind.i64 (Prod.fst (Prod.snd (Prod.fst (LexF.diff F s t)))),
 C.str (Prod.snd (Prod.snd (Prod.fst (LexF.diff F s t))))])]
 2 =
 St.mk 119 [(0, V.c (C.str s)), (1, V.c (C.str t)), (5, V.c (C.ptr 1 0)), (9, V.c (C.int IntKind.i64 (Lv.ar L BinOp.add IntKind.i64 (Prod.fst x) 1)))]
 [(0, Ob.amb),
 (1,
 Ob.box 35
 [C.int IntKind.i64 (Prod.fst (Prod.fst (LexF.diff F s t))), C.int IntKind.i64 (Prod.fst (Prod.snd (Prod.fst (LexF.diff F s t)))),
 C.str (Prod.snd (Prod.snd (Prod.fst (LexF.diff F s t))))])]
 2 ∧
 I (Lv.ar L BinOp.add IntKind.i64 (Prod.fst x) 1, ()) ∧ mu (Lv.ar L BinOp.add IntKind.i64 (Prod.fst x) 1, ()) < mu x))))))
 (VC.obl True (VC.br (LexF.awake F) (VC.ok ((true, ()) = (true, ()))) (VC.ok ((false, ()) = (true, ()))))))))
 (VC.obl True (VC.br (LexF.awake F) (VC.ok ((true, ()) = (true, ()))) (VC.ok ((false, ()) = (true, ()))))))
 (VC.obl True (VC.br (LexF.awake F) (VC.ok ((true, ()) = (true, ()))) (VC.ok ((false, ()) = (true, ())))))))))))))))
theorem n10_eq (L : Lv) (F : LexF) (I : Ds [It] → Prop) (mu : Ds [It] → Nat) (J : Ds [It] → Prop) (nu : Ds [It] → Nat) (s t : ByteArray) : vcO L F [22, 31, 39] (D10 (a10 L I mu J nu)) law2 (s, t, ()) = n10 L F I mu J nu s t := by kernel_rfl
theorem n10_go (L : Lv) (F : LexF) (I : Ds [It] → Prop) (mu : Ds [It] → Nat) (J : Ds [It] → Prop) (nu : Ds [It] → Nat) (s t : ByteArray) (h : VC.holds (n10 L F I mu J nu s t)) : Holds (vcO L F [22, 31, 39] (D10 (a10 L I mu J nu)) law2 (s, t, ())) := Holds.of_eq (n10_eq L F I mu J nu s t) h

theorem hdN_pre (a b : ByteArray) (m : Nat) : ∀ n : Nat, n ≤ m → ∀ j : Int, (m : Int) - n ≤ j → j < hdN a b m n → byteAt a j = byteAt b j
  | 0, _, j, h1, h2 => by simp only [hdN] at h2; omega
  | n + 1, h, j, h1, h2 => by
    simp only [hdN] at h2
    split at h2
    · rename_i he
      by_cases hj : j = (m : Int) - (n + 1 : Nat)
      · rw [hj]; exact he
      · exact hdN_pre a b m n (by omega) j (by omega) h2
    · omega
theorem hdN_max (a b : ByteArray) (m : Nat) : ∀ n : Nat, n ≤ m → hdN a b m n < m → byteAt a (hdN a b m n) ≠ byteAt b (hdN a b m n)
  | 0, _, h2 => by simp only [hdN] at h2; omega
  | n + 1, h, h2 => by
    simp only [hdN] at h2 ⊢
    split
    · rename_i he
      rw [if_pos he] at h2
      exact hdN_max a b m n (by omega) h2
    · rename_i he
      exact he
theorem tlN_pre (a b : ByteArray) (m : Nat) : ∀ n : Nat, n ≤ m → ∀ j : Int, (m : Int) - n ≤ j → j < tlN a b m n → byteAt a ((a.size : Int) - 1 - j) = byteAt b ((b.size : Int) - 1 - j)
  | 0, _, j, h1, h2 => by simp only [tlN] at h2; omega
  | n + 1, h, j, h1, h2 => by
    simp only [tlN] at h2
    split at h2
    · rename_i he
      by_cases hj : j = (m : Int) - (n + 1 : Nat)
      · rw [hj]; exact he
      · exact tlN_pre a b m n (by omega) j (by omega) h2
    · omega
theorem tlN_max (a b : ByteArray) (m : Nat) : ∀ n : Nat, n ≤ m → tlN a b m n < m → byteAt a ((a.size : Int) - 1 - tlN a b m n) ≠ byteAt b ((b.size : Int) - 1 - tlN a b m n)
  | 0, _, h2 => by simp only [tlN] at h2; omega
  | n + 1, h, h2 => by
    simp only [tlN] at h2 ⊢
    split
    · rename_i he
      rw [if_pos he] at h2
      exact tlN_max a b m n (by omega) h2
    · rename_i he
      exact he
theorem hd_pre {a b : ByteArray} (j : Int) (h0 : 0 ≤ j) (h : j < hdF a b) : byteAt a j = byteAt b j := hdN_pre a b _ _ (Nat.le_refl _) j (by omega) h
theorem hd_max {a b : ByteArray} {i : Int} (h0 : 0 ≤ i) (h1 : i ≤ a.size) (h2 : i ≤ b.size) (h : ∀ j : Int, 0 ≤ j → j < i → byteAt a j = byteAt b j) : i ≤ hdF a b := by
  obtain ⟨k0, k1, k2⟩ := hdF_le a b
  refine Classical.byContradiction fun hn => ?_
  exact hdN_max a b _ _ (Nat.le_refl _) (by show hdF a b < _; omega) (h (hdF a b) k0 (by omega))
theorem tl_pre {a b : ByteArray} (j : Int) (h0 : 0 ≤ j) (h : j < tlF a b) : byteAt a ((a.size : Int) - 1 - j) = byteAt b ((b.size : Int) - 1 - j) := tlN_pre a b (tlM a b) _ (Nat.le_refl _) j (by omega) h
theorem tl_max {a b : ByteArray} {k : Int} (h0 : 0 ≤ k) (h1 : k ≤ a.size - hdF a b) (h2 : k ≤ b.size - hdF a b) (h : ∀ j : Int, 0 ≤ j → j < k → byteAt a ((a.size : Int) - 1 - j) = byteAt b ((b.size : Int) - 1 - j)) : k ≤ tlF a b := by
  obtain ⟨k0, k1, k2⟩ := hdF_le a b
  obtain ⟨t0, t1, t2⟩ := tlF_le a b
  refine Classical.byContradiction fun hn => ?_
  exact tlN_max a b (tlM a b) _ (Nat.le_refl _) (by show tlF a b < _; unfold tlM; omega) (h (tlF a b) t0 (by omega))
/-- Prefixes and suffixes that are alike are no longer than the difference's. -/
theorem diff_least {a b : ByteArray} {i k : Int} (h0 : 0 ≤ i) (h1 : i + k ≤ a.size) (h2 : i + k ≤ b.size) (hk : 0 ≤ k) (hp : a.extract 0 i.toNat = b.extract 0 i.toNat)
    (hs : a.extract ((a.size : Int) - k).toNat a.size = b.extract ((b.size : Int) - k).toNat b.size) : i + k ≤ hdF a b + tlF a b := by
  obtain ⟨k0, k1, k2⟩ := hdF_le a b
  obtain ⟨t0, t1, t2⟩ := tlF_le a b
  have g1 : i ≤ hdF a b := hd_max h0 (by omega) (by omega) fun j j0 j1 => by
    have e1 : byteAt (a.extract 0 i.toNat) j = byteAt (b.extract 0 i.toNat) j := by rw [hp]
    rw [byteAt_ext j0 (by omega), byteAt_ext j0 (by omega)] at e1
    simpa using e1
  have hsuf : ∀ j : Int, 0 ≤ j → j < k → byteAt a ((a.size : Int) - 1 - j) = byteAt b ((b.size : Int) - 1 - j) := fun j j0 j1 => by
    have e1 : byteAt (a.extract ((a.size : Int) - k).toNat a.size) (k - 1 - j) = byteAt (b.extract ((b.size : Int) - k).toNat b.size) (k - 1 - j) := by rw [hs]
    rw [byteAt_ext (by omega) (by omega), byteAt_ext (by omega) (by omega)] at e1
    rw [show (a.size : Int) - 1 - j = (((a.size : Int) - k).toNat : Int) + (k - 1 - j) by omega, show (b.size : Int) - 1 - j = (((b.size : Int) - k).toNat : Int) + (k - 1 - j) by omega]
    exact e1
  by_cases hc : k ≤ a.size - hdF a b ∧ k ≤ b.size - hdF a b
  · have := tl_max (a := a) (b := b) hk hc.1 hc.2 hsuf
    omega
  · have hmin : min ((a.size : Int) - hdF a b) (b.size - hdF a b) ≤ tlF a b := tl_max (a := a) (b := b) (by omega) (by omega) (by omega) fun j j0 j1 => hsuf j j0 (by omega)
    omega
theorem diff_ok2 {a b : ByteArray} (h1 : (chk a).2 = 0) (h2 : (chk b).2 = 0) : diffF a b = ((hdF a b, a.size - tlF a b, b.extract (hdF a b).toNat (b.size - tlF a b).toNat), 0) := by
  unfold diffF; rw [if_neg (fun e => e h1), if_neg (fun e => e h2)]
theorem diff_zero {a b : ByteArray} (h : (diffF a b).2 = 0) : (chk a).2 = 0 ∧ (chk b).2 = 0 := by
  unfold diffF at h
  split at h
  · rename_i e; exact absurd h e
  · rename_i e1
    split at h
    · rename_i e; exact absurd h e
    · rename_i e2; exact ⟨Classical.byContradiction fun e => e1 e, Classical.byContradiction fun e => e2 e⟩
theorem diff_apply {a b : ByteArray} (h1 : (chk a).2 = 0) (h2 : (chk b).2 = 0) : applyF a (diffF a b).1 = (b, 0) := by
  rw [diff_ok2 h1 h2]
  obtain ⟨k0, k1, k2⟩ := hdF_le a b
  obtain ⟨t0, t1, t2⟩ := tlF_le a b
  have pp := @hd_pre a b
  have ss := @tl_pre a b
  generalize hdF a b = hd at *
  generalize tlF a b = tl at *
  have hE : isEditF a (hd, (a.size : Int) - tl, b.extract hd.toNat ((b.size : Int) - tl).toNat) = true := (isEdit_iff _ _).2 ⟨k0, by simp only; omega, by simp only; omega⟩
  have w1 : ((b.extract hd.toNat ((b.size : Int) - tl).toNat).size : Int) = b.size - tl - hd := by rw [ext_size]; omega
  have hn : nowF a (hd, (a.size : Int) - tl, b.extract hd.toNat ((b.size : Int) - tl).toNat) = b := by
    have g1 := now_size a (hd, (a.size : Int) - tl, b.extract hd.toNat ((b.size : Int) - tl).toNat) k0 (by simp only; omega) (by simp only; omega)
    simp only at g1
    refine ba_ext2 (by omega) fun i hi hi2 => ?_
    rw [byteAt_now a _ k0 (by simp only; omega) (by simp only; omega) i hi hi2]
    simp only
    by_cases c1 : i < hd
    · rw [if_pos c1]; exact pp i hi c1
    · rw [if_neg c1]
      by_cases c2 : i < hd + ((b.extract hd.toNat ((b.size : Int) - tl).toNat).size : Int)
      · rw [if_pos c2, byteAt_ext (by omega) (by omega)]
        congr 1; omega
      · rw [if_neg c2]
        have := ss ((b.size : Int) - 1 - i) (by omega) (by omega)
        rw [show i - (hd + ((b.extract hd.toNat ((b.size : Int) - tl).toNat).size : Int)) + ((a.size : Int) - tl) = (a.size : Int) - 1 - ((b.size : Int) - 1 - i) by omega, this]
        congr 1; omega
  show applyF a (hd, (a.size : Int) - tl, b.extract hd.toNat ((b.size : Int) - tl).toNat) = (b, 0)
  rw [apply_ok h1 hE (by rw [hn]; exact h2), hn]
theorem ok10 (F : LexF) (hs : F.pB = fun s => s.size ≤ 281474976710656) (h : F.awake = true) (h1 : F.apply = applyF) (h3 : F.diff = diffF)
    (k1 : SpecOk prog 22 (S22 F)) (k2 : SpecOk prog 31 (S31 F)) (k3 : SpecOk prog 39 (S39 F)) : SpecOk prog 10 law2 := by
  refine contract_by hm hE D10 fnok10 _ fun (z : ByteArray × ByteArray × Unit) hpre => ?_
  obtain ⟨s, t, ⟨⟩⟩ := z
  let I : Int × Unit → Prop := fun z => 0 ≤ z.1 ∧ z.1 ≤ s.size + 1
  let mu : Int × Unit → Nat := fun z => ((s.size : Int) + 1 - z.1).toNat
  refine pack _ 0 (a10 Lv.std I mu I mu) (only_ok (F := F) (l := [22, 31, 39]) (by simp only [List.forall_mem_cons]; exact ⟨at_ok k1 (by kernel_rfl), at_ok k2 (by kernel_rfl), at_ok k3 (by kernel_rfl), fun _ h => by cases h⟩)) ?_
  refine n10_go Lv.std F I mu I mu s t ?_
  simp only [n10, VC.holds, std_cmp, std_scmp, std_ar_add, std_ar_sub, std_ar_mul, std_ar, std_dv, std_shf, std_conv, std_mn, std_mx, std_beq, std_bnot, std_band, std_scat, std_byte, std_ext, std_slen, std_strOf, std_bytes, std_llen, std_get, std_setl, std_app, std_take, std_drop, std_rep, std_mhas, std_mval, std_mput, std_cast, std_toN, std_sub, std_add, std_inR, std_le3, std_leN, std_ltN, std_ne0, std_nonneg, std_catOk, std_room, std_mkOk, cmp_lss_t, cmp_lss_f, cmp_leq_t, cmp_leq_f, cmp_gtr_t, cmp_gtr_f, cmp_geq_t, cmp_geq_f, cmp_eql_t, cmp_eql_f, cmp_neq_t, cmp_neq_f, scmp_eql_t, scmp_eql_f, scmp_neq_t, scmp_neq_f, dflt_int, dflt_bool, dflt_str, dflt_sl, dflt_pair, h, h1, h3, hs, Prod.mk.injEq, and_true, true_and]
  refine ⟨fun e => by simp, fun e => ⟨fun e2 => by simp, fun e2 => ⟨fun e3 => by simp, fun e3 => ?_⟩⟩⟩
  obtain ⟨c1, c2⟩ := diff_zero e
  have hd := diff_ok2 c1 c2
  have ha := diff_apply c1 c2
  have ha' : applyF s (hdF s t, (s.size : Int) - tlF s t, t.extract (hdF s t).toNat ((t.size : Int) - tlF s t).toNat) = (t, 0) := by rw [hd] at ha; exact ha
  obtain ⟨k0, k1', k2'⟩ := hdF_le s t
  obtain ⟨t0, t1, t2⟩ := tlF_le s t
  simp only [hd, ha', ext_size, nc0, Int.toNat_natCast]
  have hI0 : I (0, ()) := ⟨by show (0 : Int) ≤ 0; omega, by show (0 : Int) ≤ s.size + 1; omega⟩
  refine ⟨by omega, fun c => absurd rfl c, fun _ => ⟨fun c => absurd rfl c, fun _ => ⟨hI0, ?_⟩⟩⟩
  rintro ⟨i, _⟩ ⟨g0, g1⟩
  simp only at g0 g1 ⊢
  refine ⟨fun c1 => ⟨fun c2 => ⟨⟨by omega, by omega, by omega⟩, ⟨by omega, by omega, by omega⟩, fun hp => ⟨hI0, ?_⟩, fun _ => by simp⟩, fun _ => by simp⟩, fun _ => by simp⟩
  rintro ⟨k, _⟩ ⟨g2, g3⟩
  simp only at g2 g3 ⊢
  have w1 : IntKind.i64.wrap (i + k) = i + k := wrap_i64 (by omega) (by omega)
  have w2 : IntKind.i64.wrap ((s.size : Int) - k) = (s.size : Int) - k := wrap_i64 (by omega) (by omega)
  have w3 : IntKind.i64.wrap ((t.size : Int) - k) = (t.size : Int) - k := wrap_i64 (by omega) (by omega)
  have w4 : IntKind.i64.wrap (i + 1) = i + 1 := wrap_i64 (by omega) (by omega)
  have w5 : IntKind.i64.wrap (k + 1) = k + 1 := wrap_i64 (by omega) (by omega)
  have hnext : I (i + 1, ()) ∧ mu (i + 1, ()) < mu (i, ()) := ⟨⟨by show (0 : Int) ≤ i + 1; omega, by show i + 1 ≤ (s.size : Int) + 1; omega⟩, by show ((s.size : Int) + 1 - (i + 1)).toNat < ((s.size : Int) + 1 - i).toNat; omega⟩
  rw [w1, w2, w3, w4]
  refine ⟨fun c3 => ⟨fun c4 => ⟨⟨by omega, by omega, by omega⟩, ⟨by omega, by omega, by omega⟩, fun hsf => ?_, fun _ => hnext⟩, fun _ => hnext⟩, fun _ => hnext⟩
  have hl := diff_least g0 c3 c4 g2 hp hsf
  have v1 : IntKind.i64.wrap ((s.size : Int) - i) = (s.size : Int) - i := wrap_i64 (by omega) (by omega)
  have v2 : IntKind.i64.wrap ((s.size : Int) - i - k) = (s.size : Int) - i - k := wrap_i64 (by omega) (by omega)
  have v3 : IntKind.i64.wrap ((s.size : Int) - i - k + t.size) = (s.size : Int) - i - k + t.size := wrap_i64 (by omega) (by omega)
  have v4 : IntKind.i64.wrap ((s.size : Int) - i - k + t.size - i) = (s.size : Int) - i - k + t.size - i := wrap_i64 (by omega) (by omega)
  have v5 : IntKind.i64.wrap ((s.size : Int) - i - k + t.size - i - k) = (s.size : Int) - i - k + t.size - i - k := wrap_i64 (by omega) (by omega)
  have v6 : IntKind.i64.wrap ((s.size : Int) - tlF s t - hdF s t) = (s.size : Int) - tlF s t - hdF s t := wrap_i64 (by omega) (by omega)
  rw [v1, v2, v3, v4, v5, v6, w5]
  generalize hz : (min ((t.size : Int) - tlF s t).toNat t.size - (hdF s t).toNat) = z
  have v7 : IntKind.i64.wrap ((s.size : Int) - tlF s t - hdF s t + (z : Nat)) = (s.size : Int) - tlF s t - hdF s t + (z : Nat) := wrap_i64 (by omega) (by omega)
  rw [v7]
  refine ⟨fun c5 => absurd c5 (by omega), fun _ => ⟨⟨by show (0 : Int) ≤ k + 1; omega, by show k + 1 ≤ (s.size : Int) + 1; omega⟩, by show ((s.size : Int) + 1 - (k + 1)).toNat < ((s.size : Int) + 1 - k).toNat; omega⟩⟩
end Go.Proofs.Tryd
set_option autoImplicit false
set_option linter.all false
namespace Go.Proofs.Tryd
open Go Go.VM
set_option maxRecDepth 100000
theorem h10 : SpecOk prog 10 law2 := ok10 FF rfl rfl rfl rfl h22 h31 h39
end Go.Proofs.Tryd
