/- What some functions of the lexer compute, proved through the condition generator. No condition of ours. -/
import Derived.Test.YthmlejcfgbpcbaaDoorP23x0
import Derived.Test.YthmlejcfgbpcbaaDoorP18x0
set_option autoImplicit false
set_option linter.all false
namespace Go.Proofs.Tryd
open Go Go.VM
set_option maxRecDepth 100000
def a17 (L : Lv) (I : Ds [It] → Prop) (mu : Ds [It] → Nat) : Nat → LAnn
  | 0 => anH L [0, 3, 12] [] [.s 12 It] I mu
  | _ => .no
def n17 (L : Lv) (F : LexF) (G : LexG) (I : Ds [It] → Prop) (mu : Ds [It] → Nat) (s : ByteArray)  : VC :=
 VC.obl True
 (VC.br (Lv.cmp L BinOp.neq (Prod.snd (Prod.snd (LexG.blank G s))) 0)
 (VC.obl True (VC.br (LexF.awake F) (VC.ok ((true, ()) = (true, ()))) (VC.ok ((false, ()) = (true, ())))))
 (VC.obl True
 (VC.br (LexF.short F s)
 (VC.obl True
 (VC.obl True
 (VC.br (Lv.cmp L BinOp.neq (Lv.cast L (Lv.slen L s)) (Lv.cast L (Lv.slen L (Prod.fst (LexG.blank G s))))) (VC.ok ((false, ()) = (true, ())))
 (VC.br (Lv.cmp L BinOp.neq (Prod.snd (Prod.snd (LexF.scan F s))) (Prod.snd (Prod.snd (LexF.scan F (Prod.fst (LexG.blank G s)))))) (VC.ok ((false, ()) = (true, ())))
 (VC.br (Lv.cmp L BinOp.neq (Prod.fst (Prod.snd (LexF.scan F s))) (Prod.fst (Prod.snd (LexF.scan F (Prod.fst (LexG.blank G s)))))) (VC.ok ((false, ()) = (true, ())))
 (VC.obl (LexF.pL F (Prod.fst (LexF.scan F s)))
 (VC.br (LexF.same F (Prod.fst (LexF.scan F s)) (Prod.fst (LexF.scan F (Prod.fst (LexG.blank G s)))))
 (VC.obl
 (St.mk 97 [(0, V.c (C.str s)), (3, V.c (C.str (Prod.fst (LexG.blank G s)))), (12, V.c (C.int IntKind.i64 0))] [(0, Ob.amb)] 1 =
 St.mk 97 [(0, V.c (C.str s)), (3, V.c (C.str (Prod.fst (LexG.blank G s)))), (12, V.c (C.int IntKind.i64 0))] [(0, Ob.amb)] 1)
 (VC.obl (I (0, ()))
 (VC.all (Int × Unit) fun (x : Int × Unit) =>
 VC.imp (I x)
 (VC.br (Lv.cmp L BinOp.lss (Prod.fst x) (Lv.cast L (Lv.slen L s)))
 (VC.obl (Lv.inR L (Prod.fst x) (Lv.slen L s))
 (VC.br (Lv.cmp L BinOp.eql (Lv.byte L s (Prod.fst x)) 10)
 (VC.obl (Lv.inR L (Prod.fst x) (Lv.slen L (Prod.fst (LexG.blank G s))))
 (VC.br (Lv.cmp L BinOp.eql (Lv.byte L (Prod.fst (LexG.blank G s)) (Prod.fst x)) 10)
 (VC.br (Lv.bnot L (Lv.beq L true true)) (VC.ok ((false, ()) = (true, ())))
 (VC.obl (Lv.inR L (Prod.fst x) (Lv.slen L (Prod.fst (LexG.blank G s))))
 (VC.br (Lv.cmp L BinOp.eql (Lv.byte L (Prod.fst (LexG.blank G s)) (Prod.fst x)) 37) (VC.ok ((false, ()) = (true, ())))
 (VC.obl (Lv.inR L (Prod.fst x) (Lv.slen L (Prod.fst (LexG.blank G s))))
 (VC.obl (Lv.inR L (Prod.fst x) (Lv.slen L s))
 (VC.br (Lv.cmp L BinOp.neq (Lv.byte L (Prod.fst (LexG.blank G s)) (Prod.fst x)) (Lv.byte L s (Prod.fst x)))
 (VC.obl (Lv.inR L (Prod.fst x) (Lv.slen L (Prod.fst (LexG.blank G s))))
 (VC.br (Lv.cmp L BinOp.neq (Lv.byte L (Prod.fst (LexG.blank G s)) (Prod.fst x)) 32) (VC.ok ((false, ()) = (true, ())))
 (VC.ok
 (St.mk 97
 [(0, V.c (C.str s)), (3, V.c (C.str (Prod.fst (LexG.blank G s)))),
 (12, V.c (C.int IntKind.i64 (Lv.ar L BinOp.add IntKind.i64 (Prod.fst x) 1)))]
 [(0, Ob.amb)] 1 =
 St.mk 97
 [(0, V.c (C.str s)), (3, V.c (C.str (Prod.fst (LexG.blank G s)))),
 (12, V.c (C.int IntKind.i64 (Lv.ar L BinOp.add IntKind.i64 (Prod.fst x) 1)))]
 [(0, Ob.amb)] 1 ∧
 I (Lv.ar L BinOp.add IntKind.i64 (Prod.fst x) 1, ()) ∧ mu (Lv.ar L BinOp.add IntKind.i64 (Prod.fst x) 1, ()) < mu x))))
 (VC.ok
 (St.mk 97
 [(0, V.c (C.str s)), (3, V.c (C.str (Prod.fst (LexG.blank G s)))),
 (12, V.c (C.int IntKind.i64 (Lv.ar L BinOp.add IntKind.i64 (Prod.fst x) 1)))]
 [(0, Ob.amb)] 1 =
 St.mk 97
 [(0, V.c (C.str s)), (3, V.c (C.str (Prod.fst (LexG.blank G s)))),
 (12, V.c (C.int IntKind.i64 (Lv.ar L BinOp.add IntKind.i64 (Prod.fst x) 1)))]
 [(0, Ob.amb)] 1 ∧
 I (Lv.ar L BinOp.add IntKind.i64 (Prod.fst x) 1, ()) ∧ mu (Lv.ar L BinOp.add IntKind.i64 (Prod.fst x) 1, ()) < mu x))))))))
 (VC.br (Lv.bnot L (Lv.beq L true false)) (VC.ok ((false, ()) = (true, ())))
 (VC.obl (Lv.inR L (Prod.fst x) (Lv.slen L (Prod.fst (LexG.blank G s))))
 (VC.br (Lv.cmp L BinOp.eql (Lv.byte L (Prod.fst (LexG.blank G s)) (Prod.fst x)) 37) (VC.ok ((false, ()) = (true, ())))
 (VC.obl (Lv.inR L (Prod.fst x) (Lv.slen L (Prod.fst (LexG.blank G s))))
 (VC.obl (Lv.inR L (Prod.fst x) (Lv.slen L s))
 (VC.br (Lv.cmp L BinOp.neq (Lv.byte L (Prod.fst (LexG.blank G s)) (Prod.fst x)) (Lv.byte L s (Prod.fst x)))
 (VC.obl (Lv.inR L (Prod.fst x) (Lv.slen L (Prod.fst (LexG.blank G s))))
 (VC.br (Lv.cmp L BinOp.neq (Lv.byte L (Prod.fst (LexG.blank G s)) (Prod.fst x)) 32) (VC.ok ((false, ()) = (true, ())))
 (VC.ok
 (St.mk 97
 [(0, V.c (C.str s)), (3, V.c (C.str (Prod.fst (LexG.blank G s)))),
 (12, V.c (C.int IntKind.i64 (Lv.ar L BinOp.add IntKind.i64 (Prod.fst x) 1)))]
 [(0, Ob.amb)] 1 =
 St.mk 97
 [(0, V.c (C.str s)), (3, V.c (C.str (Prod.fst (LexG.blank G s)))),
 (12, V.c (C.int IntKind.i64 (Lv.ar L BinOp.add IntKind.i64 (Prod.fst x) 1)))]
 [(0, Ob.amb)] 1 ∧
 I (Lv.ar L BinOp.add IntKind.i64 (Prod.fst x) 1, ()) ∧ mu (Lv.ar L BinOp.add IntKind.i64 (Prod.fst x) 1, ()) < mu x))))
 (VC.ok
 (St.mk 97
 [(0, V.c (C.str s)), (3, V.c (C.str (Prod.fst (LexG.blank G s)))),
 (12, V.c (C.int IntKind.i64 (Lv.ar L BinOp.add IntKind.i64 (Prod.fst x) 1)))]
 [(0, Ob.amb)] 1 =
 St.mk 97
 [(0, V.c (C.str s)), (3, V.c (C.str (Prod.fst (LexG.blank G s)))),
 (12, V.c (C.int IntKind.i64 (Lv.ar L BinOp.add IntKind.i64 (Prod.fst x) 1)))]
 [(0, Ob.amb)] 1 ∧
 I (Lv.ar L BinOp.add IntKind.i64 (Prod.fst x) 1, ()) ∧ mu (Lv.ar L BinOp.add IntKind.i64 (Prod.fst x) 1, ()) < mu x))))))))))
 (VC.obl (Lv.inR L (Prod.fst x) (Lv.slen L (Prod.fst (LexG.blank G s))))
 (VC.br (Lv.cmp L BinOp.eql (Lv.byte L (Prod.fst (LexG.blank G s)) (Prod.fst x)) 10)
 (VC.br (Lv.bnot L (Lv.beq L false true)) (VC.ok ((false, ()) = (true, ())))
 (VC.obl (Lv.inR L (Prod.fst x) (Lv.slen L (Prod.fst (LexG.blank G s))))
 (VC.br (Lv.cmp L BinOp.eql (Lv.byte L (Prod.fst (LexG.blank G s)) (Prod.fst x)) 37) (VC.ok ((false, ()) = (true, ())))
 (VC.obl (Lv.inR L (Prod.fst x) (Lv.slen L (Prod.fst (LexG.blank G s))))
 (VC.obl (Lv.inR L (Prod.fst x) (Lv.slen L s))
 (VC.br (Lv.cmp L BinOp.neq (Lv.byte L (Prod.fst (LexG.blank G s)) (Prod.fst x)) (Lv.byte L s (Prod.fst x)))
 (VC.obl (Lv.inR L (Prod.fst x) (Lv.slen L (Prod.fst (LexG.blank G s))))
 (VC.br (Lv.cmp L BinOp.neq (Lv.byte L (Prod.fst (LexG.blank G s)) (Prod.fst x)) 32) (VC.ok ((false, ()) = (true, ())))
 (VC.ok
 (St.mk 97
 [(0, V.c (C.str s)), (3, V.c (C.str (Prod.fst (LexG.blank G s)))),
 (12, V.c (C.int IntKind.i64 (Lv.ar L BinOp.add IntKind.i64 (Prod.fst x) 1)))]
 [(0, Ob.amb)] 1 =
 St.mk 97
 [(0, V.c (C.str s)), (3, V.c (C.str (Prod.fst (LexG.blank G s)))),
 (12, V.c (C.int IntKind.i64 (Lv.ar L BinOp.add IntKind.i64 (Prod.fst x) 1)))]
 [(0, Ob.amb)] 1 ∧
 I (Lv.ar L BinOp.add IntKind.i64 (Prod.fst x) 1, ()) ∧ mu (Lv.ar L BinOp.add IntKind.i64 (Prod.fst x) 1, ()) < mu x))))
 (VC.ok
 (St.mk 97
 [(0, V.c (C.str s)), (3, V.c (C.str (Prod.fst (LexG.blank G s)))),
 (12, V.c (C.int IntKind.i64 (Lv.ar L BinOp.add IntKind.i64 (Prod.fst x) 1)))]
 [(0, Ob.amb)] 1 =
 St.mk 97
 [(0, V.c (C.str s)), (3, V.c (C.str (Prod.fst (LexG.blank G s)))),
 (12, V.c (C.int IntKind.i64 (Lv.ar L BinOp.add IntKind.i64 (Prod.fst x) 1)))]
 [(0, Ob.amb)] 1 ∧
 I (Lv.ar L BinOp.add IntKind.i64 (Prod.fst x) 1, ()) ∧ mu (Lv.ar L BinOp.add IntKind.i64 (Prod.fst x) 1, ()) < mu x))))))))
 (VC.br (Lv.bnot L (Lv.beq L false false)) (VC.ok ((false, ()) = (true, ())))
 (VC.obl (Lv.inR L (Prod.fst x) (Lv.slen L (Prod.fst (LexG.blank G s))))
 (VC.br (Lv.cmp L BinOp.eql (Lv.byte L (Prod.fst (LexG.blank G s)) (Prod.fst x)) 37) (VC.ok ((false, ()) = (true, ())))
 (VC.obl (Lv.inR L (Prod.fst x) (Lv.slen L (Prod.fst (LexG.blank G s))))
 (VC.obl (Lv.inR L (Prod.fst x) (Lv.slen L s))
 (VC.br (Lv.cmp L BinOp.neq (Lv.byte L (Prod.fst (LexG.blank G s)) (Prod.fst x)) (Lv.byte L s (Prod.fst x)))
 (VC.obl (Lv.inR L (Prod.fst x) (Lv.slen L (Prod.fst (LexG.blank G s))))
 (VC.br (Lv.cmp L BinOp.neq (Lv.byte L (Prod.fst (LexG.blank G s)) (Prod.fst x)) 32) (VC.ok ((false, ()) = (true, ())))
 (VC.ok
 (St.mk 97
 [(0, V.c (C.str s)), (3, V.c (C.str (Prod.fst (LexG.blank G s)))),
 (12, V.c (C.int IntKind.i64 (Lv.ar L BinOp.add IntKind.i64 (Prod.fst x) 1)))]
 [(0, Ob.amb)] 1 =
 St.mk 97
 [(0, V.c (C.str s)), (3, V.c (C.str (Prod.fst (LexG.blank G s)))),
 (12, V.c (C.int IntKind.i64 (Lv.ar L BinOp.add IntKind.i64 (Prod.fst x) 1)))]
 [(0, Ob.amb)] 1 ∧
 I (Lv.ar L BinOp.add IntKind.i64 (Prod.fst x) 1, ()) ∧ mu (Lv.ar L BinOp.add IntKind.i64 (Prod.fst x) 1, ()) < mu x))))
 (VC.ok
 (St.mk 97
 [(0, V.c (C.str s)), (3, V.c (C.str (Prod.fst (LexG.blank G s)))),
 (12, V.c (C.int IntKind.i64 (Lv.ar L BinOp.add IntKind.i64 (Prod.fst x) 1)))]
 [(0, Ob.amb)] 1 =
 St.mk 97
 [(0, V.c (C.str s)), (3, V.c (C.str (Prod.fst (LexG.blank G s)))),
 (12, V.c (C.int IntKind.i64 (Lv.ar L BinOp.add IntKind.i64 (Prod.fst x) 1)))]
 [(0, Ob.amb)] 1 ∧
 I (Lv.ar L BinOp.add IntKind.i64 (Prod.fst x) 1, ()) ∧ mu (Lv.ar L BinOp.add IntKind.i64 (Prod.fst x) 1, ()) < mu x))))))))))))
 (VC.obl True (VC.br (LexF.awake F) (VC.ok ((true, ()) = (true, ()))) (VC.ok ((false, ()) = (true, ())))))))))
 (VC.ok ((false, ()) = (true, ()))))))))))
 (VC.obl True (VC.br (LexF.awake F) (VC.ok ((true, ()) = (true, ()))) (VC.ok ((false, ()) = (true, ()))))))))
theorem n17_eq (L : Lv) (F : LexF) (G : LexG) (I : Ds [It] → Prop) (mu : Ds [It] → Nat) (s : ByteArray) : vc2 L F G [21, 22, 23, 25, 47] (D17 (a17 L I mu)) law1 (s, ()) = n17 L F G I mu s := by kernel_rfl
theorem n17_go (L : Lv) (F : LexF) (G : LexG) (I : Ds [It] → Prop) (mu : Ds [It] → Nat) (s : ByteArray) (h : VC.holds (n17 L F G I mu s)) : Holds (vc2 L F G [21, 22, 23, 25, 47] (D17 (a17 L I mu)) law1 (s, ())) := Holds.of_eq (n17_eq L F G I mu s) h

/-! ### where a comment is -/
/-- n bytes are left; a comment that began at fr is open (none: fr below 0). -/
structure Stt (s : ByteArray) (n : Nat) (fr : Int) : Prop where
  le : n ≤ s.size
  lo : -1 ≤ fr
  hi : fr < (s.size : Int) - n
  eq : ∀ k : Int, (s.size : Int) - n ≤ k → inCm (cmL s) k = inCm (rcN s n fr) k
theorem stt0 (s : ByteArray) : Stt s s.size (-1) := ⟨Nat.le_refl _, by omega, by omega, fun _ _ => rfl⟩
def nxt (b i fr : Int) : Int := if b = 10 then -1 else if b = 37 ∧ fr < 0 then i else fr
theorem rcN_facts (s : ByteArray) : ∀ (n : Nat) (fr : Int), n ≤ s.size → (fr < 0 → ∀ p ∈ rcN s n fr, (s.size : Int) - n ≤ p.1) ∧ (0 ≤ fr → (∀ p ∈ rcN s n fr, p.1 = fr ∨ (s.size : Int) - n ≤ p.1) ∧ ∃ e, (fr, e) ∈ rcN s n fr ∧ (s.size : Int) - n ≤ e)
  | 0, fr, _ => by
    simp only [rcN]
    refine ⟨fun h p hp => ?_, fun h => ⟨fun p hp => ?_, s.size, ?_, by omega⟩⟩
    · rw [if_neg (by omega)] at hp; cases hp
    · rw [if_pos h] at hp
      simp only [List.mem_singleton] at hp; subst hp; exact .inl rfl
    · rw [if_pos h]; simp
  | n + 1, fr, hn => by
    obtain ⟨a1, _⟩ := rcN_facts s n (-1) (by omega)
    obtain ⟨b1, b2⟩ := rcN_facts s n fr (by omega)
    obtain ⟨_, c2⟩ := rcN_facts s n ((s.size : Int) - (n + 1 : Nat)) (by omega)
    have a1 := a1 (by omega)
    have c2 := c2 (by omega)
    simp only [rcN]
    refine ⟨fun h p hp => ?_, fun h => ?_⟩
    · split at hp
      · rw [if_neg (by omega)] at hp
        have := a1 p hp; omega
      · split at hp
        · rcases c2.1 p hp with h2 | h2 <;> omega
        · have := b1 h p hp; omega
    · split
      · refine ⟨fun p hp => ?_, (s.size : Int) - (n + 1 : Nat), by simp, by omega⟩
        rcases List.mem_cons.1 hp with rfl | hp
        · exact .inl rfl
        · have := a1 p hp; exact .inr (by omega)
      · rw [if_neg (fun hh => by omega)]
        obtain ⟨d1, e, d2, d3⟩ := b2 h
        refine ⟨fun p hp => ?_, e, d2, by omega⟩
        rcases d1 p hp with h2 | h2
        · exact .inl h2
        · exact .inr (by omega)
theorem inCm_cons (p : Int × Int) (l : List (Int × Int)) (k : Int) : inCm (p :: l) k = ((decide (p.1 ≤ k) && decide (k < p.2)) || inCm l k) := rfl
theorem inCm_false {l : List (Int × Int)} {k : Int} (h : ∀ p ∈ l, k < p.1 ∨ p.2 ≤ k) : inCm l k = false := by
  unfold inCm
  rw [List.any_eq_false]
  intro p hp
  rcases h p hp with h | h
  · rw [decide_eq_false (by omega : ¬ p.1 ≤ k)]; simp
  · rw [decide_eq_false (by omega : ¬ k < p.2)]; simp
theorem inCm_true {l : List (Int × Int)} {k : Int} {p : Int × Int} (hp : p ∈ l) (h1 : p.1 ≤ k) (h2 : k < p.2) : inCm l k = true := by
  unfold inCm
  rw [List.any_eq_true]
  exact ⟨p, hp, by rw [decide_eq_true h1, decide_eq_true h2]; rfl⟩
/-- One byte on. -/
theorem Stt.step {s : ByteArray} {n : Nat} {fr : Int} (h : Stt s (n + 1) fr) : Stt s n (nxt (byteAt s ((s.size : Int) - (n + 1 : Nat))) ((s.size : Int) - (n + 1 : Nat)) fr) ∧
    inCm (cmL s) ((s.size : Int) - (n + 1 : Nat)) = (decide (byteAt s ((s.size : Int) - (n + 1 : Nat)) ≠ 10) && (decide (0 ≤ fr) || decide (byteAt s ((s.size : Int) - (n + 1 : Nat)) = 37))) := by
  obtain ⟨h1, h2, h3, h4⟩ := h
  have e1 := h4 ((s.size : Int) - (n + 1 : Nat)) (by omega)
  have hh4 := h4
  obtain ⟨a1, _⟩ := rcN_facts s n (-1) (by omega)
  obtain ⟨b1, b2⟩ := rcN_facts s n fr (by omega)
  obtain ⟨_, c2⟩ := rcN_facts s n ((s.size : Int) - (n + 1 : Nat)) (by omega)
  have a1 := a1 (by omega)
  have c2 := c2 (by omega)
  simp only [rcN] at e1 hh4
  unfold nxt
  by_cases c1 : byteAt s ((s.size : Int) - (n + 1 : Nat)) = 10
  · rw [if_pos c1] at e1 ⊢
    simp only [if_pos c1] at hh4
    refine ⟨⟨by omega, by omega, by omega, fun k hk => ?_⟩, ?_⟩
    · rw [hh4 k (by omega)]
      split
      · rw [inCm_cons, decide_eq_false (by omega : ¬ k < (s.size : Int) - (n + 1 : Nat))]; simp
      · rfl
    · rw [e1, decide_eq_false (fun hh => hh c1), Bool.false_and]
      split
      · refine inCm_false fun p hp => ?_
        rcases List.mem_cons.1 hp with rfl | hp
        · exact .inr (by simp only; omega)
        · have := a1 p hp; exact .inl (by omega)
      · exact inCm_false fun p hp => .inl (by have := a1 p hp; omega)
  · rw [if_neg c1] at e1 ⊢
    simp only [if_neg c1] at hh4
    by_cases c3 : byteAt s ((s.size : Int) - (n + 1 : Nat)) = 37 ∧ fr < 0
    · rw [if_pos c3] at e1 ⊢
      simp only [if_pos c3] at hh4
      refine ⟨⟨by omega, by omega, by omega, fun k hk => hh4 k (by omega)⟩, ?_⟩
      obtain ⟨_, e, d1, d2⟩ := c2
      rw [e1, inCm_true d1 (by simp only; omega) (by simp only; omega), decide_eq_true c1, decide_eq_true c3.1]; simp
    · rw [if_neg c3] at e1 ⊢
      simp only [if_neg c3] at hh4
      refine ⟨⟨by omega, by omega, by omega, fun k hk => hh4 k (by omega)⟩, ?_⟩
      rw [e1, decide_eq_true c1]
      by_cases hf : 0 ≤ fr
      · obtain ⟨_, e, d1, d2⟩ := b2 hf
        rw [inCm_true d1 (by simp only; omega) (by simp only; omega), decide_eq_true hf]; simp
      · rw [inCm_false (fun p hp => .inl (by have := b1 (by omega) p hp; omega)), decide_eq_false hf, decide_eq_false (fun hh => c3 ⟨hh, by omega⟩)]; simp
/-- The blanked text's byte. -/
theorem Stt.byte {s : ByteArray} {n : Nat} {fr : Int} (h : Stt s (n + 1) fr) : byteAt (blkL s (cmL s)) ((s.size : Int) - (n + 1 : Nat)) = (if byteAt s ((s.size : Int) - (n + 1 : Nat)) = 10 then 10 else if 0 ≤ fr ∨ byteAt s ((s.size : Int) - (n + 1 : Nat)) = 37 then 32 else byteAt s ((s.size : Int) - (n + 1 : Nat))) := by
  have hle := h.le
  rw [byteAt_blk s _ _ (by omega) (by omega), h.step.2]
  by_cases c1 : byteAt s ((s.size : Int) - (n + 1 : Nat)) = 10
  · rw [if_pos c1, decide_eq_false (fun hh => hh c1), Bool.false_and, if_neg (by simp), c1]
  · rw [if_neg c1, decide_eq_true c1, Bool.true_and]
    by_cases c2 : 0 ≤ fr ∨ byteAt s ((s.size : Int) - (n + 1 : Nat)) = 37
    · rw [if_pos c2, if_pos (by simpa using c2)]
    · rw [if_neg c2, if_neg (by simpa using c2)]
/-- Gaps. -/
theorem blk_gap {s : ByteArray} : ∀ (n : Nat) (fr : Int), Stt s n fr → gapF (blkL s (cmL s)) n false = gapF s n (decide (0 ≤ fr)) ∧
    (gapF s n (decide (0 ≤ fr)) < s.size → Stt s ((s.size : Int) - gapF s n (decide (0 ≤ fr))).toNat (-1) ∧ byteAt s (gapF s n (decide (0 ≤ fr))) ≠ 10 ∧ byteAt s (gapF s n (decide (0 ≤ fr))) ≠ 37)
  | 0, fr, h => by
    simp only [gapF, blkL_size]
    exact ⟨trivial, fun hh => absurd hh (by omega)⟩
  | n + 1, fr, h => by
    have hb := h.byte
    obtain ⟨hs, _⟩ := h.step
    have hle := h.le
    simp only [gapF, blkL_size]
    rw [hb]
    obtain ⟨i, hi⟩ : ∃ i : Int, i = (s.size : Int) - (n + 1 : Nat) := ⟨_, rfl⟩
    rw [← hi] at hs ⊢
    by_cases c1 : byteAt s i = 10
    · simp only [if_pos c1, if_true]
      unfold nxt at hs
      rw [if_pos c1] at hs
      exact blk_gap n (-1) hs
    · simp only [if_neg c1]
      unfold nxt at hs
      rw [if_neg c1] at hs
      by_cases c2 : 0 ≤ fr
      · rw [if_neg (fun hh => by omega)] at hs
        have := blk_gap n fr hs
        simp only [c2, true_or, if_true, decide_true, show ((32 : Int) = 10) = False by simp, if_false] at this ⊢
        exact this
      · simp only [c2, false_or, decide_false, Bool.false_eq_true, if_false]
        by_cases c3 : byteAt s i = 37
        · rw [if_pos ⟨c3, by omega⟩] at hs
          have := blk_gap n i hs
          simp only [c3, if_true, show ((32 : Int) = 10) = False by simp, show ((37 : Int) = 32) = False by simp, if_false, decide_eq_true (by omega : 0 ≤ i)] at this ⊢
          exact this
        · rw [if_neg (fun hh => c3 hh.1)] at hs
          have := blk_gap n fr hs
          simp only [c2, decide_false] at this
          simp only [if_neg c3, if_neg c1]
          by_cases c4 : byteAt s i = 32
          · simp only [if_pos c4]
            exact this
          · simp only [if_neg c4]
            refine ⟨trivial, fun _ => ⟨?_, c1, c3⟩⟩
            rw [hi, show ((s.size : Int) - ((s.size : Int) - (n + 1 : Nat))).toNat = n + 1 by omega]
            have : fr = -1 := by have := h.lo; omega
            rw [← this]; exact h
theorem stt_next {s : ByteArray} {p : Int} (h0 : 0 ≤ p) (h1 : p < s.size) (h : Stt s ((s.size : Int) - p).toNat (-1)) : byteAt (blkL s (cmL s)) p = (if byteAt s p = 10 then 10 else if byteAt s p = 37 then 32 else byteAt s p) ∧
    (byteAt s p ≠ 10 → byteAt s p ≠ 37 → Stt s ((s.size : Int) - (p + 1)).toNat (-1)) := by
  obtain ⟨n, hn⟩ : ∃ n : Nat, ((s.size : Int) - p).toNat = n + 1 := ⟨((s.size : Int) - p).toNat - 1, by omega⟩
  rw [hn] at h
  have e1 := h.byte
  obtain ⟨e2, _⟩ := h.step
  have ep : (s.size : Int) - (n + 1 : Nat) = p := by omega
  rw [ep] at e1 e2
  refine ⟨?_, fun g1 g2 => ?_⟩
  · rw [e1]
    simp only [show ((0 : Int) ≤ -1) = False by simp, false_or]
  · unfold nxt at e2
    rw [if_neg g1, if_neg (fun hh => g2 hh.1)] at e2
    rw [show ((s.size : Int) - (p + 1)).toNat = n by omega]; exact e2
theorem blk_agree {s : ByteArray} {i : Int} (h0 : 0 ≤ i) (h : Stt s ((s.size : Int) - i).toNat (-1)) : ∀ k : Nat, i + k ≤ s.size → (∀ m, i ≤ m → m < i + k → byteAt s m ≠ 10 ∧ byteAt s m ≠ 37) → Stt s ((s.size : Int) - (i + k)).toNat (-1) ∧ ∀ m, i ≤ m → m < i + k → byteAt (blkL s (cmL s)) m = byteAt s m
  | 0, _, _ => ⟨by simpa using h, fun m h1 h2 => by omega⟩
  | k + 1, hk, hb => by
    obtain ⟨q1, q2⟩ := blk_agree h0 h k (by omega) fun m m0 m1 => hb m m0 (by omega)
    obtain ⟨b1, b2⟩ := hb (i + k) (by omega) (by omega)
    obtain ⟨n1, n2⟩ := stt_next (by omega) (by omega) q1
    refine ⟨by rw [show i + ((k + 1 : Nat) : Int) = i + k + 1 by omega]; exact n2 b1 b2, fun m m0 m1 => ?_⟩
    by_cases hm : m < i + k
    · exact q2 m m0 hm
    · obtain rfl : m = i + k := by omega
      rw [n1, if_neg b1, if_neg b2]
theorem blk_conv {s : ByteArray} {i : Int} (h0 : 0 ≤ i) (h : Stt s ((s.size : Int) - i).toNat (-1)) : ∀ k : Nat, i + k ≤ s.size → (∀ m, i ≤ m → m < i + k → byteAt (blkL s (cmL s)) m ≠ 10 ∧ byteAt (blkL s (cmL s)) m ≠ 32) → ∀ m, i ≤ m → m < i + k → byteAt s m ≠ 10 ∧ byteAt s m ≠ 37
  | 0, _, _, m, h1, h2 => by omega
  | k + 1, hk, hb, m, m0, m1 => by
    have ih := blk_conv h0 h k (by omega) fun m m0 m1 => hb m m0 (by omega)
    by_cases hm : m < i + k
    · exact ih m m0 hm
    · obtain rfl : m = i + k := by omega
      obtain ⟨q1, _⟩ := blk_agree h0 h k (by omega) ih
      obtain ⟨n1, _⟩ := stt_next (by omega) (by omega) q1
      obtain ⟨b1, b2⟩ := hb (i + k) m0 m1
      rw [n1] at b1 b2
      by_cases c1 : byteAt s (i + k) = 10
      · rw [if_pos c1] at b1; exact absurd rfl b1
      · rw [if_neg c1] at b2
        by_cases c2 : byteAt s (i + k) = 37
        · rw [if_pos c2] at b2; exact absurd rfl b2
        · exact ⟨c1, c2⟩
theorem rest_head2 {r t q : ByteArray} (h : r = t ++ q) : rest r t.size = q := by rw [h, rest_app]
theorem tx_split2 {r : ByteArray} : r = tx r ++ rest r (tx r).size := by
  obtain ⟨h1, h2⟩ := tx_pre r
  have h3 := rest_size (s := r) (i := (tx r).size) (by omega) (by omega)
  have h4 := app_size (tx r) (rest r (tx r).size)
  refine ba_ext2 (by omega) fun j j0 j1 => ?_
  by_cases c : j < (tx r).size
  · rw [byteAt_app_l j0 c, h2 j j0 c]
  · rw [byteAt_app_r (by omega) (by omega), rest_byte (by omega) (by omega) (by omega)]
    congr 1; omega
theorem blk_tx {s : ByteArray} {i : Int} (h0 : 0 ≤ i) (h1 : i < s.size) (h : Stt s ((s.size : Int) - i).toNat (-1)) (b1 : byteAt s i ≠ 10) (b2 : byteAt s i ≠ 37) :
    tx (rest (blkL s (cmL s)) i) = tx (rest s i) ∧ Stt s ((s.size : Int) - (i + (tx (rest s i)).size)).toNat (-1) ∧ byteAt (blkL s (cmL s)) i = byteAt s i := by
  have hz := blkL_size s (cmL s)
  have r1 := rest_size (s := s) h0 (by omega)
  have r2 := rest_size (s := blkL s (cmL s)) (i := i) h0 (by omega)
  obtain ⟨n1, _⟩ := stt_next h0 h1 h
  rw [if_neg b1, if_neg b2] at n1
  obtain ⟨p1, p2⟩ := tx_pre (rest s i)
  have hB : ∀ m, i ≤ m → m < i + (tx (rest s i)).size → byteAt s m ≠ 10 ∧ byteAt s m ≠ 37 := fun m m0 m1 => by
    obtain ⟨t1, t2, t3⟩ := tx_byte (r := rest s i) (j := m - i) (by omega) (by omega)
    rw [p2 (m - i) (by omega) (by omega), rest_byte h0 (by omega) (by omega), show i + (m - i) = m by omega] at t2 t3
    exact ⟨t2, t3⟩
  obtain ⟨a1, a2⟩ := blk_agree h0 h (tx (rest s i)).size (by omega) hB
  refine ⟨?_, a1, n1⟩
  obtain ⟨T, hT⟩ : ∃ T, T = tx (rest s i) := ⟨_, rfl⟩
  rw [← hT] at p1 p2 hB a1 a2 ⊢
  by_cases hT0 : 0 < T.size
  · have hself : tx T = T := by rw [hT]; exact tx_self (by rw [← hT]; exact hT0)
    have q1 := rest_size (s := rest s i) (i := T.size) (by omega) (by omega)
    have q2 := rest_size (s := rest (blkL s (cmL s)) i) (i := T.size) (by omega) (by omega)
    have e1 : rest s i = T ++ rest (rest s i) T.size := by rw [hT]; exact tx_split2
    have e2 : rest (blkL s (cmL s)) i = T ++ rest (rest (blkL s (cmL s)) i) T.size := by
      have := split_rest (rest (blkL s (cmL s)) i) T.size (by omega) (by omega)
      have e3 : (rest (blkL s (cmL s)) i).extract 0 (T.size : Int).toNat = T := by
        refine ba_ext2 (by rw [ext_size]; omega) fun j j0 j1 => ?_
        rw [ext_size] at j1
        rw [byteAt_ext j0 (by omega), show ((0 : Nat) : Int) + j = j by omega, rest_byte h0 j0 (by omega), a2 (i + j) (by omega) (by omega), p2 j j0 (by omega), rest_byte h0 j0 (by omega)]
      rw [e3] at this; exact this
    by_cases hq : 0 < (rest (rest s i) T.size).size
    · have c1 : byteAt (rest (rest s i) T.size) 0 = byteAt s (i + T.size) := by rw [rest_byte (by omega) (by omega) (by omega), rest_byte h0 (by omega) (by omega), Int.add_zero]
      have c2 : byteAt (rest (rest (blkL s (cmL s)) i) T.size) 0 = byteAt (blkL s (cmL s)) (i + T.size) := by rw [rest_byte (by omega) (by omega) (by omega), rest_byte h0 (by omega) (by omega), Int.add_zero]
      obtain ⟨m1, _⟩ := stt_next (p := i + T.size) (by omega) (by omega) a1
      rw [e2]
      by_cases d1 : byteAt s (i + T.size) = 10
      · rw [if_pos d1] at m1
        exact tx_app_end hself hT0 fun _ => .inr (.inl (by rw [c2, m1]))
      · rw [if_neg d1] at m1
        by_cases d2 : byteAt s (i + T.size) = 37
        · rw [if_pos d2] at m1
          exact tx_app_end hself hT0 fun _ => .inl (by rw [c2, m1])
        · rw [if_neg d2] at m1
          exact (tx_app hself hT0 (by omega) hq (by rw [c1, c2, m1])).2 (by rw [← e1]; exact hT.symm)
    · rw [e2]
      exact tx_app_end hself hT0 fun hh => by omega
  · -- no text
    have hz0 : T.size = 0 := by omega
    have hcls : byteAt (rest (blkL s (cmL s)) i) 0 = byteAt (rest s i) 0 := by rw [rest_byte h0 (by omega) (by omega), rest_byte h0 (by omega) (by omega), Int.add_zero, n1]
    have hsize : (tx (rest (blkL s (cmL s)) i)).size = 0 := by
      obtain ⟨u1, u2⟩ := tx_pre (rest (blkL s (cmL s)) i)
      refine Classical.byContradiction fun hne => ?_
      have hU : ∀ m, i ≤ m → m < i + (tx (rest (blkL s (cmL s)) i)).size → byteAt (blkL s (cmL s)) m ≠ 10 ∧ byteAt (blkL s (cmL s)) m ≠ 32 := fun m m0 m1 => by
        obtain ⟨t1, t2, t3⟩ := tx_byte (r := rest (blkL s (cmL s)) i) (j := m - i) (by omega) (by omega)
        rw [u2 (m - i) (by omega) (by omega), rest_byte h0 (by omega) (by omega), show i + (m - i) = m by omega] at t1 t2
        exact ⟨t2, t1⟩
      have hS := blk_conv h0 h (tx (rest (blkL s (cmL s)) i)).size (by omega) hU
      obtain ⟨_, hag⟩ := blk_agree h0 h _ (by omega) hS
      have c4 : cls (byteAt (rest s i) 0) ≠ 4 := fun hc => by
        have := whN_pos (rest s i) [4, 5] (by omega) ((isOf_cls _).1.2 (.inl hc))
        have e := whil_size' (rest s i) [4, 5]
        unfold tx at hT
        rw [if_pos hc] at hT
        rw [hT] at hz0; omega
      have c5 : cls (byteAt (rest s i) 0) ≠ 5 := fun hc => by
        have := whN_pos (rest s i) [5] (by omega) ((isOf_cls _).2.2 hc)
        have e := whil_size' (rest s i) [5]
        unfold tx at hT
        rw [if_neg c4, if_pos hc] at hT
        rw [hT] at hz0; omega
      have t1 : tx (rest (blkL s (cmL s)) i) = signF (rest (blkL s (cmL s)) i) := by unfold tx; rw [hcls, if_neg c4, if_neg c5]
      have t2 : T = signF (rest s i) := by rw [hT]; unfold tx; rw [if_neg c4, if_neg c5]
      rw [t1] at hne hag u2
      obtain ⟨g1, g2⟩ := sign_mem (r := rest (blkL s (cmL s)) i) (by omega)
      obtain ⟨g3, g4⟩ := (hasPre_iff _ _).1 g2
      have hpre : hasPre (rest s i) (signF (rest (blkL s (cmL s)) i)) = true := (hasPre_iff _ _).2 ⟨by omega, fun j j0 j1 => by
        rw [← g4 j j0 j1, rest_byte h0 j0 (by omega), rest_byte h0 j0 (by omega), hag (i + j) (by omega) (by omega)]⟩
      have := (signGo_max (rest s i) signsL ByteArray.empty).2 _ g1 hpre
      have t3 : T = signGo (rest s i) signsL ByteArray.empty := t2
      rw [← t3] at this
      omega
    exact ba_ext2 (by rw [hsize, hz0]) fun j j0 j1 => by rw [hsize] at j1; omega
theorem blk_tok {s : ByteArray} {i : Int} (h0 : 0 ≤ i) (h1 : i < s.size) (h : Stt s ((s.size : Int) - i).toNat (-1)) (b1 : byteAt s i ≠ 10) (b2 : byteAt s i ≠ 37) :
    tokF (blkL s (cmL s)) i = tokF s i ∧ Stt s ((s.size : Int) - (i + (tokF s i).1.2.1.size)).toNat (-1) := by
  have hz := blkL_size s (cmL s)
  obtain ⟨k1, k2, k3⟩ := blk_tx h0 h1 h b1 b2
  have r1 := rest_size (s := s) h0 (by omega)
  have r2 := rest_size (s := blkL s (cmL s)) (i := i) h0 (by omega)
  rw [tok_tx, tok_tx, k1]
  have : byteAt (rest (blkL s (cmL s)) i) 0 = byteAt (rest s i) 0 := by rw [rest_byte h0 (by omega) (by omega), rest_byte h0 (by omega) (by omega), Int.add_zero, k3]
  rw [this]
  exact ⟨rfl, k2⟩
theorem blk_scanGo {s : ByteArray} : ∀ (n : Nat) (i : Int) (acc : List Lx), (s.size : Int) - i < n → 0 ≤ i → i ≤ s.size → (i < s.size → Stt s ((s.size : Int) - i).toNat (-1) ∧ byteAt s i ≠ 10 ∧ byteAt s i ≠ 37) → scanGo (blkL s (cmL s)) (s.size + 1) i acc = scanGo s (s.size + 1) i acc
  | 0, i, acc, h, h0, h1, _ => by omega
  | n + 1, i, acc, h, h0, h1, hS => by
    have hz := blkL_size s (cmL s)
    by_cases hlt : i < s.size
    · obtain ⟨g1, g2, g3⟩ := hS hlt
      obtain ⟨t1, t2⟩ := blk_tok h0 hlt g1 g2 g3
      have e1 := scanGo_step s i acc h0 hlt
      have e2 := scanGo_step (blkL s (cmL s)) i acc h0 (by omega)
      rw [hz, t1] at e2
      rw [e1, e2]
      cases hp : (tokF s i).2 with
      | false => rfl
      | true =>
        simp only [Bool.true_eq_false, if_false]
        split
        · rfl
        · have q1 := tok_size s i h0 hlt
          have q2 := tok_pos s i h0 hlt hp
          have q3 := gap_bounds s (i + (tokF s i).1.2.1.size) (by omega) (by omega)
          obtain ⟨w1, w2⟩ := blk_gap _ _ t2
          simp only [show decide ((0 : Int) ≤ -1) = false from rfl] at w1 w2
          have eg : gap (blkL s (cmL s)) (i + (tokF s i).1.2.1.size) = gap s (i + (tokF s i).1.2.1.size) := by unfold gap; rw [hz]; exact w1
          rw [eg]
          exact blk_scanGo n _ _ (by omega) (by omega) q3.2 fun hh => w2 hh
    · have e : i = s.size := by omega
      unfold scanGo
      rw [if_neg (by rw [hz]; omega), if_neg (by omega)]
def OkC (s : ByteArray) : Prop := ∀ j : Int, 0 ≤ j → j < s.size → badB (byteAt s j) = false
theorem ckF_allC {s : ByteArray} (h : OkC s) : ∀ n : Nat, n ≤ s.size → ckF s n = (0, 0)
  | 0, _ => rfl
  | n + 1, hn => by
    simp only [ckF]
    rw [h _ (by omega) (by omega)]
    simp only [Bool.false_eq_true, if_false]
    exact ckF_allC h n (by omega)
theorem chk_okC {s : ByteArray} (hz : s.size ≤ 2500) (h : OkC s) : (chk s).2 = 0 := by
  unfold chk
  rw [if_neg (by omega), ckF_allC h _ (Nat.le_refl _)]

/-! ### the law -/
theorem ckF_bytes {s : ByteArray} : ∀ n : Nat, n ≤ s.size → (ckF s n).2 = 0 → ∀ j : Int, (s.size : Int) - n ≤ j → j < s.size → badB (byteAt s j) = false
  | 0, _, _, j, h1, h2 => by omega
  | n + 1, hn, h, j, h1, h2 => by
    simp only [ckF] at h
    split at h
    · cases h
    · rename_i hb
      by_cases hj : j = (s.size : Int) - (n + 1 : Nat)
      · rw [hj]; simpa using hb
      · exact ckF_bytes n (by omega) h j (by omega) h2
theorem chk_bytes {s : ByteArray} (h : (chk s).2 = 0) : OkC s := fun j j0 j1 => by
  have hb := chk_big h
  unfold chk at h
  rw [if_neg (by omega)] at h
  exact ckF_bytes s.size (Nat.le_refl _) h j (by omega) j1
theorem blk_chk {s : ByteArray} (h : (chk s).2 = 0) : (chk (blkL s (cmL s))).2 = 0 := by
  have hb := chk_big h
  have ho := chk_bytes h
  refine chk_okC (by rw [blkL_size]; exact hb) fun j j0 j1 => ?_
  rw [blkL_size] at j1
  rw [byteAt_blk s _ j j0 j1]
  split
  · rfl
  · exact ho j j0 j1
theorem blk_scan {s : ByteArray} (h : (chk s).2 = 0) : scanF (blkL s (cmL s)) = scanF s := by
  have hz := blkL_size s (cmL s)
  unfold scanF
  simp only
  rw [if_neg (fun e => e (blk_chk h)), if_neg (fun e => e h), hz]
  obtain ⟨w1, w2⟩ := blk_gap _ _ (stt0 s)
  simp only [show decide ((0 : Int) ≤ -1) = false from rfl] at w1 w2
  have e0 : ((s.size : Int) - 0).toNat = s.size := by omega
  have eg : gap (blkL s (cmL s)) 0 = gap s 0 := by unfold gap; rw [hz, e0]; exact w1
  have q3 := gap_bounds s 0 (by omega) (by omega)
  rw [eg]
  refine blk_scanGo (s.size + 1) _ _ (by omega) q3.1 q3.2 fun hh => ?_
  unfold gap at hh ⊢
  rw [e0] at hh ⊢
  exact w2 hh
theorem stt_at (s : ByteArray) : ∀ k : Nat, k ≤ s.size → ∃ fr, Stt s (s.size - k) fr
  | 0, _ => ⟨-1, stt0 s⟩
  | k + 1, h => by
    obtain ⟨fr, hf⟩ := stt_at s k (by omega)
    have e : s.size - k = (s.size - (k + 1)) + 1 := by omega
    rw [e] at hf
    exact ⟨_, hf.step.1⟩
theorem blk_byte {s : ByteArray} {i : Int} (h0 : 0 ≤ i) (h1 : i < s.size) : (byteAt (blkL s (cmL s)) i = 10 ↔ byteAt s i = 10) ∧ byteAt (blkL s (cmL s)) i ≠ 37 ∧ (byteAt (blkL s (cmL s)) i ≠ byteAt s i → byteAt (blkL s (cmL s)) i = 32) := by
  obtain ⟨fr, hf⟩ := stt_at s i.toNat (by omega)
  obtain ⟨n, hn⟩ : ∃ n : Nat, s.size - i.toNat = n + 1 := ⟨s.size - i.toNat - 1, by omega⟩
  rw [hn] at hf
  have hb := hf.byte
  rw [show (s.size : Int) - (n + 1 : Nat) = i by omega] at hb
  rw [hb]
  by_cases c1 : byteAt s i = 10
  · simp [c1]
  · by_cases c2 : 0 ≤ fr ∨ byteAt s i = 37
    · simp [c1, c2]
    · simp only [if_neg c1, if_neg c2]
      refine ⟨trivial, fun e => c2 (.inr e), fun e => absurd rfl e⟩
theorem ok17 (F : LexF) (G : LexG) (hpl : F.pL = pLF) (hsh : F.short = shortF) (haw : F.awake = true) (h1 : F.scan = scanF) (h2 : F.same = sameF) (h3 : G.blank = blankF)
    (k21 : SpecOk prog 21 (S21 F)) (k22 : SpecOk prog 22 (S22 F)) (k23 : SpecOk prog 23 (S23 F)) (k25 : SpecOk prog 25 (S25 F)) (k47 : SpecOk prog 47 (S47 G)) : SpecOk prog 17 law1 := by
  refine contract_by hm hE D17 fnok17 _ fun (z : ByteArray × Unit) hpre => ?_
  obtain ⟨s, ⟨⟩⟩ := z
  let I : Int × Unit → Prop := fun z => 0 ≤ z.1 ∧ z.1 ≤ s.size
  let mu : Int × Unit → Nat := fun z => ((s.size : Int) - z.1).toNat
  refine pack _ 1 (a17 Lv.std I mu) (only_tab (T := fT2 F G) (l := [21, 22, 23, 25, 47]) (tb_cons (tb_sp k21 (by kernel_rfl)) (tb_cons (tb_sp k22 (by kernel_rfl)) (tb_cons (tb_sp k23 (by kernel_rfl)) (tb_cons (tb_sp k25 (by kernel_rfl)) (tb_cons (tb_sp k47 (by kernel_rfl)) tb_nil)))))) ?_
  refine n17_go Lv.std F G I mu s ?_
  simp only [n17, VC.holds, std_cmp, std_scmp, std_ar_add, std_ar_sub, std_ar_mul, std_ar, std_dv, std_shf, std_conv, std_mn, std_mx, std_beq, std_bnot, std_band, std_scat, std_byte, std_ext, std_slen, std_strOf, std_bytes, std_llen, std_get, std_setl, std_app, std_take, std_drop, std_rep, std_mhas, std_mval, std_mput, std_cast, std_toN, std_sub, std_add, std_inR, std_le3, std_leN, std_ltN, std_ne0, std_nonneg, std_catOk, std_room, std_mkOk, std_nth, std_cnt, cmp_lss_t, cmp_lss_f, cmp_leq_t, cmp_leq_f, cmp_gtr_t, cmp_gtr_f, cmp_geq_t, cmp_geq_f, cmp_eql_t, cmp_eql_f, cmp_neq_t, cmp_neq_f, scmp_eql_t, scmp_eql_f, scmp_neq_t, scmp_neq_f, dflt_int, dflt_bool, dflt_str, dflt_sl, dflt_pair, hsh, haw, h1, h2, h3, hpl, Prod.mk.injEq, and_true, true_and]
  refine ⟨fun _ => by simp, fun he => ?_⟩
  have hc : (chk s).2 = 0 := Classical.byContradiction fun e => by
    unfold blankF at he; rw [if_pos e] at he; exact e he
  have eB : blankF s = (blkL s (cmL s), 0, 0) := by unfold blankF; rw [if_neg (fun h => h hc)]
  have hb := chk_big hc
  have hz := blkL_size s (cmL s)
  have hP := scan_pL s
  simp only [eB, blk_scan hc, hz]
  refine ⟨fun _ => ⟨fun h => absurd rfl h, fun _ => ⟨fun h => absurd rfl h, fun _ => ⟨fun h => absurd rfl h, fun _ => ⟨hP, fun _ => ⟨⟨by show (0 : Int) ≤ 0; omega, by show (0 : Int) ≤ s.size; omega⟩, ?_⟩, fun h => by simp [sameF] at h⟩⟩⟩⟩, fun _ => by simp⟩
  rintro ⟨i, ⟨⟩⟩ ⟨i0, i1⟩
  simp only at i0 i1 ⊢
  refine ⟨fun hlt => ?_, fun _ => by simp⟩
  obtain ⟨f1, f2, f3⟩ := blk_byte (s := s) i0 hlt
  have ew : IntKind.i64.wrap (i + 1) = i + 1 := wrap_i64 (by omega) (by omega)
  rw [ew]
  have hI : I (i + 1, ()) ∧ mu (i + 1, ()) < mu (i, ()) := ⟨⟨by show (0 : Int) ≤ i + 1; omega, by show i + 1 ≤ (s.size : Int); omega⟩, by show ((s.size : Int) - (i + 1)).toNat < ((s.size : Int) - i).toNat; omega⟩
  have hr : 0 ≤ i ∧ i < (s.size : Int) := ⟨i0, hlt⟩
  have tail : (0 ≤ i ∧ i < (s.size : Int)) ∧ (byteAt (blkL s (cmL s)) i = 37 → false = true) ∧ (byteAt (blkL s (cmL s)) i ≠ 37 → (0 ≤ i ∧ i < (s.size : Int)) ∧ (0 ≤ i ∧ i < (s.size : Int)) ∧
      (byteAt (blkL s (cmL s)) i ≠ byteAt s i → (0 ≤ i ∧ i < (s.size : Int)) ∧ (byteAt (blkL s (cmL s)) i ≠ 32 → false = true) ∧ (byteAt (blkL s (cmL s)) i = 32 → I (i + 1, ()) ∧ mu (i + 1, ()) < mu (i, ()))) ∧
      (byteAt (blkL s (cmL s)) i = byteAt s i → I (i + 1, ()) ∧ mu (i + 1, ()) < mu (i, ()))) :=
    ⟨hr, fun h => absurd h f2, fun _ => ⟨hr, hr, fun hne => ⟨hr, fun h => absurd (f3 hne) h, fun _ => hI⟩, fun _ => hI⟩⟩
  refine ⟨hr, fun c => ⟨hr, fun d => ⟨fun h => by simp at h, fun _ => tail⟩, fun d => absurd (f1.2 c) d⟩, fun c => ⟨hr, fun d => absurd (f1.1 d) c, fun d => ⟨fun h => by simp at h, fun _ => tail⟩⟩⟩
end Go.Proofs.Tryd
set_option autoImplicit false
set_option linter.all false
namespace Go.Proofs.Tryd
open Go Go.VM
set_option maxRecDepth 100000
theorem h17 : SpecOk prog 17 law1 := ok17 FF GG rfl rfl rfl rfl rfl rfl h21 h22 h23 h25 h47
end Go.Proofs.Tryd
