/- What some functions of the lexer compute, proved through the condition generator. No condition of ours. -/
import Derived.Test.YthmlejcfgbpcbaaDoorP18x0
import Derived.Test.YthmlejcfgbpcbaaDoorL2
set_option autoImplicit false
set_option linter.all false
namespace Go.Proofs.Tryd
open Go Go.VM
set_option maxRecDepth 100000
def a8 (L : Lv) (I : Ds [It] → Prop) (mu : Ds [It] → Nat) : Nat → LAnn
  | 0 => anH L [3, 6, 11] [] [.s 11 It] I mu
  | _ => .no
def n8 (L : Lv) (F : LexF) (I : Ds [It] → Prop) (mu : Ds [It] → Nat) (s : ByteArray)  : VC :=
 VC.obl True
 (VC.br (Lv.cmp L BinOp.neq (Prod.snd (Prod.snd (LexF.scan F s))) 0)
 (VC.obl True (VC.br (LexF.awake F) (VC.ok ((true, ()) = (true, ()))) (VC.ok ((false, ()) = (true, ())))))
 (VC.br (Lv.cmp L BinOp.gtr (Lv.cast L (Lv.slen L s)) 300) (VC.obl True (VC.br (LexF.awake F) (VC.ok ((true, ()) = (true, ()))) (VC.ok ((false, ()) = (true, ())))))
 (VC.br (Lv.cmp L BinOp.gtr (Lv.cast L (Lv.llen L Lt (Prod.fst (LexF.scan F s)))) (Lv.cast L (Lv.slen L s)))
 (VC.ok ((false, ()) = (true, ())))
 (VC.obl
 (Lv.room L
 (Lv.add L (Lv.llen L Lt [])
 (Lv.llen L Lt (Prod.fst (LexF.scan F s))))
 32)
 (VC.obl
 (LexF.pL F
 (Lv.take L Lt
 (Lv.app L Lt [] (Prod.fst (LexF.scan F s)))
 (Lv.add L (Lv.llen L Lt [])
 (Lv.llen L Lt (Prod.fst (LexF.scan F s))))))
 (VC.obl True
 (VC.br
 (Lv.cmp L BinOp.neq
 (Prod.snd
 (LexF.join F
 (Lv.take L Lt
 (Lv.app L Lt [] (Prod.fst (LexF.scan F s)))
 (Lv.add L (Lv.llen L Lt [])
 (Lv.llen L Lt (Prod.fst (LexF.scan F s)))))))
 0)
 (VC.ok ((false, ()) = (true, ())))
 (VC.br
 (Lv.cmp L BinOp.neq
 (Prod.snd
 (Prod.snd
 (LexF.scan F
 (Prod.fst
 (LexF.join F
 (Lv.take L Lt
 (Lv.app L Lt [] (Prod.fst (LexF.scan F s)))
 (Lv.add L (Lv.llen L Lt [])
 (Lv.llen L Lt (Prod.fst (LexF.scan F s))))))))))
 0)
 (VC.ok ((false, ()) = (true, ())))
 (VC.br
 (Lv.cmp L BinOp.gtr
 (Lv.cast L
 (Lv.slen L
 (Prod.fst
 (LexF.join F
 (Lv.take L Lt
 (Lv.app L Lt [] (Prod.fst (LexF.scan F s)))
 (Lv.add L (Lv.llen L Lt [])
 (Lv.llen L Lt (Prod.fst (LexF.scan F s)))))))))
 (Lv.cast L (Lv.slen L s)))
 (VC.ok ((false, ()) = (true, ())))
 (VC.obl (LexF.pL F (Prod.fst (LexF.scan F s)))
 (VC.br
 (LexF.alike F (Prod.fst (LexF.scan F s))
 (Prod.fst
 (LexF.scan F
 (Prod.fst
 (LexF.join F
 (Lv.take L Lt
 (Lv.app L Lt [] (Prod.fst (LexF.scan F s)))
 (Lv.add L (Lv.llen L Lt [])
 (Lv.llen L Lt (Prod.fst (LexF.scan F s))))))))))
 (VC.obl
 (St.mk 96
 [(3, V.c (C.sl Lt (Prod.fst (LexF.scan F s)))),
 (6,
 V.c
 (C.str
 (Prod.fst
 (LexF.join F
 (Lv.take L Lt
 (Lv.app L Lt [] (Prod.fst (LexF.scan F s)))
 (Lv.add L (Lv.llen L Lt [])
 (Lv.llen L Lt (Prod.fst (LexF.scan F s))))))))),
 (11, V.c (C.int IntKind.i64 0))]
 [(0, Ob.amb),
 (1,
 Ob.row 48 Lt
 (Lv.app L Lt [] (Prod.fst (LexF.scan F s))))]
 2 =
 St.mk 96
 [(3, V.c (C.sl Lt (Prod.fst (LexF.scan F s)))),
 (6,
 V.c
 (C.str
 (Prod.fst
 (LexF.join F
 (Lv.take L Lt
 (Lv.app L Lt [] (Prod.fst (LexF.scan F s)))
 (Lv.add L (Lv.llen L Lt [])
 (Lv.llen L Lt (Prod.fst (LexF.scan F s))))))))),
 (11, V.c (C.int IntKind.i64 0))]
 [(0, Ob.amb),
 (1,
 Ob.row 48 Lt
 (Lv.app L Lt [] (Prod.fst (LexF.scan F s))))]
 2)
 (VC.obl (I (0, ()))
 (VC.all (Int × Unit) fun (x : Int × Unit) =>
 VC.imp (I x)
 (VC.br
 (Lv.cmp L BinOp.lss (Prod.fst x)
 (Lv.cast L
 (Lv.slen L
 (Prod.fst
 (LexF.join F
 (Lv.take L Lt
 (Lv.app L Lt [] (Prod.fst (LexF.scan F s)))
 (Lv.add L (Lv.llen L Lt [])
 (Lv.llen L Lt (Prod.fst (LexF.scan F s))))))))))
 (VC.obl
 (Lv.inR L (Prod.fst x)
 (Lv.slen L
 (Prod.fst
 (LexF.join F
 (Lv.take L Lt
 (Lv.app L Lt [] (Prod.fst (LexF.scan F s)))
 (Lv.add L (Lv.llen L Lt [])
 (Lv.llen L Lt (Prod.fst (LexF.scan F s)))))))))
 (VC.br
 (Lv.cmp L BinOp.neq
 (Lv.byte L
 (Prod.fst
 (LexF.join F
 (Lv.take L Lt
 (Lv.app L Lt [] (Prod.fst (LexF.scan F s)))
 (Lv.add L (Lv.llen L Lt [])
 (Lv.llen L Lt (Prod.fst (LexF.scan F s)))))))
 (Prod.fst x))
 32)
 (VC.ok
 (St.mk 96
 [(3, V.c (C.sl Lt (Prod.fst (LexF.scan F s)))),
 (6,
 V.c
 (C.str
 (Prod.fst
 (LexF.join F
 (Lv.take L Lt
 (Lv.app L Lt [] (Prod.fst (LexF.scan F s)))
 (Lv.add L (Lv.llen L Lt [])
 (Lv.llen L Lt (Prod.fst (LexF.scan F s))))))))),
 (11, V.c (C.int IntKind.i64 (Lv.ar L BinOp.add IntKind.i64 (Prod.fst x) 1)))]
 [(0, Ob.amb),
 (1,
 Ob.row 48 Lt
 (Lv.app L Lt [] (Prod.fst (LexF.scan F s))))]
 2 =
 St.mk 96
 [(3, V.c (C.sl Lt (Prod.fst (LexF.scan F s)))),
 (6,
 V.c
 (C.str
 (Prod.fst
 (LexF.join F
 (Lv.take L Lt
 (Lv.app L Lt [] (Prod.fst (LexF.scan F s)))
 (Lv.add L (Lv.llen L Lt [])
 (Lv.llen L Lt (Prod.fst (LexF.scan F s))))))))),
 (11, V.c (C.int IntKind.i64 (Lv.ar L BinOp.add IntKind.i64 (Prod.fst x) 1)))]
 [(0, Ob.amb),
 (1,
 Ob.row 48 Lt
 (Lv.app L Lt [] (Prod.fst (LexF.scan F s))))]
 2 ∧
 I (Lv.ar L BinOp.add IntKind.i64 (Prod.fst x) 1, ()) ∧ mu (Lv.ar L BinOp.add IntKind.i64 (Prod.fst x) 1, ()) < mu x))
 (VC.obl
 (Lv.le3 L (Lv.cast L 0) (Prod.fst x)
 (Lv.slen L
 (Prod.fst
 (LexF.join F
 (Lv.take L Lt
 (Lv.app L Lt [] (Prod.fst (LexF.scan F s)))
 (Lv.add L (Lv.llen L Lt [])
 (Lv.llen L Lt (Prod.fst (LexF.scan F s)))))))))
 (VC.obl
 (Lv.le3 L (Lv.ar L BinOp.add IntKind.i64 (Prod.fst x) 1)
 (Lv.cast L
 (Lv.slen L
 (Prod.fst
 (LexF.join F
 (Lv.take L Lt
 (Lv.app L Lt [] (Prod.fst (LexF.scan F s)))
 (Lv.add L (Lv.llen L Lt [])
 (Lv.llen L Lt (Prod.fst (LexF.scan F s)))))))))
 (Lv.slen L
 (Prod.fst
 (LexF.join F
 (Lv.take L Lt
 (Lv.app L Lt [] (Prod.fst (LexF.scan F s)))
 (Lv.add L (Lv.llen L Lt [])
 (Lv.llen L Lt (Prod.fst (LexF.scan F s)))))))))
 (VC.obl
 (Lv.catOk L
 (Lv.ext L
 (Prod.fst
 (LexF.join F
 (Lv.take L Lt
 (Lv.app L Lt [] (Prod.fst (LexF.scan F s)))
 (Lv.add L (Lv.llen L Lt [])
 (Lv.llen L Lt (Prod.fst (LexF.scan F s)))))))
 (Lv.toN L (Lv.cast L 0)) (Lv.toN L (Prod.fst x)))
 (Lv.ext L
 (Prod.fst
 (LexF.join F
 (Lv.take L Lt
 (Lv.app L Lt [] (Prod.fst (LexF.scan F s)))
 (Lv.add L (Lv.llen L Lt [])
 (Lv.llen L Lt (Prod.fst (LexF.scan F s)))))))
 (Lv.toN L (Lv.ar L BinOp.add IntKind.i64 (Prod.fst x) 1))
 (Lv.toN L
 (Lv.cast L
 (Lv.slen L
 (Prod.fst
 (LexF.join F
 (Lv.take L Lt
 (Lv.app L Lt [] (Prod.fst (LexF.scan F s)))
 (Lv.add L (Lv.llen L Lt [])
 (Lv.llen L Lt (Prod.fst (LexF.scan F s))))))))))))
 (VC.obl True
 (VC.br
 (Lv.cmp L BinOp.eql
 (Prod.snd
 (Prod.snd
 (LexF.scan F
 (Lv.scat L
 (Lv.ext L
 (Prod.fst
 (LexF.join F
 (Lv.take L Lt
 (Lv.app L Lt [] (Prod.fst (LexF.scan F s)))
 (Lv.add L (Lv.llen L Lt [])
 (Lv.llen L Lt (Prod.fst (LexF.scan F s)))))))
 (Lv.toN L (Lv.cast L 0)) (Lv.toN L (Prod.fst x)))
 (Lv.ext L
 (Prod.fst
 (LexF.join F
 (Lv.take L Lt
 (Lv.app L Lt [] (Prod.fst (LexF.scan F s)))
 (Lv.add L (Lv.llen L Lt [])
 (Lv.llen L Lt (Prod.fst (LexF.scan F s)))))))
 (Lv.toN L (Lv.ar L BinOp.add IntKind.i64 (Prod.fst x) 1))
 (Lv.toN L
 (Lv.cast L
 (Lv.slen L
 (Prod.fst
 (LexF.join F
 (Lv.take L Lt
 (Lv.app L Lt [] (Prod.fst (LexF.scan F s)))
 (Lv.add L (Lv.llen L Lt [])
 (Lv.llen L Lt (Prod.fst (LexF.scan F s)))))))))))))))
 0)
 (VC.obl (LexF.pL F (Prod.fst (LexF.scan F s)))
 (VC.br
 (LexF.alike F (Prod.fst (LexF.scan F s))
 (Prod.fst
 (LexF.scan F
 (Lv.scat L
 (Lv.ext L
 (Prod.fst
 (LexF.join F
 (Lv.take L Lt
 (Lv.app L Lt [] (Prod.fst (LexF.scan F s)))
 (Lv.add L (Lv.llen L Lt [])
 (Lv.llen L Lt (Prod.fst (LexF.scan F s)))))))
 (Lv.toN L (Lv.cast L 0)) (Lv.toN L (Prod.fst x)))
 (Lv.ext L
 (Prod.fst
 (LexF.join F
 (Lv.take L Lt
 (Lv.app L Lt [] (Prod.fst (LexF.scan F s)))
 (Lv.add L (Lv.llen L Lt [])
 (Lv.llen L Lt (Prod.fst (LexF.scan F s)))))))
 (Lv.toN L (Lv.ar L BinOp.add IntKind.i64 (Prod.fst x) 1))
 (Lv.toN L
 (Lv.cast L
 (Lv.slen L
 (Prod.fst
 (LexF.join F
 (Lv.take L Lt
 (Lv.app L Lt [] (Prod.fst (LexF.scan F s)))
 (Lv.add L (Lv.llen L Lt [])
 (Lv.llen L Lt (Prod.fst (LexF.scan F s)))))))))))))))
 (VC.ok ((false, ()) = (true, ())))
 (VC.ok
 (St.mk 96
 [(3, V.c (C.sl Lt (Prod.fst (LexF.scan F s)))),
 (6,
 V.c
 (C.str
 (Prod.fst
 (LexF.join F
 (Lv.take L Lt
 (Lv.app L Lt [] (Prod.fst (LexF.scan F s)))
 (Lv.add L (Lv.llen L Lt [])
 (Lv.llen L Lt (Prod.fst (LexF.scan F s))))))))),
 (11, V.c (C.int IntKind.i64 (Lv.ar L BinOp.add IntKind.i64 (Prod.fst x) 1)))]
 [(0, Ob.amb),
 (1,
 Ob.row 48 Lt
 (Lv.app L Lt [] (Prod.fst (LexF.scan F s))))]
 2 =
 St.mk 96
 [(3, V.c (C.sl Lt (Prod.fst (LexF.scan F s)))),
 (6,
 V.c
 (C.str
 (Prod.fst
 (LexF.join F
 (Lv.take L Lt
 (Lv.app L Lt [] (Prod.fst (LexF.scan F s)))
 (Lv.add L (Lv.llen L Lt [])
 (Lv.llen L Lt (Prod.fst (LexF.scan F s))))))))),
 (11, V.c (C.int IntKind.i64 (Lv.ar L BinOp.add IntKind.i64 (Prod.fst x) 1)))]
 [(0, Ob.amb),
 (1,
 Ob.row 48 Lt
 (Lv.app L Lt [] (Prod.fst (LexF.scan F s))))]
 2 ∧
 I (Lv.ar L BinOp.add IntKind.i64 (Prod.fst x) 1, ()) ∧ mu (Lv.ar L BinOp.add IntKind.i64 (Prod.fst x) 1, ()) < mu x))))
 (VC.ok
 (St.mk 96
 [(3, V.c (C.sl Lt (Prod.fst (LexF.scan F s)))),
 (6,
 V.c
 (C.str
 (Prod.fst
 (LexF.join F
 (Lv.take L Lt
 (Lv.app L Lt [] (Prod.fst (LexF.scan F s)))
 (Lv.add L (Lv.llen L Lt [])
 (Lv.llen L Lt (Prod.fst (LexF.scan F s))))))))),
 (11, V.c (C.int IntKind.i64 (Lv.ar L BinOp.add IntKind.i64 (Prod.fst x) 1)))]
 [(0, Ob.amb),
 (1,
 Ob.row 48 Lt
 (Lv.app L Lt [] (Prod.fst (LexF.scan F s))))]
 2 =
 St.mk 96
 [(3, V.c (C.sl Lt (Prod.fst (LexF.scan F s)))),
 (6,
 V.c
 (C.str
 (Prod.fst
 (LexF.join F
 (Lv.take L Lt
 (Lv.app L Lt [] (Prod.fst (LexF.scan F s)))
 (Lv.add L (Lv.llen L Lt [])
 (Lv.llen L Lt (Prod.fst (LexF.scan F s))))))))),
 (11, V.c (C.int IntKind.i64 (Lv.ar L BinOp.add IntKind.i64 (Prod.fst x) 1)))]
 [(0, Ob.amb),
 (1,
 Ob.row 48 Lt
 (Lv.app L Lt [] (Prod.fst (LexF.scan F s))))]
 2 ∧
 I (Lv.ar L BinOp.add IntKind.i64 (Prod.fst x) 1, ()) ∧ mu (Lv.ar L BinOp.add IntKind.i64 (Prod.fst x) 1, ()) < mu x)))))))))
 (VC.obl True (VC.br (LexF.awake F) (VC.ok ((true, ()) = (true, ()))) (VC.ok ((false, ()) = (true, ())))))))))
 (VC.ok ((false, ()) = (true, ()))))))))))))))
theorem n8_eq (L : Lv) (F : LexF) (I : Ds [It] → Prop) (mu : Ds [It] → Nat) (s : ByteArray) : vcO L F [22, 23, 29, 36] (D8 (a8 L I mu)) law1 (s, ()) = n8 L F I mu s := by kernel_rfl
theorem n8_go (L : Lv) (F : LexF) (I : Ds [It] → Prop) (mu : Ds [It] → Nat) (s : ByteArray) (h : VC.holds (n8 L F I mu s)) : Holds (vcO L F [22, 23, 29, 36] (D8 (a8 L I mu)) law1 (s, ())) := Holds.of_eq (n8_eq L F I mu s) h

theorem alike_no {l m : List Lx} (k : Nat) (hk : k < l.length) (hk2 : k < m.length) (h : kt l[k] ≠ kt m[k]) : alikeF l m = false := by
  cases ha : alikeF l m with
  | false => rfl
  | true =>
    rw [alike_iff] at ha
    have h1 : (l.map kt)[k]? = (m.map kt)[k]? := by rw [ha]
    rw [List.getElem?_map, List.getElem?_map, List.getElem?_eq_getElem hk, List.getElem?_eq_getElem hk2] at h1
    exact absurd (Option.some.inj h1) h
theorem ok36 (F : LexF) (hpl : F.pL = pLF) (h : F.alike = alikeF) : SpecOk prog 36 (S36 F) := by
  refine contract_by hm hE D36 fnok36 _ fun (z : List Lx × List Lx × Unit) hpre => ?_
  obtain ⟨l, m, ⟨⟩⟩ := z
  have hpre' : F.pL l := hpre
  rw [hpl] at hpre'
  obtain ⟨g1, g2⟩ := hpre'
  let I : Int × Unit → Prop := fun z => 0 ≤ z.1 ∧ z.1 ≤ l.length ∧ (l.take z.1.toNat).map kt = (m.take z.1.toNat).map kt
  let mu : Int × Unit → Nat := fun z => (l.length - z.1).toNat
  refine pack _ 0 (a25 Lv.std I mu) (only_ok (F := F) (l := []) (fun _ h => by cases h)) ?_
  refine n36_go Lv.std F I mu l m ?_
  simp only [n36, VC.holds, std_cmp, std_scmp, std_ar_add, std_ar_sub, std_ar_mul, std_ar, std_dv, std_shf, std_conv, std_mn, std_mx, std_beq, std_bnot, std_band, std_scat, std_byte, std_ext, std_slen, std_strOf, std_bytes, std_llen, std_get, std_setl, std_app, std_take, std_drop, std_rep, std_mhas, std_mval, std_mput, std_cast, std_toN, std_sub, std_add, std_inR, std_le3, std_leN, std_ltN, std_ne0, std_nonneg, std_catOk, std_room, std_mkOk, cmp_lss_t, cmp_lss_f, cmp_leq_t, cmp_leq_f, cmp_gtr_t, cmp_gtr_f, cmp_geq_t, cmp_geq_f, cmp_eql_t, cmp_eql_f, cmp_neq_t, cmp_neq_f, scmp_eql_t, scmp_eql_f, scmp_neq_t, scmp_neq_f, dflt_int, dflt_bool, dflt_str, dflt_sl, dflt_pair, h, Prod.mk.injEq, and_true, true_and]
  refine ⟨fun hne => ?_, fun heq => ⟨⟨by show (0 : Int) ≤ 0; omega, by show (0 : Int) ≤ l.length; omega, rfl⟩, ?_⟩⟩
  · cases ha : alikeF l m with
    | false => rfl
    | true =>
      rw [alike_iff] at ha
      have := congrArg List.length ha
      simp only [List.length_map] at this
      omega
  rintro ⟨i, _⟩ ⟨h0, h1, h2⟩
  simp only at h0 h1 h2 ⊢
  refine ⟨fun hlt => ?_, fun hge => ?_⟩
  · obtain ⟨k, rfl⟩ : ∃ k : Nat, i = k := ⟨i.toNat, by omega⟩
    have hk : k < l.length := by omega
    have hk2 : k < m.length := by omega
    have ew : IntKind.i64.wrap ((k : Int) + 1) = (k : Int) + 1 := by rw [wrap_i64 (by omega) (by omega)]
    simp only [ew, Int.toNat_natCast, List.getElem?_eq_getElem hk, List.getElem?_eq_getElem hk2, Option.getD_some] at h2 ⊢
    refine ⟨⟨by omega, by omega⟩, ⟨by omega, by omega⟩, fun hR => ?_, fun hR => ⟨⟨by omega, by omega⟩, ⟨by omega, by omega⟩, fun hR2 => ?_, fun hR2 => ⟨⟨by show (0 : Int) ≤ (k : Int) + 1; omega, by show (k : Int) + 1 ≤ l.length; omega, ?_⟩, by show ((l.length : Int) - ((k : Int) + 1)).toNat < ((l.length : Int) - k).toNat; omega⟩⟩⟩
    · exact (alike_no k hk hk2 fun e => hR (Prod.mk.inj e).1).symm
    · exact (alike_no k hk hk2 fun e => hR2 (Prod.mk.inj e).2).symm
    · show (l.take ((k : Int) + 1).toNat).map kt = (m.take ((k : Int) + 1).toNat).map kt
      rw [show ((k : Int) + 1).toNat = k + 1 by omega, take_snoc l k hk, take_snoc m k hk2, List.map_append, List.map_append, h2]
      congr 1
      simp only [List.map_cons, List.map_nil]
      rw [show kt l[k] = kt m[k] from Prod.ext hR hR2]
  · have hi : i = l.length := by omega
    subst hi
    rw [Int.toNat_natCast, List.take_length, show l.length = m.length by omega, List.take_length] at h2
    exact ((alike_iff l m).2 h2).symm
theorem ok8 (F : LexF) (hpl : F.pL = pLF) (h : F.awake = true) (h1 : F.scan = scanF) (h2 : F.join = joinF) (h3 : F.alike = alikeF)
    (k1 : SpecOk prog 22 (S22 F)) (k2 : SpecOk prog 23 (S23 F)) (k3 : SpecOk prog 29 (S29 F)) (k4 : SpecOk prog 36 (S36 F)) : SpecOk prog 8 law1 := by
  refine contract_by hm hE D8 fnok8 _ fun (z : ByteArray × Unit) hpre => ?_
  obtain ⟨s, ⟨⟩⟩ := z
  obtain ⟨t, ht⟩ : ∃ t, t = bareF (scanF s).1 := ⟨_, rfl⟩
  let I : Int × Unit → Prop := fun z => 0 ≤ z.1 ∧ z.1 ≤ t.size
  let mu : Int × Unit → Nat := fun z => ((t.size : Int) - z.1).toNat
  refine pack _ 0 (a8 Lv.std I mu) (only_ok (F := F) (l := [22, 23, 29, 36]) (by simp only [List.forall_mem_cons]; exact ⟨at_ok k1 (by kernel_rfl), at_ok k2 (by kernel_rfl), at_ok k3 (by kernel_rfl), at_ok k4 (by kernel_rfl), fun _ h => by cases h⟩)) ?_
  refine n8_go Lv.std F I mu s ?_
  simp only [n8, VC.holds, std_cmp, std_scmp, std_ar_add, std_ar_sub, std_ar_mul, std_ar, std_dv, std_shf, std_conv, std_mn, std_mx, std_beq, std_bnot, std_band, std_scat, std_byte, std_ext, std_slen, std_strOf, std_bytes, std_llen, std_get, std_setl, std_app, std_take, std_drop, std_rep, std_mhas, std_mval, std_mput, std_cast, std_toN, std_sub, std_add, std_inR, std_le3, std_leN, std_ltN, std_ne0, std_nonneg, std_catOk, std_room, std_mkOk, cmp_lss_t, cmp_lss_f, cmp_leq_t, cmp_leq_f, cmp_gtr_t, cmp_gtr_f, cmp_geq_t, cmp_geq_f, cmp_eql_t, cmp_eql_f, cmp_neq_t, cmp_neq_f, scmp_eql_t, scmp_eql_f, scmp_neq_t, scmp_neq_f, dflt_int, dflt_bool, dflt_str, dflt_sl, dflt_pair, h, h1, h2, h3, hpl, Prod.mk.injEq, and_true, true_and, List.length_nil, Nat.zero_add, List.nil_append, List.take_length, nc0]
  refine ⟨fun e => by simp, fun e1 => ⟨fun e => by simp, fun e2 => ?_⟩⟩
  obtain ⟨q1, q2, q3, q4, q5, q6⟩ := again e1 (by omega)
  have hP := scan_pL s
  rw [← ht] at q2 q3 q4 q5 q6
  simp only [q2]
  clear ht
  generalize (scanF s).1 = l at *
  refine ⟨fun c => absurd c (by omega), fun _ => ⟨⟨by omega, by omega⟩, hP, fun c => absurd rfl c, fun _ => ⟨fun c => absurd q4 c, fun _ => ⟨fun c => absurd c (by omega), fun _ => ⟨hP, fun _ => ⟨⟨by show (0 : Int) ≤ 0; omega, by show (0 : Int) ≤ t.size; omega⟩, ?_⟩, fun c => by rw [q5] at c; cases c⟩⟩⟩⟩⟩
  rintro ⟨i, _⟩ ⟨g0, g1⟩
  simp only at g0 g1 ⊢
  have ew : IntKind.i64.wrap (i + 1) = i + 1 := wrap_i64 (by omega) (by omega)
  rw [ew]
  have hstep : i < t.size → I (i + 1, ()) ∧ mu (i + 1, ()) < mu (i, ()) := fun hlt => ⟨⟨by show (0 : Int) ≤ i + 1; omega, by show i + 1 ≤ (t.size : Int); omega⟩, by show ((t.size : Int) - (i + 1)).toNat < ((t.size : Int) - i).toNat; omega⟩
  have hd : t.extract (Int.toNat 0) i.toNat ++ t.extract (i + 1).toNat (t.size : Int).toNat = del t i := rfl
  rw [hd]
  refine ⟨fun hlt => ⟨⟨g0, hlt⟩, fun _ => hstep hlt, fun hb => ⟨⟨by omega, g0, by omega⟩, ⟨by omega, by omega, by omega⟩, by rw [ext_size, ext_size]; omega, fun he => ⟨hP, fun ha => ?_, fun _ => hstep hlt⟩, fun _ => hstep hlt⟩⟩, fun _ => by simp⟩
  rw [q6 i g0 hlt hb he] at ha
  exact ha
end Go.Proofs.Tryd
set_option autoImplicit false
set_option linter.all false
namespace Go.Proofs.Tryd
open Go Go.VM
set_option maxRecDepth 100000
theorem h36 : SpecOk prog 36 (S36 FF) := ok36 FF rfl rfl
theorem h8 : SpecOk prog 8 law1 := ok8 FF rfl rfl rfl rfl rfl h22 h23 h29 h36
end Go.Proofs.Tryd
