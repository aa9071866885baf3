/- What each function of the lexer computes, proved through the condition generator. No condition of ours. -/
import Derived.Test.YthmlejcfgbpcbaaDoorL0
set_option autoImplicit false
set_option linter.all false
namespace Go.Proofs.Tryd
open Go Go.VM
set_option maxRecDepth 100000
abbrev Mt : Ty := .sl (.pair .str .bool)
def a87 (L : Lv) (I : Ds [It, Mt] → Prop) (mu : Ds [It, Mt] → Nat) : Nat → LAnn
  | 0 => anH L [1, 5, 6, 7] [] [.s 7 It, .m 1 .str .bool] I mu
  | _ => .no
def n87 (L : Lv) (F : LexF) (I : Ds [It, Mt] → Prop) (mu : Ds [It, Mt] → Nat)  : VC :=
 VC.obl True
 (VC.obl
 (St.mk 15 [(1, V.c (C.map 2)), (5, V.c (C.sl Ty.str (LexF.keywords F))), (6, V.c (C.int IntKind.i64 (Lv.cast L (Lv.llen L Ty.str (LexF.keywords F))))), (7, V.c (C.int IntKind.i64 0))]
 [(0, Ob.amb), (2, Ob.map Ty.str Ty.bool [])] 3 =
 St.mk 15 [(1, V.c (C.map 2)), (5, V.c (C.sl Ty.str (LexF.keywords F))), (6, V.c (C.int IntKind.i64 (Lv.cast L (Lv.llen L Ty.str (LexF.keywords F))))), (7, V.c (C.int IntKind.i64 0))]
 [(0, Ob.amb), (2, Ob.map Ty.str Ty.bool [])] 3)
 (VC.obl (I (0, [], ()))
 (VC.all (Int × List (ByteArray × Bool) × Unit) fun (x : Int × List (ByteArray × Bool) × Unit) =>
 VC.imp (I x)
 (VC.br (Lv.cmp L BinOp.lss (Prod.fst x) (Lv.cast L (Lv.llen L Ty.str (LexF.keywords F))))
 (VC.obl (Lv.inR L (Prod.fst x) (Lv.llen L Ty.str (LexF.keywords F)))
 (VC.ok
 (St.mk 15
 [(1, V.c (C.map 2)), (5, V.c (C.sl Ty.str (LexF.keywords F))), (6, V.c (C.int IntKind.i64 (Lv.cast L (Lv.llen L Ty.str (LexF.keywords F))))),
 (7, V.c (C.int IntKind.i64 (Lv.ar L BinOp.add IntKind.i64 (Prod.fst x) 1)))]
 [(0, Ob.amb), (2, Ob.map Ty.str Ty.bool (Lv.mput L Ty.str Ty.bool (Prod.fst (Prod.snd x)) (Lv.get L Ty.str (LexF.keywords F) (Lv.toN L (Prod.fst x))) true))] 3 =
 St.mk 15
 [(1, V.c (C.map 2)), (5, V.c (C.sl Ty.str (LexF.keywords F))), (6, V.c (C.int IntKind.i64 (Lv.cast L (Lv.llen L Ty.str (LexF.keywords F))))),
 (7, V.c (C.int IntKind.i64 (Lv.ar L BinOp.add IntKind.i64 (Prod.fst x) 1)))]
 [(0, Ob.amb), (2, Ob.map Ty.str Ty.bool (Lv.mput L Ty.str Ty.bool (Prod.fst (Prod.snd x)) (Lv.get L Ty.str (LexF.keywords F) (Lv.toN L (Prod.fst x))) true))] 3 ∧
 I (Lv.ar L BinOp.add IntKind.i64 (Prod.fst x) 1, Lv.mput L Ty.str Ty.bool (Prod.fst (Prod.snd x)) (Lv.get L Ty.str (LexF.keywords F) (Lv.toN L (Prod.fst x))) true, ()) ∧
 mu (Lv.ar L BinOp.add IntKind.i64 (Prod.fst x) 1, Lv.mput L Ty.str Ty.bool (Prod.fst (Prod.snd x)) (Lv.get L Ty.str (LexF.keywords F) (Lv.toN L (Prod.fst x))) true, ()) <
 mu x)))
 (VC.ok (Prod.fst (Prod.snd x) = LexF.kwm F))))))
theorem n87_eq (L : Lv) (F : LexF) (I : Ds [It, Mt] → Prop) (mu : Ds [It, Mt] → Nat) : mapVC L E01 (callG L E01 (fOnly F [38]) 0) (spcOf (fOnly F [38])) (D87 (a87 L I mu)) .str .bool F.kwm = n87 L F I mu := by kernel_rfl
theorem n87_go (L : Lv) (F : LexF) (I : Ds [It, Mt] → Prop) (mu : Ds [It, Mt] → Nat) (h : VC.holds (n87 L F I mu)) : Holds (mapVC L E01 (callG L E01 (fOnly F [38]) 0) (spcOf (fOnly F [38])) (D87 (a87 L I mu)) .str .bool F.kwm) := Holds.of_eq (n87_eq L F I mu) h
def n58 (L : Lv) (F : LexF) (s : ByteArray) (i : Int)  : VC :=
 VC.obl (Lv.le3 L i (Lv.cast L (Lv.slen L s)) (Lv.slen L s))
 (VC.obl (Lv.inR L 0 (Lv.slen L (Lv.ext L s (Lv.toN L i) (Lv.toN L (Lv.cast L (Lv.slen L s))))))
 (VC.obl True
 (VC.br (Lv.cmp L BinOp.eql (LexF.cls F (Lv.byte L (Lv.ext L s (Lv.toN L i) (Lv.toN L (Lv.cast L (Lv.slen L s)))) 0)) 4)
 (VC.obl (LexF.pS F (Lv.ext L s (Lv.toN L i) (Lv.toN L (Lv.cast L (Lv.slen L s)))) ∧ LexF.pI F (Lv.take L (Ty.int IntKind.i64) [4, 5] 2))
 (VC.br (Lv.mval L Ty.str Ty.bool (LexF.kwm F) (LexF.whil F (Lv.ext L s (Lv.toN L i) (Lv.toN L (Lv.cast L (Lv.slen L s)))) (Lv.take L (Ty.int IntKind.i64) [4, 5] 2)))
 (VC.ok
 (((3, LexF.whil F (Lv.ext L s (Lv.toN L i) (Lv.toN L (Lv.cast L (Lv.slen L s)))) (Lv.take L (Ty.int IntKind.i64) [4, 5] 2), i), true, ()) =
 (Prod.fst (LexF.token F s i), Prod.snd (LexF.token F s i), ())))
 (VC.br (Lv.cmp L BinOp.leq (Lv.cast L (Lv.slen L (LexF.whil F (Lv.ext L s (Lv.toN L i) (Lv.toN L (Lv.cast L (Lv.slen L s)))) (Lv.take L (Ty.int IntKind.i64) [4, 5] 2)))) 12)
 (VC.ok
 (((1, LexF.whil F (Lv.ext L s (Lv.toN L i) (Lv.toN L (Lv.cast L (Lv.slen L s)))) (Lv.take L (Ty.int IntKind.i64) [4, 5] 2), i), true, ()) =
 (Prod.fst (LexF.token F s i), Prod.snd (LexF.token F s i), ())))
 (VC.ok
 (((1, LexF.whil F (Lv.ext L s (Lv.toN L i) (Lv.toN L (Lv.cast L (Lv.slen L s)))) (Lv.take L (Ty.int IntKind.i64) [4, 5] 2), i), false, ()) =
 (Prod.fst (LexF.token F s i), Prod.snd (LexF.token F s i), ()))))))
 (VC.br (Lv.cmp L BinOp.eql (LexF.cls F (Lv.byte L (Lv.ext L s (Lv.toN L i) (Lv.toN L (Lv.cast L (Lv.slen L s)))) 0)) 5)
 (VC.obl (LexF.pS F (Lv.ext L s (Lv.toN L i) (Lv.toN L (Lv.cast L (Lv.slen L s)))) ∧ LexF.pI F (Lv.take L (Ty.int IntKind.i64) [5] 1))
 (VC.obl (LexF.pDig F (LexF.whil F (Lv.ext L s (Lv.toN L i) (Lv.toN L (Lv.cast L (Lv.slen L s)))) (Lv.take L (Ty.int IntKind.i64) [5] 1)))
 (VC.br (LexF.isNum F (LexF.whil F (Lv.ext L s (Lv.toN L i) (Lv.toN L (Lv.cast L (Lv.slen L s)))) (Lv.take L (Ty.int IntKind.i64) [5] 1)))
 (VC.ok
 (((2, LexF.whil F (Lv.ext L s (Lv.toN L i) (Lv.toN L (Lv.cast L (Lv.slen L s)))) (Lv.take L (Ty.int IntKind.i64) [5] 1), i), true, ()) =
 (Prod.fst (LexF.token F s i), Prod.snd (LexF.token F s i), ())))
 (VC.ok
 (((2, LexF.whil F (Lv.ext L s (Lv.toN L i) (Lv.toN L (Lv.cast L (Lv.slen L s)))) (Lv.take L (Ty.int IntKind.i64) [5] 1), i), false, ()) =
 (Prod.fst (LexF.token F s i), Prod.snd (LexF.token F s i), ()))))))
 (VC.obl True
 (VC.br (Lv.scmp L BinOp.neq (LexF.sign F (Lv.ext L s (Lv.toN L i) (Lv.toN L (Lv.cast L (Lv.slen L s))))) (ByteArray.mk #[]))
 (VC.ok (((4, LexF.sign F (Lv.ext L s (Lv.toN L i) (Lv.toN L (Lv.cast L (Lv.slen L s)))), i), true, ()) = (Prod.fst (LexF.token F s i), Prod.snd (LexF.token F s i), ())))
 (VC.ok
 (((4, LexF.sign F (Lv.ext L s (Lv.toN L i) (Lv.toN L (Lv.cast L (Lv.slen L s)))), i), false, ()) =
 (Prod.fst (LexF.token F s i), Prod.snd (LexF.token F s i), ())))))))))
theorem n58_eq (L : Lv) (F : LexF) (s : ByteArray) (i : Int) : vcO L F [85, 86, 87, 88, 89] (D58 a0) (S58 F) (s, i, ()) = n58 L F s i := by kernel_rfl
theorem n58_go (L : Lv) (F : LexF) (s : ByteArray) (i : Int) (h : VC.holds (n58 L F s i)) : Holds (vcO L F [85, 86, 87, 88, 89] (D58 a0) (S58 F) (s, i, ())) := Holds.of_eq (n58_eq L F s i) h

def kwPut (m : List (ByteArray × Bool)) (x : ByteArray) : List (ByteArray × Bool) := mputL .str .bool m x true
def kwmL : List (ByteArray × Bool) := keywordsL.foldl kwPut []
theorem ok87 (F : LexF) (hs : F.keywords = keywordsL) (h : F.kwm = kwmL) (k1 : SpecOk prog 38 (S38 F)) : XOk prog 87 (mapX .str .bool F.kwm) := by
  refine mapX_ok hm hE 0 (only_ok (F := F) (l := [38]) (by simp only [List.mem_singleton, forall_eq]; exact at_ok k1 (by kernel_rfl))) (fnok87 (a87 Lv.std (fun (z : Int × List (ByteArray × Bool) × Unit) => 0 ≤ z.1 ∧ z.1 ≤ keywordsL.length ∧ z.2.1 = (keywordsL.take z.1.toNat).foldl kwPut []) (fun (z : Int × List (ByteArray × Bool) × Unit) => (keywordsL.length - z.1).toNat))) _ _ _ rfl rfl ?_
  refine n87_go Lv.std F _ _ ?_
  simp only [n87, VC.holds, std_cmp, std_scmp, std_ar_add, std_ar_sub, std_ar_mul, std_ar, std_dv, std_shf, std_conv, std_mn, std_mx, std_beq, std_bnot, std_band, std_scat, std_byte, std_ext, std_slen, std_strOf, std_bytes, std_llen, std_get, std_setl, std_app, std_take, std_drop, std_rep, std_mhas, std_mval, std_mput, std_cast, std_toN, std_sub, std_add, std_inR, std_le3, std_leN, std_ltN, std_ne0, std_nonneg, std_catOk, std_room, std_mkOk, cmp_lss_t, cmp_lss_f, cmp_leq_t, cmp_leq_f, cmp_gtr_t, cmp_gtr_f, cmp_geq_t, cmp_geq_f, cmp_eql_t, cmp_eql_f, cmp_neq_t, cmp_neq_f, scmp_eql_t, scmp_eql_f, scmp_neq_t, scmp_neq_f, dflt_int, dflt_bool, dflt_str, dflt_sl, dflt_pair, h, hs, Prod.mk.injEq, and_true, true_and]
  have hlen : keywordsL.length = 28 := rfl
  refine ⟨⟨by omega, by omega, rfl⟩, ?_⟩
  rintro ⟨i, m, _⟩ ⟨g0, g1, g2⟩
  simp only at g0 g1 g2 ⊢
  refine ⟨fun hlt => ?_, fun hge => ?_⟩
  · rw [wrap_i64 (by omega) (by omega)]
    refine ⟨⟨g0, hlt⟩, ⟨by omega, by omega, ?_⟩, by omega⟩
    have e : (i + 1).toNat = i.toNat + 1 := by omega
    have hl : i.toNat < keywordsL.length := by omega
    rw [e, List.take_succ, List.getElem?_eq_getElem hl, List.foldl_append, ← g2]
    rfl
  · have e : i.toNat = keywordsL.length := by omega
    rw [g2, e, List.take_length]; rfl
theorem keq_str (x y : ByteArray) : keq .str x y = decide (x = y) := by
  by_cases h : x = y
  · subst h
    rw [decide_eq_true rfl]
    exact (beq_self_eq_true x.data : (x.data == x.data) = true)
  · rw [decide_eq_false h]
    cases hb : keq .str x y with
    | false => rfl
    | true => exact absurd (ByteArray.ext (eq_of_beq (hb : (x.data == y.data) = true))) h
theorem mval_cons (a : ByteArray) (c : Bool) (r : List (ByteArray × Bool)) (t : ByteArray) : mvalL .str .bool ((a, c) :: r) t = if t = a then c else mvalL .str .bool r t := by
  show (if keq .str t a = true then c else mvalL .str .bool r t) = _
  rw [keq_str]
  by_cases h : t = a
  · rw [if_pos h, decide_eq_true h, if_pos rfl]
  · rw [if_neg h, decide_eq_false h, if_neg (by simp)]
theorem mput_cons (a : ByteArray) (c : Bool) (r : List (ByteArray × Bool)) (x : ByteArray) : mputL .str .bool ((a, c) :: r) x true = if x = a then (x, true) :: r else (a, c) :: mputL .str .bool r x true := by
  show (if keq .str x a = true then (x, true) :: r else (a, c) :: mputL .str .bool r x true) = _
  rw [keq_str]
  by_cases h : x = a
  · rw [if_pos h, decide_eq_true h, if_pos rfl]
  · rw [if_neg h, decide_eq_false h, if_neg (by simp)]
theorem mval_put (t x : ByteArray) : ∀ m : List (ByteArray × Bool), mvalL .str .bool (mputL .str .bool m x true) t = (decide (t = x) || mvalL .str .bool m t)
  | [] => by
    show mvalL .str .bool [(x, true)] t = (decide (t = x) || false)
    rw [mval_cons]
    by_cases h : t = x
    · rw [if_pos h, decide_eq_true h]; rfl
    · rw [if_neg h, decide_eq_false h]; rfl
  | (a, c) :: r => by
    have ih := mval_put t x r
    rw [mput_cons, mval_cons]
    by_cases hx : x = a
    · subst hx
      rw [if_pos rfl, mval_cons]
      by_cases h : t = x
      · rw [if_pos h, decide_eq_true h]; rfl
      · rw [if_neg h, if_neg h, decide_eq_false h]; rfl
    · rw [if_neg hx, mval_cons, ih]
      by_cases h : t = a
      · subst h
        rw [if_pos rfl, if_pos rfl, decide_eq_false (fun e => hx e.symm)]; rfl
      · rw [if_neg h, if_neg h]
theorem mval_fold (t : ByteArray) : ∀ (l : List ByteArray) (m : List (ByteArray × Bool)), mvalL .str .bool (l.foldl kwPut m) t = (mvalL .str .bool m t || l.any fun k => decide (t = k))
  | [], m => by simp
  | x :: l, m => by
    rw [List.foldl_cons, mval_fold t l, List.any_cons]
    unfold kwPut
    rw [mval_put]
    cases mvalL .str .bool m t <;> cases decide (t = x) <;> simp
theorem mval_kw (t : ByteArray) : mvalL .str .bool kwmL t = isKeyF t := by
  unfold kwmL
  rw [mval_fold]
  rfl
def pDigF (t : ByteArray) : Prop := 0 < t.size ∧ t.size ≤ 1000000 ∧ ∀ j : Int, 0 ≤ j → j < t.size → isDig (byteAt t j) = true

theorem ok58 (F : LexF) (hs : F.pS = fun s => s.size ≤ 1000000) (hl : F.pLt = fun s i => 0 ≤ i ∧ i < s.size) (hd : ∀ rest : ByteArray, 0 < rest.size → rest.size ≤ 1000000 → cls (byteAt rest 0) = 5 → F.pDig (whilF rest [5])) (hI : F.pI [4, 5] ∧ F.pI [5]) (ht : F.token = tokF) (hc : F.cls = cls) (hw : F.whil = whilF)
    (hk : F.kwm = kwmL) (hn : F.isNum = isNumF) (hg : F.sign = signF)
    (k1 : SpecOk prog 85 (S85 F)) (k2 : SpecOk prog 86 (S86 F)) (k3 : XOk prog 87 (mapX .str .bool F.kwm)) (k4 : SpecOk prog 88 (S88 F)) (k5 : SpecOk prog 89 (S89 F)) : SpecOk prog 58 (S58 F) := by
  refine contract_by hm hE D58 fnok58 _ fun (z : ByteArray × Int × Unit) hpre => ?_
  obtain ⟨s, i, ⟨⟩⟩ := z
  obtain ⟨⟨g0, g1⟩, g2⟩ : (0 ≤ i ∧ i < s.size) ∧ s.size ≤ 1000000 := by have := hpre; simp only [S58, hs, hl] at this; exact this
  refine pack _ 0 (a0) (only_ok (F := F) (l := [85, 86, 87, 88, 89]) (by simp only [List.forall_mem_cons]; exact ⟨at_ok k1 (by kernel_rfl), at_ok k2 (by kernel_rfl), at_x k3 (by kernel_rfl), at_ok k4 (by kernel_rfl), at_ok k5 (by kernel_rfl), fun _ h => by cases h⟩)) ?_
  refine n58_go Lv.std F s i ?_
  have hsz := ext_size s i.toNat s.size
  simp only [n58, VC.holds, std_cmp, std_scmp, std_ar_add, std_ar_sub, std_ar_mul, std_ar, std_dv, std_shf, std_conv, std_mn, std_mx, std_beq, std_bnot, std_band, std_scat, std_byte, std_ext, std_slen, std_strOf, std_bytes, std_llen, std_get, std_setl, std_app, std_take, std_drop, std_rep, std_mhas, std_mval, std_mput, std_cast, std_toN, std_sub, std_add, std_inR, std_le3, std_leN, std_ltN, std_ne0, std_nonneg, std_catOk, std_room, std_mkOk, cmp_lss_t, cmp_lss_f, cmp_leq_t, cmp_leq_f, cmp_gtr_t, cmp_gtr_f, cmp_geq_t, cmp_geq_f, cmp_eql_t, cmp_eql_f, cmp_neq_t, cmp_neq_f, scmp_eql_t, scmp_eql_f, scmp_neq_t, scmp_neq_f, dflt_int, dflt_bool, dflt_str, dflt_sl, dflt_pair, hs, ht, hc, hw, hk, hn, hg, Prod.mk.injEq, and_true, true_and, Int.toNat_natCast]
  have e45 : List.take (α := Int) 2 [4, 5] = [4, 5] := rfl
  have e5 : List.take (α := Int) 1 [5] = [5] := rfl
  rw [e45, e5]
  simp only [mval_kw]
  refine ⟨⟨g0, by omega, by omega⟩, ⟨by omega, by omega⟩, fun c4 => ⟨⟨by omega, hI.1⟩, fun hm => ?_, fun hm => ⟨fun h12 => ?_, fun h12 => ?_⟩⟩, fun n4 => ⟨fun c5 => ⟨⟨by omega, hI.2⟩, hd _ (by omega) (by omega) c5, fun hm => ?_, fun hm => ?_⟩, fun n5 => ⟨fun hm => ?_, fun hm => ?_⟩⟩⟩
  · simp only [tokF]; rw [if_pos c4, if_pos hm]; exact ⟨rfl, rfl⟩
  · simp only [tokF]; rw [if_pos c4, if_neg (by rw [hm]; simp)]; have h13 : (whilF (s.extract i.toNat s.size) [4, 5]).size ≤ 12 := by omega
    rw [decide_eq_true h13]; exact ⟨rfl, rfl⟩
  · simp only [tokF]; rw [if_pos c4, if_neg (by rw [hm]; simp)]; have h13 : ¬ (whilF (s.extract i.toNat s.size) [4, 5]).size ≤ 12 := by omega
    rw [decide_eq_false h13]; exact ⟨rfl, rfl⟩
  · simp only [tokF]; rw [if_neg n4, if_pos c5, hm]; exact ⟨rfl, rfl⟩
  · simp only [tokF]; rw [if_neg n4, if_pos c5, hm]; exact ⟨rfl, rfl⟩
  · simp only [tokF]; rw [if_neg n4, if_neg n5]
    have h13 : (signF (s.extract i.toNat s.size)).size ≠ 0 := fun h0 => hm (ByteArray.ext (Array.eq_empty_of_size_eq_zero h0))
    rw [decide_eq_true h13]; exact ⟨rfl, rfl⟩
  · simp only [tokF]; rw [if_neg n4, if_neg n5]
    have h13 : ¬ (signF (s.extract i.toNat s.size)).size ≠ 0 := fun h0 => h0 (by rw [hm]; rfl)
    rw [decide_eq_false h13]; exact ⟨rfl, rfl⟩
end Go.Proofs.Tryd
set_option autoImplicit false
set_option linter.all false
namespace Go.Proofs.Tryd
open Go Go.VM
set_option maxRecDepth 100000

theorem whN_ok (s : ByteArray) (l : List Int) : ∀ n : Nat, n ≤ s.size → (s.size : Int) - n ≤ whN s l n ∧ whN s l n ≤ s.size ∧ ∀ j : Int, (s.size : Int) - n ≤ j → j < whN s l n → isOfL (byteAt s j) l = true
  | 0, _ => by
    simp only [whN]
    exact ⟨by omega, by omega, fun j h1 h2 => by omega⟩
  | n + 1, hn => by
    obtain ⟨i1, i2, i3⟩ := whN_ok s l n (by omega)
    simp only [whN]
    split
    · rename_i hb
      refine ⟨by omega, i2, fun j h1 h2 => ?_⟩
      by_cases e : j = (s.size : Int) - (n + 1 : Nat)
      · rw [e]; exact hb
      · exact i3 j (by omega) h2
    · exact ⟨by omega, by omega, fun j h1 h2 => by omega⟩
theorem whil_dig (rest : ByteArray) (h0 : 0 < rest.size) (h1 : rest.size ≤ 1000000) (hc : cls (byteAt rest 0) = 5) : pDigF (whilF rest [5]) := by
  obtain ⟨i1, i2, i3⟩ := whN_ok rest [5] rest.size (Nat.le_refl _)
  have hpos : 0 < whN rest [5] rest.size := by
    obtain ⟨n, hn⟩ : ∃ n, rest.size = n + 1 := ⟨rest.size - 1, by omega⟩
    obtain ⟨j1, _, _⟩ := whN_ok rest [5] n (by omega)
    rw [hn]
    simp only [whN]
    have e : (rest.size : Int) - (n + 1 : Nat) = 0 := by omega
    rw [e, if_pos (by simp [isOfL, contL, indexL, hc])]
    omega
  have hsz := ext_size rest 0 (whN rest [5] rest.size).toNat
  unfold whilF
  refine ⟨by omega, by omega, fun j g0 g1 => ?_⟩
  rw [byteAt_ext g0 (by omega)]
  have := i3 j (by omega) (by omega)
  rw [isOf5, Bool.false_and, Bool.or_false] at this
  simpa using this
end Go.Proofs.Tryd
set_option autoImplicit false
set_option linter.all false
namespace Go.Proofs.Tryd
open Go Go.VM
set_option maxRecDepth 100000
/-- Some functions by their bodies, the others by a table. -/
def inlT : List (Nat × FnD) → (FuncId → FT) → FuncId → FT
  | [], b, x => b x
  | (g, d) :: r, b, x => match Nat.beq x g with
    | true => .inl d
    | false => inlT r b x
noncomputable def vcI (L : Lv) (F : LexF) (l : List Nat) (inl : List (Nat × FnD)) (n : Nat) (d : FnD) (sp : VM.Spec) (x : Ds sp.ins) : VC := contractVC L E01 (callG L E01 (inlT inl (fOnly F l)) n) (spcOf (inlT inl (fOnly F l))) d sp x
abbrev Bt : Ty := .sl (.int .u8)
def a64 (L : Lv) (I : Ds [It, Bt] → Prop) (mu : Ds [It, Bt] → Nat) : Nat → LAnn
  | 0 => anH L [0, 3, 6, 7, 8] [(3, some 1, 5, .int .u8)] [.s 8 It, .br 3 1 (.int .u8)] I mu
  | _ => .no
def a64u : Nat → LAnn
  | 0 => .un 1
  | _ => .no
def n88 (L : Lv) (F : LexF) (s : ByteArray)  : VC :=
 VC.obl (LexF.pDig F s)
 (VC.br (LexF.atoiOk F s)
 (VC.br (Lv.cmp L BinOp.leq (LexF.atoiVal F s) 1000000000)
 (VC.obl (Int.negSucc 9223372036854775807 ≤ LexF.atoiVal F s ∧ LexF.atoiVal F s ≤ 9223372036854775807)
 (VC.br (Lv.scmp L BinOp.eql (LexF.itoa F (LexF.atoiVal F s)) s) (VC.ok ((true, ()) = (LexF.isNum F s, ()))) (VC.ok ((false, ()) = (LexF.isNum F s, ())))))
 (VC.ok ((false, ()) = (LexF.isNum F s, ()))))
 (VC.ok ((false, ()) = (LexF.isNum F s, ()))))
theorem n88_eq (L : Lv) (F : LexF) (s : ByteArray) : vcO L F [115, 116] (D88 a0) (S88 F) (s, ()) = n88 L F s := by kernel_rfl
theorem n88_go (L : Lv) (F : LexF) (s : ByteArray) (h : VC.holds (n88 L F s)) : Holds (vcO L F [115, 116] (D88 a0) (S88 F) (s, ())) := Holds.of_eq (n88_eq L F s) h
def n64 (L : Lv) (F : LexF) (I : Ds [It, Bt] → Prop) (mu : Ds [It, Bt] → Nat) (l : List Lx)  : VC :=
 VC.obl
 (St.mk 30
 [(0, V.c (C.sl Lt l)), (3, V.c (C.ptr 1 0)),
 (6, V.c (C.sl Lt l)),
 (7, V.c (C.int IntKind.i64 (Lv.cast L (Lv.llen L Lt l)))), (8, V.c (C.int IntKind.i64 0))]
 [(0, Ob.amb), (1, Ob.box 108 [C.selfp 1, C.own 3 0]), (3, Ob.row 5 (Ty.int IntKind.u8) [])] 4 =
 St.mk 30
 [(0, V.c (C.sl Lt l)), (3, V.c (C.ptr 1 0)),
 (6, V.c (C.sl Lt l)),
 (7, V.c (C.int IntKind.i64 (Lv.cast L (Lv.llen L Lt l)))), (8, V.c (C.int IntKind.i64 0))]
 [(0, Ob.amb), (1, Ob.box 108 [C.selfp 1, C.own 3 (Lv.llen L (Ty.int IntKind.u8) [])]), (3, Ob.row 5 (Ty.int IntKind.u8) [])] 4)
 (VC.obl (I (0, [], ()))
 (VC.all (Int × List Int × Unit) fun (x : Int × List Int × Unit) =>
 VC.imp (I x)
 (VC.br (Lv.cmp L BinOp.lss (Prod.fst x) (Lv.cast L (Lv.llen L Lt l)))
 (VC.obl (Lv.inR L (Prod.fst x) (Lv.llen L Lt l))
 (VC.br (Lv.cmp L BinOp.gtr (Prod.fst x) 0)
 (VC.obl (Lv.inR L (Lv.ar L BinOp.sub IntKind.i64 (Prod.fst x) 1) (Lv.llen L Lt l))
 (VC.obl
 (LexF.pLx2 F
 (Prod.fst (Lv.get L Lt l (Lv.toN L (Lv.ar L BinOp.sub IntKind.i64 (Prod.fst x) 1))),
 Prod.fst (Prod.snd (Lv.get L Lt l (Lv.toN L (Lv.ar L BinOp.sub IntKind.i64 (Prod.fst x) 1)))),
 Prod.snd (Prod.snd (Lv.get L Lt l (Lv.toN L (Lv.ar L BinOp.sub IntKind.i64 (Prod.fst x) 1)))))
 (Prod.fst (Lv.get L Lt l (Lv.toN L (Prod.fst x))),
 Prod.fst (Prod.snd (Lv.get L Lt l (Lv.toN L (Prod.fst x)))),
 Prod.snd (Prod.snd (Lv.get L Lt l (Lv.toN L (Prod.fst x))))))
 (VC.br
 (LexF.needBlank F
 (Prod.fst (Lv.get L Lt l (Lv.toN L (Lv.ar L BinOp.sub IntKind.i64 (Prod.fst x) 1))),
 Prod.fst (Prod.snd (Lv.get L Lt l (Lv.toN L (Lv.ar L BinOp.sub IntKind.i64 (Prod.fst x) 1)))),
 Prod.snd (Prod.snd (Lv.get L Lt l (Lv.toN L (Lv.ar L BinOp.sub IntKind.i64 (Prod.fst x) 1)))))
 (Prod.fst (Lv.get L Lt l (Lv.toN L (Prod.fst x))),
 Prod.fst (Prod.snd (Lv.get L Lt l (Lv.toN L (Prod.fst x)))),
 Prod.snd (Prod.snd (Lv.get L Lt l (Lv.toN L (Prod.fst x))))))
 (VC.obl
 (Lv.room L
 (Lv.add L (Lv.llen L (Ty.int IntKind.u8) (Lv.take L (Ty.int IntKind.u8) (Prod.fst (Prod.snd x)) (Lv.llen L (Ty.int IntKind.u8) (Prod.fst (Prod.snd x)))))
 (Lv.llen L (Ty.int IntKind.u8) (Lv.take L (Ty.int IntKind.u8) [32] 1)))
 1)
 (VC.obl
 (Lv.room L
 (Lv.add L
 (Lv.llen L (Ty.int IntKind.u8)
 (Lv.take L (Ty.int IntKind.u8)
 (Lv.app L (Ty.int IntKind.u8) (Lv.take L (Ty.int IntKind.u8) (Prod.fst (Prod.snd x)) (Lv.llen L (Ty.int IntKind.u8) (Prod.fst (Prod.snd x))))
 (Lv.take L (Ty.int IntKind.u8) [32] 1))
 (Lv.add L (Lv.llen L (Ty.int IntKind.u8) (Lv.take L (Ty.int IntKind.u8) (Prod.fst (Prod.snd x)) (Lv.llen L (Ty.int IntKind.u8) (Prod.fst (Prod.snd x)))))
 (Lv.llen L (Ty.int IntKind.u8) (Lv.take L (Ty.int IntKind.u8) [32] 1)))))
 (Lv.llen L (Ty.int IntKind.u8) (Lv.bytes L (Prod.fst (Prod.snd (Lv.get L Lt l (Lv.toN L (Prod.fst x))))))))
 1)
 (VC.ok
 (St.mk 30
 [(0, V.c (C.sl Lt l)), (3, V.c (C.ptr 1 0)),
 (6, V.c (C.sl Lt l)),
 (7, V.c (C.int IntKind.i64 (Lv.cast L (Lv.llen L Lt l)))),
 (8, V.c (C.int IntKind.i64 (Lv.ar L BinOp.add IntKind.i64 (Prod.fst x) 1)))]
 [(0, Ob.amb),
 (1,
 Ob.box 108
 [C.selfp 1,
 C.own 3
 (Lv.add L
 (Lv.llen L (Ty.int IntKind.u8)
 (Lv.take L (Ty.int IntKind.u8)
 (Lv.app L (Ty.int IntKind.u8) (Lv.take L (Ty.int IntKind.u8) (Prod.fst (Prod.snd x)) (Lv.llen L (Ty.int IntKind.u8) (Prod.fst (Prod.snd x))))
 (Lv.take L (Ty.int IntKind.u8) [32] 1))
 (Lv.add L
 (Lv.llen L (Ty.int IntKind.u8) (Lv.take L (Ty.int IntKind.u8) (Prod.fst (Prod.snd x)) (Lv.llen L (Ty.int IntKind.u8) (Prod.fst (Prod.snd x)))))
 (Lv.llen L (Ty.int IntKind.u8) (Lv.take L (Ty.int IntKind.u8) [32] 1)))))
 (Lv.llen L (Ty.int IntKind.u8)
 (Lv.bytes L (Prod.fst (Prod.snd (Lv.get L Lt l (Lv.toN L (Prod.fst x))))))))]),
 (3,
 Ob.row 5 (Ty.int IntKind.u8)
 (Lv.app L (Ty.int IntKind.u8)
 (Lv.take L (Ty.int IntKind.u8)
 (Lv.app L (Ty.int IntKind.u8) (Lv.take L (Ty.int IntKind.u8) (Prod.fst (Prod.snd x)) (Lv.llen L (Ty.int IntKind.u8) (Prod.fst (Prod.snd x))))
 (Lv.take L (Ty.int IntKind.u8) [32] 1))
 (Lv.add L (Lv.llen L (Ty.int IntKind.u8) (Lv.take L (Ty.int IntKind.u8) (Prod.fst (Prod.snd x)) (Lv.llen L (Ty.int IntKind.u8) (Prod.fst (Prod.snd x)))))
 (Lv.llen L (Ty.int IntKind.u8) (Lv.take L (Ty.int IntKind.u8) [32] 1))))
 (Lv.bytes L (Prod.fst (Prod.snd (Lv.get L Lt l (Lv.toN L (Prod.fst x))))))))]
 4 =
 St.mk 30
 [(0, V.c (C.sl Lt l)), (3, V.c (C.ptr 1 0)),
 (6, V.c (C.sl Lt l)),
 (7, V.c (C.int IntKind.i64 (Lv.cast L (Lv.llen L Lt l)))),
 (8, V.c (C.int IntKind.i64 (Lv.ar L BinOp.add IntKind.i64 (Prod.fst x) 1)))]
 [(0, Ob.amb),
 (1,
 Ob.box 108
 [C.selfp 1,
 C.own 3
 (Lv.llen L (Ty.int IntKind.u8)
 (Lv.app L (Ty.int IntKind.u8)
 (Lv.take L (Ty.int IntKind.u8)
 (Lv.app L (Ty.int IntKind.u8) (Lv.take L (Ty.int IntKind.u8) (Prod.fst (Prod.snd x)) (Lv.llen L (Ty.int IntKind.u8) (Prod.fst (Prod.snd x))))
 (Lv.take L (Ty.int IntKind.u8) [32] 1))
 (Lv.add L
 (Lv.llen L (Ty.int IntKind.u8) (Lv.take L (Ty.int IntKind.u8) (Prod.fst (Prod.snd x)) (Lv.llen L (Ty.int IntKind.u8) (Prod.fst (Prod.snd x)))))
 (Lv.llen L (Ty.int IntKind.u8) (Lv.take L (Ty.int IntKind.u8) [32] 1))))
 (Lv.bytes L (Prod.fst (Prod.snd (Lv.get L Lt l (Lv.toN L (Prod.fst x))))))))]),
 (3,
 Ob.row 5 (Ty.int IntKind.u8)
 (Lv.app L (Ty.int IntKind.u8)
 (Lv.take L (Ty.int IntKind.u8)
 (Lv.app L (Ty.int IntKind.u8) (Lv.take L (Ty.int IntKind.u8) (Prod.fst (Prod.snd x)) (Lv.llen L (Ty.int IntKind.u8) (Prod.fst (Prod.snd x))))
 (Lv.take L (Ty.int IntKind.u8) [32] 1))
 (Lv.add L (Lv.llen L (Ty.int IntKind.u8) (Lv.take L (Ty.int IntKind.u8) (Prod.fst (Prod.snd x)) (Lv.llen L (Ty.int IntKind.u8) (Prod.fst (Prod.snd x)))))
 (Lv.llen L (Ty.int IntKind.u8) (Lv.take L (Ty.int IntKind.u8) [32] 1))))
 (Lv.bytes L (Prod.fst (Prod.snd (Lv.get L Lt l (Lv.toN L (Prod.fst x))))))))]
 4 ∧
 I
 (Lv.ar L BinOp.add IntKind.i64 (Prod.fst x) 1,
 Lv.app L (Ty.int IntKind.u8)
 (Lv.take L (Ty.int IntKind.u8)
 (Lv.app L (Ty.int IntKind.u8) (Lv.take L (Ty.int IntKind.u8) (Prod.fst (Prod.snd x)) (Lv.llen L (Ty.int IntKind.u8) (Prod.fst (Prod.snd x))))
 (Lv.take L (Ty.int IntKind.u8) [32] 1))
 (Lv.add L (Lv.llen L (Ty.int IntKind.u8) (Lv.take L (Ty.int IntKind.u8) (Prod.fst (Prod.snd x)) (Lv.llen L (Ty.int IntKind.u8) (Prod.fst (Prod.snd x)))))
 (Lv.llen L (Ty.int IntKind.u8) (Lv.take L (Ty.int IntKind.u8) [32] 1))))
 (Lv.bytes L (Prod.fst (Prod.snd (Lv.get L Lt l (Lv.toN L (Prod.fst x)))))),
 ()) ∧
 mu
 (Lv.ar L BinOp.add IntKind.i64 (Prod.fst x) 1,
 Lv.app L (Ty.int IntKind.u8)
 (Lv.take L (Ty.int IntKind.u8)
 (Lv.app L (Ty.int IntKind.u8) (Lv.take L (Ty.int IntKind.u8) (Prod.fst (Prod.snd x)) (Lv.llen L (Ty.int IntKind.u8) (Prod.fst (Prod.snd x))))
 (Lv.take L (Ty.int IntKind.u8) [32] 1))
 (Lv.add L (Lv.llen L (Ty.int IntKind.u8) (Lv.take L (Ty.int IntKind.u8) (Prod.fst (Prod.snd x)) (Lv.llen L (Ty.int IntKind.u8) (Prod.fst (Prod.snd x)))))
 (Lv.llen L (Ty.int IntKind.u8) (Lv.take L (Ty.int IntKind.u8) [32] 1))))
 (Lv.bytes L (Prod.fst (Prod.snd (Lv.get L Lt l (Lv.toN L (Prod.fst x)))))),
 ()) <
 mu x))))
 (VC.obl
 (Lv.room L
 (Lv.add L (Lv.llen L (Ty.int IntKind.u8) (Lv.take L (Ty.int IntKind.u8) (Prod.fst (Prod.snd x)) (Lv.llen L (Ty.int IntKind.u8) (Prod.fst (Prod.snd x)))))
 (Lv.llen L (Ty.int IntKind.u8) (Lv.bytes L (Prod.fst (Prod.snd (Lv.get L Lt l (Lv.toN L (Prod.fst x))))))))
 1)
 (VC.ok
 (St.mk 30
 [(0, V.c (C.sl Lt l)), (3, V.c (C.ptr 1 0)),
 (6, V.c (C.sl Lt l)),
 (7, V.c (C.int IntKind.i64 (Lv.cast L (Lv.llen L Lt l)))),
 (8, V.c (C.int IntKind.i64 (Lv.ar L BinOp.add IntKind.i64 (Prod.fst x) 1)))]
 [(0, Ob.amb),
 (1,
 Ob.box 108
 [C.selfp 1,
 C.own 3
 (Lv.add L (Lv.llen L (Ty.int IntKind.u8) (Lv.take L (Ty.int IntKind.u8) (Prod.fst (Prod.snd x)) (Lv.llen L (Ty.int IntKind.u8) (Prod.fst (Prod.snd x)))))
 (Lv.llen L (Ty.int IntKind.u8)
 (Lv.bytes L (Prod.fst (Prod.snd (Lv.get L Lt l (Lv.toN L (Prod.fst x))))))))]),
 (3,
 Ob.row 5 (Ty.int IntKind.u8)
 (Lv.app L (Ty.int IntKind.u8) (Lv.take L (Ty.int IntKind.u8) (Prod.fst (Prod.snd x)) (Lv.llen L (Ty.int IntKind.u8) (Prod.fst (Prod.snd x))))
 (Lv.bytes L (Prod.fst (Prod.snd (Lv.get L Lt l (Lv.toN L (Prod.fst x))))))))]
 4 =
 St.mk 30
 [(0, V.c (C.sl Lt l)), (3, V.c (C.ptr 1 0)),
 (6, V.c (C.sl Lt l)),
 (7, V.c (C.int IntKind.i64 (Lv.cast L (Lv.llen L Lt l)))),
 (8, V.c (C.int IntKind.i64 (Lv.ar L BinOp.add IntKind.i64 (Prod.fst x) 1)))]
 [(0, Ob.amb),
 (1,
 Ob.box 108
 [C.selfp 1,
 C.own 3
 (Lv.llen L (Ty.int IntKind.u8)
 (Lv.app L (Ty.int IntKind.u8) (Lv.take L (Ty.int IntKind.u8) (Prod.fst (Prod.snd x)) (Lv.llen L (Ty.int IntKind.u8) (Prod.fst (Prod.snd x))))
 (Lv.bytes L (Prod.fst (Prod.snd (Lv.get L Lt l (Lv.toN L (Prod.fst x))))))))]),
 (3,
 Ob.row 5 (Ty.int IntKind.u8)
 (Lv.app L (Ty.int IntKind.u8) (Lv.take L (Ty.int IntKind.u8) (Prod.fst (Prod.snd x)) (Lv.llen L (Ty.int IntKind.u8) (Prod.fst (Prod.snd x))))
 (Lv.bytes L (Prod.fst (Prod.snd (Lv.get L Lt l (Lv.toN L (Prod.fst x))))))))]
 4 ∧
 I
 (Lv.ar L BinOp.add IntKind.i64 (Prod.fst x) 1,
 Lv.app L (Ty.int IntKind.u8) (Lv.take L (Ty.int IntKind.u8) (Prod.fst (Prod.snd x)) (Lv.llen L (Ty.int IntKind.u8) (Prod.fst (Prod.snd x))))
 (Lv.bytes L (Prod.fst (Prod.snd (Lv.get L Lt l (Lv.toN L (Prod.fst x)))))),
 ()) ∧
 mu
 (Lv.ar L BinOp.add IntKind.i64 (Prod.fst x) 1,
 Lv.app L (Ty.int IntKind.u8) (Lv.take L (Ty.int IntKind.u8) (Prod.fst (Prod.snd x)) (Lv.llen L (Ty.int IntKind.u8) (Prod.fst (Prod.snd x))))
 (Lv.bytes L (Prod.fst (Prod.snd (Lv.get L Lt l (Lv.toN L (Prod.fst x)))))),
 ()) <
 mu x))))))
 (VC.obl
 (Lv.room L
 (Lv.add L (Lv.llen L (Ty.int IntKind.u8) (Lv.take L (Ty.int IntKind.u8) (Prod.fst (Prod.snd x)) (Lv.llen L (Ty.int IntKind.u8) (Prod.fst (Prod.snd x)))))
 (Lv.llen L (Ty.int IntKind.u8) (Lv.bytes L (Prod.fst (Prod.snd (Lv.get L Lt l (Lv.toN L (Prod.fst x))))))))
 1)
 (VC.ok
 (St.mk 30
 [(0, V.c (C.sl Lt l)), (3, V.c (C.ptr 1 0)),
 (6, V.c (C.sl Lt l)),
 (7, V.c (C.int IntKind.i64 (Lv.cast L (Lv.llen L Lt l)))),
 (8, V.c (C.int IntKind.i64 (Lv.ar L BinOp.add IntKind.i64 (Prod.fst x) 1)))]
 [(0, Ob.amb),
 (1,
 Ob.box 108
 [C.selfp 1,
 C.own 3
 (Lv.add L (Lv.llen L (Ty.int IntKind.u8) (Lv.take L (Ty.int IntKind.u8) (Prod.fst (Prod.snd x)) (Lv.llen L (Ty.int IntKind.u8) (Prod.fst (Prod.snd x)))))
 (Lv.llen L (Ty.int IntKind.u8)
 (Lv.bytes L (Prod.fst (Prod.snd (Lv.get L Lt l (Lv.toN L (Prod.fst x))))))))]),
 (3,
 Ob.row 5 (Ty.int IntKind.u8)
 (Lv.app L (Ty.int IntKind.u8) (Lv.take L (Ty.int IntKind.u8) (Prod.fst (Prod.snd x)) (Lv.llen L (Ty.int IntKind.u8) (Prod.fst (Prod.snd x))))
 (Lv.bytes L (Prod.fst (Prod.snd (Lv.get L Lt l (Lv.toN L (Prod.fst x))))))))]
 4 =
 St.mk 30
 [(0, V.c (C.sl Lt l)), (3, V.c (C.ptr 1 0)),
 (6, V.c (C.sl Lt l)),
 (7, V.c (C.int IntKind.i64 (Lv.cast L (Lv.llen L Lt l)))),
 (8, V.c (C.int IntKind.i64 (Lv.ar L BinOp.add IntKind.i64 (Prod.fst x) 1)))]
 [(0, Ob.amb),
 (1,
 Ob.box 108
 [C.selfp 1,
 C.own 3
 (Lv.llen L (Ty.int IntKind.u8)
 (Lv.app L (Ty.int IntKind.u8) (Lv.take L (Ty.int IntKind.u8) (Prod.fst (Prod.snd x)) (Lv.llen L (Ty.int IntKind.u8) (Prod.fst (Prod.snd x))))
 (Lv.bytes L (Prod.fst (Prod.snd (Lv.get L Lt l (Lv.toN L (Prod.fst x))))))))]),
 (3,
 Ob.row 5 (Ty.int IntKind.u8)
 (Lv.app L (Ty.int IntKind.u8) (Lv.take L (Ty.int IntKind.u8) (Prod.fst (Prod.snd x)) (Lv.llen L (Ty.int IntKind.u8) (Prod.fst (Prod.snd x))))
 (Lv.bytes L (Prod.fst (Prod.snd (Lv.get L Lt l (Lv.toN L (Prod.fst x))))))))]
 4 ∧
 I
 (Lv.ar L BinOp.add IntKind.i64 (Prod.fst x) 1,
 Lv.app L (Ty.int IntKind.u8) (Lv.take L (Ty.int IntKind.u8) (Prod.fst (Prod.snd x)) (Lv.llen L (Ty.int IntKind.u8) (Prod.fst (Prod.snd x))))
 (Lv.bytes L (Prod.fst (Prod.snd (Lv.get L Lt l (Lv.toN L (Prod.fst x)))))),
 ()) ∧
 mu
 (Lv.ar L BinOp.add IntKind.i64 (Prod.fst x) 1,
 Lv.app L (Ty.int IntKind.u8) (Lv.take L (Ty.int IntKind.u8) (Prod.fst (Prod.snd x)) (Lv.llen L (Ty.int IntKind.u8) (Prod.fst (Prod.snd x))))
 (Lv.bytes L (Prod.fst (Prod.snd (Lv.get L Lt l (Lv.toN L (Prod.fst x)))))),
 ()) <
 mu x)))))
 (VC.obl
 (0 < Lv.llen L (Ty.int IntKind.u8) (Prod.fst (Prod.snd x)) ∧
 Lv.llen L (Ty.int IntKind.u8) (Prod.fst (Prod.snd x)) ≤ 4611686018427387904 ∧ ∀ (x_1 : Ty.D (Ty.int IntKind.u8)), x_1 ∈ Prod.fst (Prod.snd x) → 0 ≤ x_1 ∧ x_1 < 256)
 (VC.ok ((Lv.strOf L (Lv.take L (Ty.int IntKind.u8) (Prod.fst (Prod.snd x)) (Lv.llen L (Ty.int IntKind.u8) (Prod.fst (Prod.snd x)))), ()) = (LexF.bare F l, ())))))))
theorem n64_eq (L : Lv) (F : LexF) (I : Ds [It, Bt] → Prop) (mu : Ds [It, Bt] → Nat) (l : List Lx) : vcI L F [97, 100, 118] [(98, D98 a0), (99, D99 a0)] 1 (D64 (a64 L I mu)) (S64 F) (l, ()) = n64 L F I mu l := by kernel_rfl
theorem n64_go (L : Lv) (F : LexF) (I : Ds [It, Bt] → Prop) (mu : Ds [It, Bt] → Nat) (l : List Lx) (h : VC.holds (n64 L F I mu l)) : Holds (vcI L F [97, 100, 118] [(98, D98 a0), (99, D99 a0)] 1 (D64 (a64 L I mu)) (S64 F) (l, ())) := Holds.of_eq (n64_eq L F I mu l) h
def n64e (L : Lv) (F : LexF)  : VC :=
 VC.br (Lv.cmp L BinOp.lss 0 (Lv.cast L (Lv.llen L Lt [])))
 (VC.obl (Lv.inR L 0 (Lv.llen L Lt []))
 (VC.br (Lv.cmp L BinOp.gtr 0 0)
 (VC.obl (Lv.inR L (Lv.ar L BinOp.sub IntKind.i64 0 1) (Lv.llen L Lt []))
 (VC.obl
 (LexF.pLx2 F
 (Prod.fst (Lv.get L Lt [] (Lv.toN L (Lv.ar L BinOp.sub IntKind.i64 0 1))),
 Prod.fst (Prod.snd (Lv.get L Lt [] (Lv.toN L (Lv.ar L BinOp.sub IntKind.i64 0 1)))),
 Prod.snd (Prod.snd (Lv.get L Lt [] (Lv.toN L (Lv.ar L BinOp.sub IntKind.i64 0 1)))))
 (Prod.fst (Lv.get L Lt [] (Lv.toN L 0)),
 Prod.fst (Prod.snd (Lv.get L Lt [] (Lv.toN L 0))),
 Prod.snd (Prod.snd (Lv.get L Lt [] (Lv.toN L 0)))))
 (VC.br
 (LexF.needBlank F
 (Prod.fst (Lv.get L Lt [] (Lv.toN L (Lv.ar L BinOp.sub IntKind.i64 0 1))),
 Prod.fst (Prod.snd (Lv.get L Lt [] (Lv.toN L (Lv.ar L BinOp.sub IntKind.i64 0 1)))),
 Prod.snd (Prod.snd (Lv.get L Lt [] (Lv.toN L (Lv.ar L BinOp.sub IntKind.i64 0 1)))))
 (Prod.fst (Lv.get L Lt [] (Lv.toN L 0)),
 Prod.fst (Prod.snd (Lv.get L Lt [] (Lv.toN L 0))),
 Prod.snd (Prod.snd (Lv.get L Lt [] (Lv.toN L 0)))))
 (VC.obl (Lv.room L (Lv.add L (Lv.llen L (Ty.int IntKind.u8) []) (Lv.llen L (Ty.int IntKind.u8) (Lv.take L (Ty.int IntKind.u8) [32] 1))) 1)
 (VC.obl
 (Lv.room L
 (Lv.add L
 (Lv.llen L (Ty.int IntKind.u8)
 (Lv.take L (Ty.int IntKind.u8) (Lv.app L (Ty.int IntKind.u8) [] (Lv.take L (Ty.int IntKind.u8) [32] 1))
 (Lv.add L (Lv.llen L (Ty.int IntKind.u8) []) (Lv.llen L (Ty.int IntKind.u8) (Lv.take L (Ty.int IntKind.u8) [32] 1)))))
 (Lv.llen L (Ty.int IntKind.u8) (Lv.bytes L (Prod.fst (Prod.snd (Lv.get L Lt [] (Lv.toN L 0)))))))
 1)
 VC.bad))
 (VC.obl
 (Lv.room L
 (Lv.add L (Lv.llen L (Ty.int IntKind.u8) [])
 (Lv.llen L (Ty.int IntKind.u8) (Lv.bytes L (Prod.fst (Prod.snd (Lv.get L Lt [] (Lv.toN L 0)))))))
 1)
 VC.bad))))
 (VC.obl
 (Lv.room L
 (Lv.add L (Lv.llen L (Ty.int IntKind.u8) [])
 (Lv.llen L (Ty.int IntKind.u8) (Lv.bytes L (Prod.fst (Prod.snd (Lv.get L Lt [] (Lv.toN L 0)))))))
 1)
 VC.bad)))
 (VC.ok ((ByteArray.empty, ()) = (LexF.bare F [], ())))
theorem n64e_eq (L : Lv) (F : LexF) : vcI L F [97, 100, 118] [(98, D98 a0), (99, D99 a0)] 1 (D64 a64u) (S64 F) ([], ()) = n64e L F := by kernel_rfl
theorem n64e_go (L : Lv) (F : LexF) (h : VC.holds (n64e L F)) : Holds (vcI L F [97, 100, 118] [(98, D98 a0), (99, D99 a0)] 1 (D64 a64u) (S64 F) ([], ())) := Holds.of_eq (n64e_eq L F) h

theorem inlT_ok : ∀ (l : List (Nat × FnD)) (b : FuncId → FT), (∀ p ∈ l, FnOk prog p.1 p.2) → TableOk prog b → TableOk prog (inlT l b)
  | [], b, _, hb => hb
  | (g, d) :: r, b, hl, hb => by
    intro x
    cases hm : Nat.beq x g with
    | true =>
      have e : inlT ((g, d) :: r) b x = .inl d := by unfold inlT; rw [hm]
      rw [e]
      have := Nat.eq_of_beq_eq_true hm
      subst this
      exact hl (x, d) (by simp)
    | false =>
      have e : inlT ((g, d) :: r) b x = inlT r b x := by show (match Nat.beq x g with | true => FT.inl d | false => inlT r b x) = _; rw [hm]
      rw [e]
      exact inlT_ok r b (fun p hp => hl p (by simp [hp])) hb x
theorem has115 : Has prog 115 := (fnok115 a0).has
theorem dig_ne {s : ByteArray} (h : 0 < s.size) : s.data.toList ≠ [] := fun e => by
  have : s.data.toList.length = s.size := by rw [Array.length_toList]; rfl
  rw [e] at this
  simp at this
  omega
theorem x115 : XOk prog 115 (atoiX pDigF atoiOkF atoiValF) := by
  refine atoiX_ok has115 (fun s w hp ho => ?_) (fun s w hG hp ho => ?_)
  · obtain ⟨h0, h1, h2⟩ := hp
    unfold atoiOkF at ho
    unfold atoiValF
    cases ha : Lib.atoiAll s.data.toList with
    | ok v =>
      refine (strconv_Atoi_ok s (by omega) v ha w).mono fun e w' he => ?_
      obtain ⟨rfl, hw⟩ := he
      refine ⟨rfl, ?_⟩
      rcases hw with rfl | ⟨t, rfl⟩
      · exact Go.RowKit.Below.refl _ _
      · exact Lib.bytesWorld_below _ _ _
    | _ => rw [ha] at ho; cases ho
  · obtain ⟨h0, h1, h2⟩ := hp
    have hA := atoi_val s.data.toList (dig_ne h0) (bytes_dig h2)
    have hr : Lib.atoiAll s.data.toList = .range := by
      rw [hA]
      unfold atoiOkF at ho
      rw [hA] at ho
      split at ho
      · cases ho
      · rename_i hx
        split
        · rename_i hlt; exact absurd (if_pos hlt) (hx _)
        · rfl
    obtain ⟨ev, hv, hev⟩ := hG.v2
    refine (strconv_Atoi_range s (by omega) hr ev w hv hev).mono fun e w' he => ?_
    obtain ⟨N, rfl, _, _, hb⟩ := he
    exact ⟨⟨_, _, _, rfl⟩, hb⟩
theorem has116 : Has prog 116 := ⟨f116, func116, by kernel_rfl, by kernel_rfl⟩
theorem tab_of {w : World} (h : glW w) : Lib.TabIs prog w "internal/strconv.uint64pow10" .u64 Lib.pow10Tab := by
  obtain ⟨t, fr, h5⟩ := h.tab
  unfold Lib.TabIs World.var?
  rw [show prog.globalNamed "internal/strconv.uint64pow10" = some 5 by kernel_rfl]
  show (match w.heap[5]? with | some (.cells cs _ _) => some cs | _ => none) = _
  rw [h5]
theorem below_grow' (w : World) (k : Nat) (os : Array Obj) : Go.RowKit.Below w.heap.size w (Go.Sort.grow (w.drewN k) os) :=
  ⟨rfl, rfl, rfl, by show w.heap.size ≤ (w.heap ++ os).size; rw [Array.size_append]; omega, fun b hb => by show (w.heap ++ os)[b]? = w.heap[b]?; rw [Array.getElem?_append_left hb]⟩
theorem ok116 (F : LexF) (h : F.itoa = itoaF) : SpecOk prog 116 (S116 F) := by
  refine ⟨has116, fun ok w vs x hG hK hpre => ?_⟩
  obtain ⟨n, ⟨⟩⟩ := x
  match vs, hK with
  | [v], hK => ?_
  obtain rfl : v = .int .i64 n := by
    have := hK.1
    simp only [KV, Ty.agg, K, List.cons.injEq, and_true] at this
    simpa using this
  refine (strconv_Itoa n hpre.1 hpre.2 w (tab_of hG.1)).mono fun e w' he => ?_
  obtain ⟨rfl, k, os, rfl⟩ := he
  refine ⟨_, rfl, below_grow' w k os, ?_⟩
  show KV _ _ .str (F.itoa n) _
  rw [h]
  simp only [KV, Ty.agg, K]
  rfl
theorem ok88 (F : LexF) (hd : F.pDig = pDigF) (h : F.isNum = isNumF) (ho : F.atoiOk = atoiOkF) (hv : F.atoiVal = atoiValF) (hi : F.itoa = itoaF) : SpecOk prog 88 (S88 F) := by
  refine contract_by hm hE D88 fnok88 _ fun (z : ByteArray × Unit) hpre => ?_
  obtain ⟨s, ⟨⟩⟩ := z
  have hp : F.pDig s := hpre
  have hp' := hp
  rw [hd] at hp'
  obtain ⟨g1, g2, g3⟩ := hp'
  refine pack _ 0 a0 (only_ok (F := F) (l := [115, 116]) (by simp only [List.forall_mem_cons]; exact ⟨at_x (x := atoiX F.pDig F.atoiOk F.atoiVal) (by rw [hd, ho, hv]; exact x115) (by kernel_rfl), at_ok (ok116 F hi) (by kernel_rfl), fun _ h => by cases h⟩)) ?_
  refine n88_go Lv.std F s ?_
  have hlaw := isNum_law s g1 g3
  simp only [n88, VC.holds, std_cmp, std_scmp, std_ar_add, std_ar_sub, std_ar_mul, std_ar, std_dv, std_shf, std_conv, std_mn, std_mx, std_beq, std_bnot, std_band, std_scat, std_byte, std_ext, std_slen, std_strOf, std_bytes, std_llen, std_get, std_setl, std_app, std_take, std_drop, std_rep, std_mhas, std_mval, std_mput, std_cast, std_toN, std_sub, std_add, std_inR, std_le3, std_leN, std_ltN, std_ne0, std_nonneg, std_catOk, std_room, std_mkOk, cmp_lss_t, cmp_lss_f, cmp_leq_t, cmp_leq_f, cmp_gtr_t, cmp_gtr_f, cmp_geq_t, cmp_geq_f, cmp_eql_t, cmp_eql_f, cmp_neq_t, cmp_neq_f, scmp_eql_t, scmp_eql_f, scmp_neq_t, scmp_neq_f, dflt_int, dflt_bool, dflt_str, dflt_sl, dflt_pair, h, ho, hv, hi, Prod.mk.injEq, and_true, true_and]
  have hbd : atoiOkF s = true → Int.negSucc 9223372036854775807 ≤ atoiValF s ∧ atoiValF s ≤ 9223372036854775807 := fun hk => by
    unfold atoiOkF at hk
    unfold atoiValF
    cases ha : Lib.atoiAll s.data.toList with
    | ok v =>
      have := Lib.atoiAll_bounds ha
      simp only
      omega
    | _ => rw [ha] at hk; cases hk
  refine ⟨hp, fun h1 => ⟨fun h2 => ⟨hbd h1, fun h3 => ?_, fun h3 => ?_⟩, fun h2 => ?_⟩, fun h1 => ?_⟩
  · rw [hlaw, h1, decide_eq_true h2, decide_eq_true h3]; rfl
  · rw [hlaw, h1, decide_eq_true h2, decide_eq_false h3]; rfl
  · rw [hlaw, h1, decide_eq_false (by omega)]; rfl
  · rw [hlaw, h1]; rfl
/-! ### bytes as lists -/
theorem bytesOf_app (a b : ByteArray) : bytesOf (a ++ b) = bytesOf a ++ bytesOf b := by
  unfold bytesOf
  rw [← List.map_append, ByteArray.data_append, Array.toList_append]
theorem bytesOf_range (s : ByteArray) : ∀ x ∈ bytesOf s, (0 : Int) ≤ x ∧ x < 256 := by
  intro x hx
  unfold bytesOf at hx
  obtain ⟨b, _, rfl⟩ := List.mem_map.1 hx
  have := UInt8.toNat_lt b
  omega
theorem strOf_bytes (s : ByteArray) : strOfL (bytesOf s) = s := by
  apply ByteArray.ext
  unfold strOfL bytesOf
  show (List.map _ (List.map _ s.data.toList)).toArray = s.data
  rw [List.map_map]
  have e : ((fun n : Int => UInt8.ofNat n.toNat) ∘ fun b : UInt8 => (b.toNat : Int)) = id := by
    funext b; simp
  rw [e, List.map_id]
theorem ok64 (F : LexF) (hp : F.pTs = pTsF) (hl2 : F.pLx2 = pLx2F) (h : F.bare = bareF) (hn : F.needBlank = needF) (k1 : SpecOk prog 97 (S97 F)) : SpecOk prog 64 (S64 F) := by
  refine contract_by hm hE D64 fnok64 _ fun (z : List Lx × Unit) hpre => ?_
  obtain ⟨l, ⟨⟩⟩ := z
  have hpre' : F.pTs l := hpre
  rw [hp] at hpre'
  obtain ⟨g1, g2⟩ := hpre'
  have ht : TableOk prog (inlT [(98, D98 a0), (99, D99 a0)] (fOnly F [97, 100, 118])) := by
    refine inlT_ok _ _ ?_ (only_ok (F := F) (l := [97, 100, 118]) (by simp only [List.forall_mem_cons]; exact ⟨at_ok k1 (by kernel_rfl), at_x x100 (by kernel_rfl), at_x x118 (by kernel_rfl), fun _ h => by cases h⟩))
    simp only [List.forall_mem_cons]
    exact ⟨fnok98 a0, fnok99 a0, fun _ h => by cases h⟩
  by_cases he : l = []
  · subst he
    refine pack _ 1 a64u ht ?_
    refine n64e_go Lv.std F ?_
    simp only [n64e, VC.holds, std_cmp, std_scmp, std_ar_add, std_ar_sub, std_ar_mul, std_ar, std_dv, std_shf, std_conv, std_mn, std_mx, std_beq, std_bnot, std_band, std_scat, std_byte, std_ext, std_slen, std_strOf, std_bytes, std_llen, std_get, std_setl, std_app, std_take, std_drop, std_rep, std_mhas, std_mval, std_mput, std_cast, std_toN, std_sub, std_add, std_inR, std_le3, std_leN, std_ltN, std_ne0, std_nonneg, std_catOk, std_room, std_mkOk, cmp_lss_t, cmp_lss_f, cmp_leq_t, cmp_leq_f, cmp_gtr_t, cmp_gtr_f, cmp_geq_t, cmp_geq_f, cmp_eql_t, cmp_eql_f, cmp_neq_t, cmp_neq_f, scmp_eql_t, scmp_eql_f, scmp_neq_t, scmp_neq_f, dflt_int, dflt_bool, dflt_str, dflt_sl, dflt_pair, h, Prod.mk.injEq, and_true, true_and, List.length_nil]
    refine ⟨fun hx => by omega, fun _ => ?_⟩
    rfl
  · have hlen : 0 < l.length := List.length_pos_iff.2 he
    refine pack _ 1 (a64 Lv.std (fun (z : Int × List Int × Unit) => 0 ≤ z.1 ∧ z.1 ≤ l.length ∧ z.2.1 = bytesOf (bareF (l.take z.1.toNat))) (fun (z : Int × List Int × Unit) => (l.length - z.1).toNat)) ht ?_
    refine n64_go Lv.std F _ _ l ?_
    simp only [n64, VC.holds, std_cmp, std_scmp, std_ar_add, std_ar_sub, std_ar_mul, std_ar, std_dv, std_shf, std_conv, std_mn, std_mx, std_beq, std_bnot, std_band, std_scat, std_byte, std_ext, std_slen, std_strOf, std_bytes, std_llen, std_get, std_setl, std_app, std_take, std_drop, std_rep, std_mhas, std_mval, std_mput, std_cast, std_toN, std_sub, std_add, std_inR, std_le3, std_leN, std_ltN, std_ne0, std_nonneg, std_catOk, std_room, std_mkOk, cmp_lss_t, cmp_lss_f, cmp_leq_t, cmp_leq_f, cmp_gtr_t, cmp_gtr_f, cmp_geq_t, cmp_geq_f, cmp_eql_t, cmp_eql_f, cmp_neq_t, cmp_neq_f, scmp_eql_t, scmp_eql_f, scmp_neq_t, scmp_neq_f, dflt_int, dflt_bool, dflt_str, dflt_sl, dflt_pair, h, hn, hl2, Prod.mk.injEq, and_true, true_and, List.take_length]
    refine ⟨rfl, ⟨by omega, by omega, rfl⟩, ?_⟩
    have hl3 : ∀ x ∈ l, x.2.1.size ≤ 3000 := fun x hx => (g2 x hx).2
    have hl0 : ∀ x ∈ l, 0 < x.2.1.size := fun x hx => (g2 x hx).1
    rintro ⟨i, row, _⟩ ⟨h0, h1, hr⟩
    simp only at h0 h1 hr ⊢
    subst hr
    have e32 : List.take (α := Int) 1 [32] = [32] := rfl
    have hB := bare_size l hl3 i.toNat (by omega)
    have hB2 : i.toNat * 3001 ≤ 1000 * 3001 := Nat.mul_le_mul_right _ (by omega)
    have e33 : ∀ B : ByteArray, List.take (B.size + 1) (bytesOf B ++ [32]) = bytesOf B ++ [32] := fun B => List.take_of_length_le (by rw [List.length_append, bytes_len]; exact Nat.le_refl _)
    have e1 : ([32] : List Int).length = 1 := rfl
    simp only [e32, e1, e33, List.length_append, bytes_len]
    refine ⟨fun hlt => ⟨⟨h0, hlt⟩, fun hpos => ?_, fun hz => ?_⟩, fun hge => ?_⟩
    · obtain ⟨k, rfl⟩ : ∃ k : Nat, i = (k : Int) + 1 := ⟨i.toNat - 1, by omega⟩
      have ew : IntKind.i64.wrap ((k : Int) + 1 - 1) = k := by rw [wrap_i64 (by omega) (by omega)]; omega
      have ew2 : IntKind.i64.wrap ((k : Int) + 1 + 1) = (k : Int) + 2 := by rw [wrap_i64 (by omega) (by omega)]; omega
      have et : ((k : Int) + 1).toNat = k + 1 := by omega
      have et2 : ((k : Int) + 2).toNat = k + 2 := by omega
      have hk : k + 1 < l.length := by omega
      rw [et] at hB hB2
      simp only [ew, ew2, et, et2, Int.toNat_natCast, List.getElem?_eq_getElem hk, List.getElem?_eq_getElem (show k < l.length by omega), Option.getD_some]
      have q1 := g2 l[k] (List.getElem_mem _)
      have q2 := g2 l[k + 1] (List.getElem_mem _)
      refine ⟨⟨by omega, by omega⟩, ⟨q1.1, q1.2, q2.2⟩, fun hb => ⟨⟨by omega, by omega⟩, ⟨by omega, by omega⟩, trivial, ⟨by omega, by omega, ?_⟩, by omega⟩, fun hb => ⟨⟨by omega, by omega⟩, trivial, ⟨by omega, by omega, ?_⟩, by omega⟩⟩
      · have hb' : needF l[k] l[k + 1] = true := hb
        rw [bare_step l k hk, if_pos hb', bytesOf_app, bytesOf_app]; rfl
      · have hb' : ¬ needF l[k] l[k + 1] = true := by rw [show needF l[k] l[k + 1] = false from hb]; simp
        rw [bare_step l k hk, if_neg hb', bytesOf_app]
    · have hi : i = 0 := by omega
      subst hi
      have ew2 : IntKind.i64.wrap ((0 : Int) + 1) = 1 := by rw [wrap_i64 (by omega) (by omega)]; omega
      simp only [ew2, Int.toNat_zero, Int.toNat_one, List.getElem?_eq_getElem hlen, Option.getD_some]
      have q1 := g2 l[0] (List.getElem_mem _)
      simp only [Int.toNat_zero] at hB hB2
      refine ⟨⟨by omega, by omega⟩, trivial, ⟨by omega, by omega, ?_⟩, by omega⟩
      rw [bare_1 l hlen, bare_0, bytesOf_app]
    · have hi : i = l.length := by omega
      subst hi
      simp only [Int.toNat_natCast, bare_all] at hB ⊢
      have hpos := bare_pos l hl0 l.length hlen (Nat.le_refl _)
      rw [bare_all] at hpos
      exact ⟨⟨hpos, by omega, bytesOf_range _⟩, by rw [strOf_bytes]⟩
end Go.Proofs.Tryd
set_option autoImplicit false
set_option linter.all false
namespace Go.Proofs.Tryd
open Go Go.VM
set_option maxRecDepth 100000
def a117 (L : Lv) (I : Ds [It] → Prop) (mu : Ds [It] → Nat) : Nat → LAnn
  | 0 => anH L [0, 1, 7, 8] [] [.s 8 It] I mu
  | _ => .no
def a30 (L : Lv) (I : Ds [It] → Prop) (mu : Ds [It] → Nat) (J : Ds [.str, It] → Prop) (nu : Ds [.str, It] → Nat) : Nat → LAnn
  | 0 => anH L [0, 4] [] [.s 4 It] I mu
  | 2 => anH L [0, 7, 8] [] [.s 7 .str, .s 8 It] J nu
  | _ => .no
def a25 (L : Lv) (I : Ds [It] → Prop) (mu : Ds [It] → Nat) : Nat → LAnn
  | 0 => anH L [0, 1, 5] [] [.s 5 It] I mu
  | _ => .no
def a28 (L : Lv) (I : Ds [It] → Prop) (mu : Ds [It] → Nat) : Nat → LAnn
  | 0 => anH L [0, 3] [] [.s 3 It] I mu
  | _ => .no
def n29 (L : Lv) (F : LexF) (I : Ds [It] → Prop) (mu : Ds [It] → Nat) (l : List Lx)  : VC :=
 VC.br (Lv.cmp L BinOp.gtr (Lv.cast L (Lv.llen L Lt l)) 900)
 (VC.ok ((ByteArray.mk #[], 5, ()) = (Prod.fst (LexF.join F l), Prod.snd (LexF.join F l), ())))
 (VC.obl
 (St.mk 19
 [(0, V.c (C.sl Lt l)), (1, V.c (C.fn 96 [1])),
 (7, V.c (C.int IntKind.i64 (Lv.cast L (Lv.llen L Lt l)))), (8, V.c (C.int IntKind.i64 0))]
 [(0, Ob.amb), (1, Ob.box 75 [C.fn 63 []])] 2 =
 St.mk 19
 [(0, V.c (C.sl Lt l)), (1, V.c (C.fn 96 [1])),
 (7, V.c (C.int IntKind.i64 (Lv.cast L (Lv.llen L Lt l)))), (8, V.c (C.int IntKind.i64 0))]
 [(0, Ob.amb), (1, Ob.box 75 [C.fn 63 []])] 2)
 (VC.obl (I (0, ()))
 (VC.all (Int × Unit) fun (x : Int × Unit) =>
 VC.imp (I x)
 (VC.br (Lv.cmp L BinOp.lss (Prod.fst x) (Lv.cast L (Lv.llen L Lt l)))
 (VC.obl (Lv.inR L (Prod.fst x) (Lv.llen L Lt l))
 (VC.obl
 (LexF.pLx F
 (Prod.fst (Lv.get L Lt l (Lv.toN L (Prod.fst x))),
 Prod.fst (Prod.snd (Lv.get L Lt l (Lv.toN L (Prod.fst x)))),
 Prod.snd (Prod.snd (Lv.get L Lt l (Lv.toN L (Prod.fst x))))))
 (VC.br
 (LexF.isRight F
 (Prod.fst (Lv.get L Lt l (Lv.toN L (Prod.fst x))),
 Prod.fst (Prod.snd (Lv.get L Lt l (Lv.toN L (Prod.fst x)))),
 Prod.snd (Prod.snd (Lv.get L Lt l (Lv.toN L (Prod.fst x))))))
 (VC.ok
 (St.mk 19
 [(0, V.c (C.sl Lt l)), (1, V.c (C.fn 96 [1])),
 (7, V.c (C.int IntKind.i64 (Lv.cast L (Lv.llen L Lt l)))),
 (8, V.c (C.int IntKind.i64 (Lv.ar L BinOp.add IntKind.i64 (Prod.fst x) 1)))]
 [(0, Ob.amb), (1, Ob.box 75 [C.fn 63 []])] 2 =
 St.mk 19
 [(0, V.c (C.sl Lt l)), (1, V.c (C.fn 96 [1])),
 (7, V.c (C.int IntKind.i64 (Lv.cast L (Lv.llen L Lt l)))),
 (8, V.c (C.int IntKind.i64 (Lv.ar L BinOp.add IntKind.i64 (Prod.fst x) 1)))]
 [(0, Ob.amb), (1, Ob.box 75 [C.fn 63 []])] 2 ∧
 I (Lv.ar L BinOp.add IntKind.i64 (Prod.fst x) 1, ()) ∧ mu (Lv.ar L BinOp.add IntKind.i64 (Prod.fst x) 1, ()) < mu x))
 (VC.br (Lv.cmp L BinOp.geq (Prod.fst x) 0) (VC.ok ((ByteArray.mk #[], 4, ()) = (Prod.fst (LexF.join F l), Prod.snd (LexF.join F l), ())))
 (VC.obl (LexF.pTs F l)
 (VC.br (Lv.cmp L BinOp.gtr (Lv.cast L (Lv.slen L (LexF.bare F l))) 2500)
 (VC.ok ((ByteArray.mk #[], 5, ()) = (Prod.fst (LexF.join F l), Prod.snd (LexF.join F l), ())))
 (VC.ok ((LexF.bare F l, 0, ()) = (Prod.fst (LexF.join F l), Prod.snd (LexF.join F l), ())))))))))
 (VC.br (Lv.cmp L BinOp.geq (Int.negSucc 0) 0) (VC.ok ((ByteArray.mk #[], 4, ()) = (Prod.fst (LexF.join F l), Prod.snd (LexF.join F l), ())))
 (VC.obl (LexF.pTs F l)
 (VC.br (Lv.cmp L BinOp.gtr (Lv.cast L (Lv.slen L (LexF.bare F l))) 2500) (VC.ok ((ByteArray.mk #[], 5, ()) = (Prod.fst (LexF.join F l), Prod.snd (LexF.join F l), ())))
 (VC.ok ((LexF.bare F l, 0, ()) = (Prod.fst (LexF.join F l), Prod.snd (LexF.join F l), ()))))))))))
theorem n29_eq (L : Lv) (F : LexF) (I : Ds [It] → Prop) (mu : Ds [It] → Nat) (l : List Lx) : vcI L F [63, 64] [(62, D62 a0), (95, D95 a0), (96, D96 a0), (117, D117 (a117 L I mu))] 4 (D29 a0) (S29 F) (l, ()) = n29 L F I mu l := by kernel_rfl
theorem n29_go (L : Lv) (F : LexF) (I : Ds [It] → Prop) (mu : Ds [It] → Nat) (l : List Lx) (h : VC.holds (n29 L F I mu l)) : Holds (vcI L F [63, 64] [(62, D62 a0), (95, D95 a0), (96, D96 a0), (117, D117 (a117 L I mu))] 4 (D29 a0) (S29 F) (l, ())) := Holds.of_eq (n29_eq L F I mu l) h
def n30 (L : Lv) (F : LexF) (I : Ds [It] → Prop) (mu : Ds [It] → Nat) (J : Ds [.str, It] → Prop) (nu : Ds [.str, It] → Nat) (l : List Lx)  : VC :=
 VC.br (Lv.cmp L BinOp.gtr (Lv.cast L (Lv.llen L Lt l)) 900)
 (VC.ok ((ByteArray.mk #[], 5, ()) = (Prod.fst (LexF.rJoin F l), Prod.snd (LexF.rJoin F l), ())))
 (VC.obl
 (St.mk 71 [(0, V.c (C.sl Lt l)), (4, V.c (C.int IntKind.i64 0))] [(0, Ob.amb)] 1 =
 St.mk 71 [(0, V.c (C.sl Lt l)), (4, V.c (C.int IntKind.i64 0))] [(0, Ob.amb)] 1)
 (VC.obl (I (0, ()))
 (VC.all (Int × Unit) fun (x : Int × Unit) =>
 VC.imp (I x)
 (VC.br (Lv.cmp L BinOp.lss (Prod.fst x) (Lv.cast L (Lv.llen L Lt l)))
 (VC.obl (Lv.inR L (Prod.fst x) (Lv.llen L Lt l))
 (VC.obl (LexF.pS F (Prod.fst (Prod.snd (Lv.get L Lt l (Lv.toN L (Prod.fst x))))))
 (VC.br (Lv.cmp L BinOp.neq (Prod.snd (LexF.rKind F (Prod.fst (Prod.snd (Lv.get L Lt l (Lv.toN L (Prod.fst x))))))) 0)
 (VC.ok ((ByteArray.mk #[], 4, ()) = (Prod.fst (LexF.rJoin F l), Prod.snd (LexF.rJoin F l), ())))
 (VC.obl (Lv.inR L (Prod.fst x) (Lv.llen L Lt l))
 (VC.br
 (Lv.cmp L BinOp.neq (Prod.fst (LexF.rKind F (Prod.fst (Prod.snd (Lv.get L Lt l (Lv.toN L (Prod.fst x)))))))
 (Prod.fst (Lv.get L Lt l (Lv.toN L (Prod.fst x)))))
 (VC.ok ((ByteArray.mk #[], 4, ()) = (Prod.fst (LexF.rJoin F l), Prod.snd (LexF.rJoin F l), ())))
 (VC.ok
 (St.mk 71 [(0, V.c (C.sl Lt l)), (4, V.c (C.int IntKind.i64 (Lv.ar L BinOp.add IntKind.i64 (Prod.fst x) 1)))]
 [(0, Ob.amb)] 1 =
 St.mk 71
 [(0, V.c (C.sl Lt l)), (4, V.c (C.int IntKind.i64 (Lv.ar L BinOp.add IntKind.i64 (Prod.fst x) 1)))]
 [(0, Ob.amb)] 1 ∧
 I (Lv.ar L BinOp.add IntKind.i64 (Prod.fst x) 1, ()) ∧ mu (Lv.ar L BinOp.add IntKind.i64 (Prod.fst x) 1, ()) < mu x)))))))
 (VC.obl
 (St.mk 71 [(0, V.c (C.sl Lt l)), (7, V.c (C.str (ByteArray.mk #[]))), (8, V.c (C.int IntKind.i64 0))] [(0, Ob.amb)] 1 =
 St.mk 71 [(0, V.c (C.sl Lt l)), (7, V.c (C.str (ByteArray.mk (Array.mk [])))), (8, V.c (C.int IntKind.i64 0))]
 [(0, Ob.amb)] 1)
 (VC.obl (J (ByteArray.mk (Array.mk []), 0, ()))
 (VC.all (ByteArray × Int × Unit) fun (x : ByteArray × Int × Unit) =>
 VC.imp (J x)
 (VC.br (Lv.cmp L BinOp.lss (Prod.fst (Prod.snd x)) (Lv.cast L (Lv.llen L Lt l)))
 (VC.br (Lv.cmp L BinOp.gtr (Prod.fst (Prod.snd x)) 0)
 (VC.obl (Lv.inR L (Lv.ar L BinOp.sub IntKind.i64 (Prod.fst (Prod.snd x)) 1) (Lv.llen L Lt l))
 (VC.obl (Lv.inR L (Prod.fst (Prod.snd x)) (Lv.llen L Lt l))
 (VC.obl
 (LexF.pLx2 F
 (Prod.fst (Lv.get L Lt l (Lv.toN L (Lv.ar L BinOp.sub IntKind.i64 (Prod.fst (Prod.snd x)) 1))),
 Prod.fst
 (Prod.snd (Lv.get L Lt l (Lv.toN L (Lv.ar L BinOp.sub IntKind.i64 (Prod.fst (Prod.snd x)) 1)))),
 Prod.snd
 (Prod.snd (Lv.get L Lt l (Lv.toN L (Lv.ar L BinOp.sub IntKind.i64 (Prod.fst (Prod.snd x)) 1)))))
 (Prod.fst (Lv.get L Lt l (Lv.toN L (Prod.fst (Prod.snd x)))),
 Prod.fst (Prod.snd (Lv.get L Lt l (Lv.toN L (Prod.fst (Prod.snd x))))),
 Prod.snd (Prod.snd (Lv.get L Lt l (Lv.toN L (Prod.fst (Prod.snd x)))))))
 (VC.br
 (LexF.rApart F
 (Prod.fst (Lv.get L Lt l (Lv.toN L (Lv.ar L BinOp.sub IntKind.i64 (Prod.fst (Prod.snd x)) 1))),
 Prod.fst
 (Prod.snd (Lv.get L Lt l (Lv.toN L (Lv.ar L BinOp.sub IntKind.i64 (Prod.fst (Prod.snd x)) 1)))),
 Prod.snd
 (Prod.snd (Lv.get L Lt l (Lv.toN L (Lv.ar L BinOp.sub IntKind.i64 (Prod.fst (Prod.snd x)) 1)))))
 (Prod.fst (Lv.get L Lt l (Lv.toN L (Prod.fst (Prod.snd x)))),
 Prod.fst (Prod.snd (Lv.get L Lt l (Lv.toN L (Prod.fst (Prod.snd x))))),
 Prod.snd (Prod.snd (Lv.get L Lt l (Lv.toN L (Prod.fst (Prod.snd x)))))))
 (VC.obl (Lv.catOk L (Prod.fst x) (ByteArray.mk #[32]))
 (VC.obl (Lv.inR L (Prod.fst (Prod.snd x)) (Lv.llen L Lt l))
 (VC.obl
 (Lv.catOk L (Lv.scat L (Prod.fst x) (ByteArray.mk #[32]))
 (Prod.fst (Prod.snd (Lv.get L Lt l (Lv.toN L (Prod.fst (Prod.snd x)))))))
 (VC.br
 (Lv.cmp L BinOp.gtr
 (Lv.cast L
 (Lv.slen L
 (Lv.scat L (Lv.scat L (Prod.fst x) (ByteArray.mk #[32]))
 (Prod.fst (Prod.snd (Lv.get L Lt l (Lv.toN L (Prod.fst (Prod.snd x)))))))))
 2500)
 (VC.ok ((ByteArray.mk #[], 5, ()) = (Prod.fst (LexF.rJoin F l), Prod.snd (LexF.rJoin F l), ())))
 (VC.ok
 (St.mk 71
 [(0, V.c (C.sl Lt l)),
 (7,
 V.c
 (C.str
 (Lv.scat L (Lv.scat L (Prod.fst x) (ByteArray.mk #[32]))
 (Prod.fst (Prod.snd (Lv.get L Lt l (Lv.toN L (Prod.fst (Prod.snd x))))))))),
 (8, V.c (C.int IntKind.i64 (Lv.ar L BinOp.add IntKind.i64 (Prod.fst (Prod.snd x)) 1)))]
 [(0, Ob.amb)] 1 =
 St.mk 71
 [(0, V.c (C.sl Lt l)),
 (7,
 V.c
 (C.str
 (Lv.scat L (Lv.scat L (Prod.fst x) (ByteArray.mk #[32]))
 (Prod.fst (Prod.snd (Lv.get L Lt l (Lv.toN L (Prod.fst (Prod.snd x))))))))),
 (8, V.c (C.int IntKind.i64 (Lv.ar L BinOp.add IntKind.i64 (Prod.fst (Prod.snd x)) 1)))]
 [(0, Ob.amb)] 1 ∧
 J
 (Lv.scat L (Lv.scat L (Prod.fst x) (ByteArray.mk #[32]))
 (Prod.fst (Prod.snd (Lv.get L Lt l (Lv.toN L (Prod.fst (Prod.snd x)))))),
 Lv.ar L BinOp.add IntKind.i64 (Prod.fst (Prod.snd x)) 1, ()) ∧
 nu
 (Lv.scat L (Lv.scat L (Prod.fst x) (ByteArray.mk #[32]))
 (Prod.fst (Prod.snd (Lv.get L Lt l (Lv.toN L (Prod.fst (Prod.snd x)))))),
 Lv.ar L BinOp.add IntKind.i64 (Prod.fst (Prod.snd x)) 1, ()) <
 nu x))))))
 (VC.obl (Lv.inR L (Prod.fst (Prod.snd x)) (Lv.llen L Lt l))
 (VC.obl
 (Lv.catOk L (Prod.fst x) (Prod.fst (Prod.snd (Lv.get L Lt l (Lv.toN L (Prod.fst (Prod.snd x)))))))
 (VC.br
 (Lv.cmp L BinOp.gtr
 (Lv.cast L
 (Lv.slen L
 (Lv.scat L (Prod.fst x)
 (Prod.fst (Prod.snd (Lv.get L Lt l (Lv.toN L (Prod.fst (Prod.snd x)))))))))
 2500)
 (VC.ok ((ByteArray.mk #[], 5, ()) = (Prod.fst (LexF.rJoin F l), Prod.snd (LexF.rJoin F l), ())))
 (VC.ok
 (St.mk 71
 [(0, V.c (C.sl Lt l)),
 (7,
 V.c
 (C.str
 (Lv.scat L (Prod.fst x)
 (Prod.fst (Prod.snd (Lv.get L Lt l (Lv.toN L (Prod.fst (Prod.snd x))))))))),
 (8, V.c (C.int IntKind.i64 (Lv.ar L BinOp.add IntKind.i64 (Prod.fst (Prod.snd x)) 1)))]
 [(0, Ob.amb)] 1 =
 St.mk 71
 [(0, V.c (C.sl Lt l)),
 (7,
 V.c
 (C.str
 (Lv.scat L (Prod.fst x)
 (Prod.fst (Prod.snd (Lv.get L Lt l (Lv.toN L (Prod.fst (Prod.snd x))))))))),
 (8, V.c (C.int IntKind.i64 (Lv.ar L BinOp.add IntKind.i64 (Prod.fst (Prod.snd x)) 1)))]
 [(0, Ob.amb)] 1 ∧
 J
 (Lv.scat L (Prod.fst x)
 (Prod.fst (Prod.snd (Lv.get L Lt l (Lv.toN L (Prod.fst (Prod.snd x)))))),
 Lv.ar L BinOp.add IntKind.i64 (Prod.fst (Prod.snd x)) 1, ()) ∧
 nu
 (Lv.scat L (Prod.fst x)
 (Prod.fst (Prod.snd (Lv.get L Lt l (Lv.toN L (Prod.fst (Prod.snd x)))))),
 Lv.ar L BinOp.add IntKind.i64 (Prod.fst (Prod.snd x)) 1, ()) <
 nu x)))))))))
 (VC.obl (Lv.inR L (Prod.fst (Prod.snd x)) (Lv.llen L Lt l))
 (VC.obl (Lv.catOk L (Prod.fst x) (Prod.fst (Prod.snd (Lv.get L Lt l (Lv.toN L (Prod.fst (Prod.snd x)))))))
 (VC.br
 (Lv.cmp L BinOp.gtr
 (Lv.cast L
 (Lv.slen L
 (Lv.scat L (Prod.fst x) (Prod.fst (Prod.snd (Lv.get L Lt l (Lv.toN L (Prod.fst (Prod.snd x)))))))))
 2500)
 (VC.ok ((ByteArray.mk #[], 5, ()) = (Prod.fst (LexF.rJoin F l), Prod.snd (LexF.rJoin F l), ())))
 (VC.ok
 (St.mk 71
 [(0, V.c (C.sl Lt l)),
 (7,
 V.c
 (C.str
 (Lv.scat L (Prod.fst x)
 (Prod.fst (Prod.snd (Lv.get L Lt l (Lv.toN L (Prod.fst (Prod.snd x))))))))),
 (8, V.c (C.int IntKind.i64 (Lv.ar L BinOp.add IntKind.i64 (Prod.fst (Prod.snd x)) 1)))]
 [(0, Ob.amb)] 1 =
 St.mk 71
 [(0, V.c (C.sl Lt l)),
 (7,
 V.c
 (C.str
 (Lv.scat L (Prod.fst x)
 (Prod.fst (Prod.snd (Lv.get L Lt l (Lv.toN L (Prod.fst (Prod.snd x))))))))),
 (8, V.c (C.int IntKind.i64 (Lv.ar L BinOp.add IntKind.i64 (Prod.fst (Prod.snd x)) 1)))]
 [(0, Ob.amb)] 1 ∧
 J
 (Lv.scat L (Prod.fst x) (Prod.fst (Prod.snd (Lv.get L Lt l (Lv.toN L (Prod.fst (Prod.snd x)))))),
 Lv.ar L BinOp.add IntKind.i64 (Prod.fst (Prod.snd x)) 1, ()) ∧
 nu
 (Lv.scat L (Prod.fst x)
 (Prod.fst (Prod.snd (Lv.get L Lt l (Lv.toN L (Prod.fst (Prod.snd x)))))),
 Lv.ar L BinOp.add IntKind.i64 (Prod.fst (Prod.snd x)) 1, ()) <
 nu x))))))
 (VC.ok ((Prod.fst x, 0, ()) = (Prod.fst (LexF.rJoin F l), Prod.snd (LexF.rJoin F l), ())))))))))))
theorem n30_eq (L : Lv) (F : LexF) (I : Ds [It] → Prop) (mu : Ds [It] → Nat) (J : Ds [.str, It] → Prop) (nu : Ds [.str, It] → Nat) (l : List Lx) : vcO L F [27, 65] (D30 (a30 L I mu J nu)) (S30 F) (l, ()) = n30 L F I mu J nu l := by kernel_rfl
theorem n30_go (L : Lv) (F : LexF) (I : Ds [It] → Prop) (mu : Ds [It] → Nat) (J : Ds [.str, It] → Prop) (nu : Ds [.str, It] → Nat) (l : List Lx) (h : VC.holds (n30 L F I mu J nu l)) : Holds (vcO L F [27, 65] (D30 (a30 L I mu J nu)) (S30 F) (l, ())) := Holds.of_eq (n30_eq L F I mu J nu l) h
def n25 (L : Lv) (F : LexF) (I : Ds [It] → Prop) (mu : Ds [It] → Nat) (l m : List Lx)  : VC :=
 VC.br
 (Lv.cmp L BinOp.neq (Lv.cast L (Lv.llen L Lt l))
 (Lv.cast L (Lv.llen L Lt m)))
 (VC.ok ((false, ()) = (LexF.same F l m, ())))
 (VC.obl
 (St.mk 26
 [(0, V.c (C.sl Lt l)), (1, V.c (C.sl Lt m)),
 (5, V.c (C.int IntKind.i64 0))]
 [(0, Ob.amb)] 1 =
 St.mk 26
 [(0, V.c (C.sl Lt l)), (1, V.c (C.sl Lt m)),
 (5, V.c (C.int IntKind.i64 0))]
 [(0, Ob.amb)] 1)
 (VC.obl (I (0, ()))
 (VC.all (Int × Unit) fun (x : Int × Unit) =>
 VC.imp (I x)
 (VC.br (Lv.cmp L BinOp.lss (Prod.fst x) (Lv.cast L (Lv.llen L Lt l)))
 (VC.obl (Lv.inR L (Prod.fst x) (Lv.llen L Lt l))
 (VC.obl (Lv.inR L (Prod.fst x) (Lv.llen L Lt m))
 (VC.br
 (Lv.bnot L
 (Lv.band L
 (Lv.cmp L BinOp.eql (Prod.fst (Lv.get L Lt l (Lv.toN L (Prod.fst x))))
 (Prod.fst (Lv.get L Lt m (Lv.toN L (Prod.fst x)))))
 (Lv.band L
 (Lv.scmp L BinOp.eql (Prod.fst (Prod.snd (Lv.get L Lt l (Lv.toN L (Prod.fst x)))))
 (Prod.fst (Prod.snd (Lv.get L Lt m (Lv.toN L (Prod.fst x))))))
 (Lv.band L
 (Lv.cmp L BinOp.eql (Prod.snd (Prod.snd (Lv.get L Lt l (Lv.toN L (Prod.fst x)))))
 (Prod.snd (Prod.snd (Lv.get L Lt m (Lv.toN L (Prod.fst x))))))
 true))))
 (VC.ok ((false, ()) = (LexF.same F l m, ())))
 (VC.ok
 (St.mk 26
 [(0, V.c (C.sl Lt l)), (1, V.c (C.sl Lt m)),
 (5, V.c (C.int IntKind.i64 (Lv.ar L BinOp.add IntKind.i64 (Prod.fst x) 1)))]
 [(0, Ob.amb)] 1 =
 St.mk 26
 [(0, V.c (C.sl Lt l)), (1, V.c (C.sl Lt m)),
 (5, V.c (C.int IntKind.i64 (Lv.ar L BinOp.add IntKind.i64 (Prod.fst x) 1)))]
 [(0, Ob.amb)] 1 ∧
 I (Lv.ar L BinOp.add IntKind.i64 (Prod.fst x) 1, ()) ∧ mu (Lv.ar L BinOp.add IntKind.i64 (Prod.fst x) 1, ()) < mu x)))))
 (VC.ok ((true, ()) = (LexF.same F l m, ())))))))
theorem n25_eq (L : Lv) (F : LexF) (I : Ds [It] → Prop) (mu : Ds [It] → Nat) (l m : List Lx) : vcO L F [] (D25 (a25 L I mu)) (S25 F) (l, m, ()) = n25 L F I mu l m := by kernel_rfl
theorem n25_go (L : Lv) (F : LexF) (I : Ds [It] → Prop) (mu : Ds [It] → Nat) (l m : List Lx) (h : VC.holds (n25 L F I mu l m)) : Holds (vcO L F [] (D25 (a25 L I mu)) (S25 F) (l, m, ())) := Holds.of_eq (n25_eq L F I mu l m) h
def n36 (L : Lv) (F : LexF) (I : Ds [It] → Prop) (mu : Ds [It] → Nat) (l m : List Lx)  : VC :=
 VC.br
 (Lv.cmp L BinOp.neq (Lv.cast L (Lv.llen L Lt l))
 (Lv.cast L (Lv.llen L Lt m)))
 (VC.ok ((false, ()) = (LexF.alike F l m, ())))
 (VC.obl
 (St.mk 41
 [(0, V.c (C.sl Lt l)), (1, V.c (C.sl Lt m)),
 (5, V.c (C.int IntKind.i64 0))]
 [(0, Ob.amb)] 1 =
 St.mk 41
 [(0, V.c (C.sl Lt l)), (1, V.c (C.sl Lt m)),
 (5, V.c (C.int IntKind.i64 0))]
 [(0, Ob.amb)] 1)
 (VC.obl (I (0, ()))
 (VC.all (Int × Unit) fun (x : Int × Unit) =>
 VC.imp (I x)
 (VC.br (Lv.cmp L BinOp.lss (Prod.fst x) (Lv.cast L (Lv.llen L Lt l)))
 (VC.obl (Lv.inR L (Prod.fst x) (Lv.llen L Lt l))
 (VC.obl (Lv.inR L (Prod.fst x) (Lv.llen L Lt m))
 (VC.br
 (Lv.cmp L BinOp.neq (Prod.fst (Lv.get L Lt l (Lv.toN L (Prod.fst x))))
 (Prod.fst (Lv.get L Lt m (Lv.toN L (Prod.fst x)))))
 (VC.ok ((false, ()) = (LexF.alike F l m, ())))
 (VC.obl (Lv.inR L (Prod.fst x) (Lv.llen L Lt l))
 (VC.obl (Lv.inR L (Prod.fst x) (Lv.llen L Lt m))
 (VC.br
 (Lv.scmp L BinOp.neq (Prod.fst (Prod.snd (Lv.get L Lt l (Lv.toN L (Prod.fst x)))))
 (Prod.fst (Prod.snd (Lv.get L Lt m (Lv.toN L (Prod.fst x))))))
 (VC.ok ((false, ()) = (LexF.alike F l m, ())))
 (VC.ok
 (St.mk 41
 [(0, V.c (C.sl Lt l)),
 (1, V.c (C.sl Lt m)), (5, V.c (C.int IntKind.i64 (Lv.ar L BinOp.add IntKind.i64 (Prod.fst x) 1)))]
 [(0, Ob.amb)] 1 =
 St.mk 41
 [(0, V.c (C.sl Lt l)),
 (1, V.c (C.sl Lt m)), (5, V.c (C.int IntKind.i64 (Lv.ar L BinOp.add IntKind.i64 (Prod.fst x) 1)))]
 [(0, Ob.amb)] 1 ∧
 I (Lv.ar L BinOp.add IntKind.i64 (Prod.fst x) 1, ()) ∧ mu (Lv.ar L BinOp.add IntKind.i64 (Prod.fst x) 1, ()) < mu x))))))))
 (VC.ok ((true, ()) = (LexF.alike F l m, ())))))))
theorem n36_eq (L : Lv) (F : LexF) (I : Ds [It] → Prop) (mu : Ds [It] → Nat) (l m : List Lx) : vcO L F [] (D36 (a25 L I mu)) (S36 F) (l, m, ()) = n36 L F I mu l m := by kernel_rfl
theorem n36_go (L : Lv) (F : LexF) (I : Ds [It] → Prop) (mu : Ds [It] → Nat) (l m : List Lx) (h : VC.holds (n36 L F I mu l m)) : Holds (vcO L F [] (D36 (a25 L I mu)) (S36 F) (l, m, ())) := Holds.of_eq (n36_eq L F I mu l m) h
def n28 (L : Lv) (F : LexF) (I : Ds [It] → Prop) (mu : Ds [It] → Nat) (l : List Lx)  : VC :=
 VC.br (Lv.cmp L BinOp.gtr (Lv.cast L (Lv.llen L Lt l)) 1000) (VC.ok ((false, ()) = (LexF.thin F l, ())))
 (VC.obl
 (St.mk 20 [(0, V.c (C.sl Lt l)), (3, V.c (C.int IntKind.i64 0))] [(0, Ob.amb)] 1 =
 St.mk 20 [(0, V.c (C.sl Lt l)), (3, V.c (C.int IntKind.i64 0))] [(0, Ob.amb)] 1)
 (VC.obl (I (0, ()))
 (VC.all (Int × Unit) fun (x : Int × Unit) =>
 VC.imp (I x)
 (VC.br (Lv.cmp L BinOp.lss (Prod.fst x) (Lv.cast L (Lv.llen L Lt l)))
 (VC.obl (Lv.inR L (Prod.fst x) (Lv.llen L Lt l)) VC.bad) (VC.ok ((true, ()) = (LexF.thin F l, ())))))))
theorem n28_eq (L : Lv) (F : LexF) (I : Ds [It] → Prop) (mu : Ds [It] → Nat) (l : List Lx) : vcO L F [] (D28 (a28 L I mu)) (S28 F) (l, ()) = n28 L F I mu l := by kernel_rfl
theorem n28_go (L : Lv) (F : LexF) (I : Ds [It] → Prop) (mu : Ds [It] → Nat) (l : List Lx) (h : VC.holds (n28 L F I mu l)) : Holds (vcO L F [] (D28 (a28 L I mu)) (S28 F) (l, ())) := Holds.of_eq (n28_eq L F I mu l) h
def n35 (L : Lv) (F : LexF) (c d : Ch)  : VC :=
 VC.br (Lv.cmp L BinOp.eql (Prod.fst c) (Prod.fst d))
 (VC.br (Lv.cmp L BinOp.eql (Prod.fst (Prod.snd c)) (Prod.fst (Prod.snd d)))
 (VC.obl (LexF.pL F (Prod.snd (Prod.snd c)))
 (VC.br (LexF.same F (Prod.snd (Prod.snd c)) (Prod.snd (Prod.snd d))) (VC.ok ((true, ()) = (LexF.sameChange F c d, ())))
 (VC.ok ((false, ()) = (LexF.sameChange F c d, ())))))
 (VC.ok ((false, ()) = (LexF.sameChange F c d, ()))))
 (VC.ok ((false, ()) = (LexF.sameChange F c d, ())))
theorem n35_eq (L : Lv) (F : LexF) (c d : Ch) : vcO L F [25] (D35 a0) (S35 F) (c, d, ()) = n35 L F c d := by kernel_rfl
theorem n35_go (L : Lv) (F : LexF) (c d : Ch) (h : VC.holds (n35 L F c d)) : Holds (vcO L F [25] (D35 a0) (S35 F) (c, d, ())) := Holds.of_eq (n35_eq L F c d) h

def pLF (l : List Lx) : Prop := l.length ≤ 1000 ∧ ∀ x ∈ l, x.2.1.size ≤ 3000
theorem all_at {l : List Lx} {f : Lx → Bool} (h : l.all f = true) (x : Lx) (hx : x ∈ l) : f x = true := List.all_eq_true.1 h x hx
theorem all_no {l : List Lx} {f : Lx → Bool} (i : Nat) (hi : i < l.length) (h : f l[i] = false) : l.all f = false := by
  cases ha : l.all f with
  | false => rfl
  | true => rw [all_at ha l[i] (List.getElem_mem _)] at h; cases h
theorem all_step {l : List Lx} {f : Lx → Bool} (i : Nat) (hi : i < l.length) (h : (l.take i).all f = true) (hf : f l[i] = true) : (l.take (i + 1)).all f = true := by
  rw [take_snoc l i hi, List.all_append, h]
  simp [hf]
theorem join_limit {l : List Lx} (h : 900 < l.length) : joinF l = (ByteArray.empty, 5) := by unfold joinF; rw [if_pos h]
theorem join_form {l : List Lx} (h : ¬ 900 < l.length) (ha : l.all isRightF = false) : joinF l = (ByteArray.empty, 4) := by unfold joinF; rw [if_neg h, if_pos ha]
theorem join_long {l : List Lx} (h : ¬ 900 < l.length) (ha : l.all isRightF = true) (hb : 2500 < (bareF l).size) : joinF l = (ByteArray.empty, 5) := by unfold joinF; rw [if_neg h, if_neg (by rw [ha]; simp)]; simp only; rw [if_pos hb]
theorem join_ok {l : List Lx} (h : ¬ 900 < l.length) (ha : l.all isRightF = true) (hb : ¬ 2500 < (bareF l).size) : joinF l = (bareF l, 0) := by unfold joinF; rw [if_neg h, if_neg (by rw [ha]; simp)]; simp only; rw [if_neg hb]
theorem right_ts {l : List Lx} (h : pLF l) (ha : l.all isRightF = true) : pTsF l := ⟨h.1, fun x hx => ⟨(right_tok (all_at ha x hx)).1, h.2 x hx⟩⟩
theorem ok29 (F : LexF) (hpl : F.pL = pLF) (hpx : F.pLx = fun x => x.2.1.size ≤ 1000000) (hpt : F.pTs = pTsF) (h : F.join = joinF) (hr : F.isRight = isRightF) (hb : F.bare = bareF) (k1 : SpecOk prog 63 (S63 F)) (k2 : SpecOk prog 64 (S64 F)) : SpecOk prog 29 (S29 F) := by
  refine contract_by hm hE D29 fnok29 _ fun (z : List Lx × Unit) hpre => ?_
  obtain ⟨l, ⟨⟩⟩ := z
  have hpre' : F.pL l := hpre
  rw [hpl] at hpre'
  obtain ⟨g1, g2⟩ := hpre'
  let I : Int × Unit → Prop := fun z => 0 ≤ z.1 ∧ z.1 ≤ l.length ∧ (l.take z.1.toNat).all isRightF = true
  let mu : Int × Unit → Nat := fun z => (l.length - z.1).toNat
  refine pack _ 4 a0 (inlT_ok [(62, D62 a0), (95, D95 a0), (96, D96 a0), (117, D117 (a117 Lv.std I mu))] (fOnly F [63, 64]) (by simp only [List.forall_mem_cons]; exact ⟨fnok62 _, fnok95 _, fnok96 _, fnok117 _, fun _ h => by cases h⟩)
    (only_ok (F := F) (l := [63, 64]) (by simp only [List.forall_mem_cons]; exact ⟨at_ok k1 (by kernel_rfl), at_ok k2 (by kernel_rfl), fun _ h => by cases h⟩))) ?_
  refine n29_go Lv.std F I mu l ?_
  simp only [n29, VC.holds, std_cmp, std_scmp, std_ar_add, std_ar_sub, std_ar_mul, std_ar, std_dv, std_shf, std_conv, std_mn, std_mx, std_beq, std_bnot, std_band, std_scat, std_byte, std_ext, std_slen, std_strOf, std_bytes, std_llen, std_get, std_setl, std_app, std_take, std_drop, std_rep, std_mhas, std_mval, std_mput, std_cast, std_toN, std_sub, std_add, std_inR, std_le3, std_leN, std_ltN, std_ne0, std_nonneg, std_catOk, std_room, std_mkOk, cmp_lss_t, cmp_lss_f, cmp_leq_t, cmp_leq_f, cmp_gtr_t, cmp_gtr_f, cmp_geq_t, cmp_geq_f, cmp_eql_t, cmp_eql_f, cmp_neq_t, cmp_neq_f, scmp_eql_t, scmp_eql_f, scmp_neq_t, scmp_neq_f, dflt_int, dflt_bool, dflt_str, dflt_sl, dflt_pair, h, hr, hb, hpx, hpt, Prod.mk.injEq, and_true, true_and]
  have hfin : ¬ 900 < l.length → l.all isRightF = true → pTsF l ∧ (2500 < ((bareF l).size : Int) → ByteArray.mk #[] = (joinF l).1 ∧ 5 = (joinF l).2) ∧ (((bareF l).size : Int) ≤ 2500 → bareF l = (joinF l).1 ∧ 0 = (joinF l).2) := fun hle ha =>
    ⟨right_ts ⟨g1, g2⟩ ha, fun hbig => by rw [join_long hle ha (by omega)]; exact ⟨rfl, rfl⟩, fun hbig => by rw [join_ok hle ha (by omega)]; exact ⟨rfl, rfl⟩⟩
  refine ⟨fun hbig => ?_, fun hle => ⟨⟨by show (0 : Int) ≤ 0; omega, by show (0 : Int) ≤ l.length; omega, rfl⟩, ?_⟩⟩
  · rw [join_limit (by omega)]; exact ⟨rfl, rfl⟩
  have hle' : ¬ 900 < l.length := by omega
  rintro ⟨i, _⟩ ⟨h0, h1, h2⟩
  simp only at h0 h1 h2 ⊢
  refine ⟨fun hlt => ?_, fun hge => ?_⟩
  · obtain ⟨k, rfl⟩ : ∃ k : Nat, i = k := ⟨i.toNat, by omega⟩
    have hk : k < l.length := by omega
    have ew : IntKind.i64.wrap ((k : Int) + 1) = (k : Int) + 1 := by rw [wrap_i64 (by omega) (by omega)]
    simp only [ew, Int.toNat_natCast, List.getElem?_eq_getElem hk, Option.getD_some] at h2 ⊢
    refine ⟨⟨by omega, by omega⟩, by have := g2 l[k] (List.getElem_mem _); omega, fun hR => ⟨⟨by show (0 : Int) ≤ (k : Int) + 1; omega, by show (k : Int) + 1 ≤ l.length; omega, ?_⟩, by show ((l.length : Int) - ((k : Int) + 1)).toNat < ((l.length : Int) - k).toNat; omega⟩, fun hR => ⟨fun _ => ?_, fun hneg => by omega⟩⟩
    · show (l.take ((k : Int) + 1).toNat).all isRightF = true
      rw [show ((k : Int) + 1).toNat = k + 1 by omega]
      exact all_step k hk h2 hR
    · rw [join_form hle' (all_no k hk hR)]; exact ⟨rfl, rfl⟩
  · have hi : i = l.length := by omega
    subst hi
    rw [Int.toNat_natCast, List.take_length] at h2
    exact ⟨fun hneg => by omega, fun _ => hfin hle' h2⟩
theorem right_kind (x : Lx) : (isRightF x = true ↔ (kindF x.2.1).2 = 0 ∧ (kindF x.2.1).1 = x.1) := by unfold isRightF; simp
theorem ok30 (F : LexF) (hs : F.pS = fun s => s.size ≤ 1000000) (hpl : F.pL = pLF) (hpx : F.pLx2 = pLx2F) (h : F.rJoin = joinF) (hk : F.rKind = kindF) (ha : F.rApart = apartF) (k1 : SpecOk prog 27 (S27 F)) (k2 : SpecOk prog 65 (S65 F)) : SpecOk prog 30 (S30 F) := by
  refine contract_by hm hE D30 fnok30 _ fun (z : List Lx × Unit) hpre => ?_
  obtain ⟨l, ⟨⟩⟩ := z
  have hpre' : F.pL l := hpre
  rw [hpl] at hpre'
  obtain ⟨g1, g2⟩ := hpre'
  let I : Int × Unit → Prop := fun z => 0 ≤ z.1 ∧ z.1 ≤ l.length ∧ (l.take z.1.toNat).all isRightF = true
  let mu : Int × Unit → Nat := fun z => (l.length - z.1).toNat
  let J : ByteArray × Int × Unit → Prop := fun z => 0 ≤ z.2.1 ∧ z.2.1 ≤ l.length ∧ z.1 = bareF (l.take z.2.1.toNat) ∧ z.1.size ≤ 2500
  let nu : ByteArray × Int × Unit → Nat := fun z => (l.length - z.2.1).toNat
  refine pack _ 0 (a30 Lv.std I mu J nu) (only_ok (F := F) (l := [27, 65]) (by simp only [List.forall_mem_cons]; exact ⟨at_ok k1 (by kernel_rfl), at_ok k2 (by kernel_rfl), fun _ h => by cases h⟩)) ?_
  refine n30_go Lv.std F I mu J nu l ?_
  simp only [n30, VC.holds, std_cmp, std_scmp, std_ar_add, std_ar_sub, std_ar_mul, std_ar, std_dv, std_shf, std_conv, std_mn, std_mx, std_beq, std_bnot, std_band, std_scat, std_byte, std_ext, std_slen, std_strOf, std_bytes, std_llen, std_get, std_setl, std_app, std_take, std_drop, std_rep, std_mhas, std_mval, std_mput, std_cast, std_toN, std_sub, std_add, std_inR, std_le3, std_leN, std_ltN, std_ne0, std_nonneg, std_catOk, std_room, std_mkOk, cmp_lss_t, cmp_lss_f, cmp_leq_t, cmp_leq_f, cmp_gtr_t, cmp_gtr_f, cmp_geq_t, cmp_geq_f, cmp_eql_t, cmp_eql_f, cmp_neq_t, cmp_neq_f, scmp_eql_t, scmp_eql_f, scmp_neq_t, scmp_neq_f, dflt_int, dflt_bool, dflt_str, dflt_sl, dflt_pair, h, hk, ha, hs, hpx, Prod.mk.injEq, and_true, true_and]
  refine ⟨fun hbig => ?_, fun hle => ⟨⟨by show (0 : Int) ≤ 0; omega, by show (0 : Int) ≤ l.length; omega, rfl⟩, ?_⟩⟩
  · rw [join_limit (by omega)]; exact ⟨rfl, rfl⟩
  have hle' : ¬ 900 < l.length := by omega
  rintro ⟨i, _⟩ ⟨h0, h1, h2⟩
  simp only at h0 h1 h2 ⊢
  refine ⟨fun hlt => ?_, fun hge => ?_⟩
  · obtain ⟨k, rfl⟩ : ∃ k : Nat, i = k := ⟨i.toNat, by omega⟩
    have hk : k < l.length := by omega
    have ew : IntKind.i64.wrap ((k : Int) + 1) = (k : Int) + 1 := by rw [wrap_i64 (by omega) (by omega)]
    simp only [ew, Int.toNat_natCast, List.getElem?_eq_getElem hk, Option.getD_some] at h2 ⊢
    have hq := g2 l[k] (List.getElem_mem _)
    have hrk := right_kind l[k]
    refine ⟨⟨by omega, by omega⟩, by omega, fun hR => ?_, fun hR => ⟨⟨by omega, by omega⟩, fun hR2 => ?_, fun hR2 => ⟨⟨by show (0 : Int) ≤ (k : Int) + 1; omega, by show (k : Int) + 1 ≤ l.length; omega, ?_⟩, by show ((l.length : Int) - ((k : Int) + 1)).toNat < ((l.length : Int) - k).toNat; omega⟩⟩⟩
    · rw [join_form hle' (all_no k hk (by cases hx : isRightF l[k] with | false => rfl | true => exact absurd (hrk.1 hx).1 hR))]; exact ⟨rfl, rfl⟩
    · rw [join_form hle' (all_no k hk (by cases hx : isRightF l[k] with | false => rfl | true => exact absurd (hrk.1 hx).2 hR2))]; exact ⟨rfl, rfl⟩
    · show (l.take ((k : Int) + 1).toNat).all isRightF = true
      rw [show ((k : Int) + 1).toNat = k + 1 by omega]
      exact all_step k hk h2 (hrk.2 ⟨hR, hR2⟩)
  · have hi : i = l.length := by omega
    subst hi
    rw [Int.toNat_natCast, List.take_length] at h2
    have hright := h2
    clear h2 h0 h1 hge
    have hts := right_ts ⟨g1, g2⟩ hright
    have g0 := hts.2
    refine ⟨⟨by show (0 : Int) ≤ 0; omega, by show (0 : Int) ≤ l.length; omega, rfl, by show (ByteArray.empty).size ≤ 2500; decide⟩, ?_⟩
    rintro ⟨o, i, _⟩ ⟨h0, h1, h2, h3⟩
    simp only at h0 h1 h2 h3 ⊢
    have hstop : ∀ k : Nat, k ≤ l.length → 2500 < (bareF (l.take k)).size → 2500 < (bareF l).size := fun k hk hb => by
      have := bare_le l k (l.length - k) (by omega)
      rw [show k + (l.length - k) = l.length by omega, bare_all] at this
      omega
    refine ⟨fun hlt => ⟨fun hpos => ?_, fun hz => ?_⟩, fun hge => ?_⟩
    · obtain ⟨k, rfl⟩ : ∃ k : Nat, i = (k : Int) + 1 := ⟨i.toNat - 1, by omega⟩
      have ew : IntKind.i64.wrap ((k : Int) + 1 - 1) = k := by rw [wrap_i64 (by omega) (by omega)]; omega
      have ew2 : IntKind.i64.wrap ((k : Int) + 1 + 1) = (k : Int) + 2 := by rw [wrap_i64 (by omega) (by omega)]; omega
      have et : ((k : Int) + 1).toNat = k + 1 := by omega
      have et2 : ((k : Int) + 2).toNat = k + 2 := by omega
      have hk : k + 1 < l.length := by omega
      rw [et] at h2
      simp only [ew, ew2, et, et2, Int.toNat_natCast, List.getElem?_eq_getElem hk, List.getElem?_eq_getElem (show k < l.length by omega), Option.getD_some]
      have q1 := g0 l[k] (List.getElem_mem _)
      have q2 := g0 l[k + 1] (List.getElem_mem _)
      have hap : apartF l[k] l[k + 1] = needF l[k] l[k + 1] := apart_need _ (all_at hright _ (List.getElem_mem _))
      have hst := bare_step l k hk
      have hbl : (ByteArray.mk #[32]).size = 1 := rfl
      refine ⟨⟨by omega, by omega⟩, ⟨by omega, by omega⟩, ⟨q1.1, q1.2, q2.2⟩, fun hb => ?_, fun hb => ?_⟩
      · have hb' : needF l[k] l[k + 1] = true := by rw [← hap]; exact hb
        rw [if_pos hb'] at hst
        have hst' : bareF (l.take (k + 2)) = o ++ ByteArray.mk #[32] ++ l[k + 1].2.1 := by rw [hst, h2]; rfl
        refine ⟨by omega, ⟨by omega, by omega⟩, by rw [app_size]; omega, fun hlong => ?_, fun hshort => ⟨⟨by show (0 : Int) ≤ (k : Int) + 2; omega, by show (k : Int) + 2 ≤ l.length; omega, ?_, ?_⟩, by show ((l.length : Int) - ((k : Int) + 2)).toNat < ((l.length : Int) - ((k : Int) + 1)).toNat; omega⟩⟩
        · rw [← hst'] at hlong
          rw [join_long hle' hright (hstop (k + 2) (by omega) (by omega))]; exact ⟨rfl, rfl⟩
        · show _ = bareF (l.take ((k : Int) + 2).toNat)
          rw [et2]; exact hst'.symm
        · show (o ++ ByteArray.mk #[32] ++ l[k + 1].2.1).size ≤ 2500
          omega
      · have hb' : ¬ needF l[k] l[k + 1] = true := by rw [← hap, show apartF l[k] l[k + 1] = false from hb]; simp
        rw [if_neg hb'] at hst
        have hst' : bareF (l.take (k + 2)) = o ++ l[k + 1].2.1 := by rw [hst, h2]
        refine ⟨⟨by omega, by omega⟩, by omega, fun hlong => ?_, fun hshort => ⟨⟨by show (0 : Int) ≤ (k : Int) + 2; omega, by show (k : Int) + 2 ≤ l.length; omega, ?_, ?_⟩, by show ((l.length : Int) - ((k : Int) + 2)).toNat < ((l.length : Int) - ((k : Int) + 1)).toNat; omega⟩⟩
        · rw [← hst'] at hlong
          rw [join_long hle' hright (hstop (k + 2) (by omega) (by omega))]; exact ⟨rfl, rfl⟩
        · show _ = bareF (l.take ((k : Int) + 2).toNat)
          rw [et2]; exact hst'.symm
        · show (o ++ l[k + 1].2.1).size ≤ 2500
          omega
    · have hi : i = 0 := by omega
      subst hi
      have hk : 0 < l.length := by omega
      have ew2 : IntKind.i64.wrap ((0 : Int) + 1) = 1 := by rw [wrap_i64 (by omega) (by omega)]; omega
      simp only [ew2, Int.toNat_zero, List.getElem?_eq_getElem hk, Option.getD_some] at h2 ⊢
      have q1 := g0 l[0] (List.getElem_mem _)
      have hst' : bareF (l.take 1) = o ++ l[0].2.1 := by rw [bare_1 l hk, h2]; rfl
      refine ⟨⟨by omega, by omega⟩, by omega, fun hlong => ?_, fun hshort => ⟨⟨by show (0 : Int) ≤ 1; omega, by show (1 : Int) ≤ l.length; omega, hst'.symm, ?_⟩, by show ((l.length : Int) - 1).toNat < ((l.length : Int) - 0).toNat; omega⟩⟩
      · rw [← hst'] at hlong
        rw [join_long hle' hright (hstop 1 (by omega) (by omega))]; exact ⟨rfl, rfl⟩
      · show (o ++ l[0].2.1).size ≤ 2500
        omega
    · have hi : i = l.length := by omega
      subst hi
      rw [Int.toNat_natCast, bare_all] at h2
      subst h2
      rw [join_ok hle' hright (by omega)]; exact ⟨rfl, rfl⟩
end Go.Proofs.Tryd
set_option autoImplicit false
set_option linter.all false
namespace Go.Proofs.Tryd
open Go Go.VM
set_option maxRecDepth 100000
/-- The captured text of a closure in a slot. -/
def capS (s : St) (j : Nat) : Nat × ByteArray := match s.look j with
  | .c (.fn f [id]) => match lookA s.hp id with
    | some (.box _ [.str x]) => (f, x)
    | _ => (f, ByteArray.empty)
  | _ => (0, ByteArray.empty)
abbrev K66 := Int × (Nat × ByteArray) × (Nat × ByteArray)
def key66 (s : St) : K66 := (slotI s 0, capS s 1, capS s 2)
def anK (L : Lv) (js : List Nat) (hv : List Hv) {K : Type} (key : St → K) (I : K → Ds (tysOf hv) → Prop) (mu : K → Ds (tysOf hv) → Nat) : LAnn :=
  .an { js := js, ren := fun s => hvIds s hv, ad := [], X := Ds (tysOf hv), c := hvPut L hv, ext := hvGet L hv, I := fun s x => I (key s) x, mu := fun s x => mu (key s) x }
def a66 (L : Lv) (I : K66 → Ds [It] → Prop) (mu : K66 → Ds [It] → Nat) : Nat → LAnn
  | 0 => anK L [0, 1, 2, 7] [.s 7 It] key66 I mu
  | _ => .no
def a31 : Nat → LAnn
  | 0 => .un 3
  | _ => .no
def a32 (L : Lv) (I : Ds [It] → Prop) (mu : Ds [It] → Nat) (J : Ds [It] → Prop) (nu : Ds [It] → Nat) : Nat → LAnn
  | 0 => anH L [0, 1, 4, 10] [] [.s 10 It] I mu
  | 2 => anH L [0, 1, 4, 10, 11] [] [.s 11 It] J nu
  | _ => .no
def n21 (L : Lv) (F : LexF) (s : ByteArray)  : VC :=
 VC.br (Lv.cmp L BinOp.leq (Lv.cast L (Lv.slen L s)) 3000) (VC.ok ((true, ()) = (LexF.short F s, ()))) (VC.ok ((false, ()) = (LexF.short F s, ())))
theorem n21_eq (L : Lv) (F : LexF) (s : ByteArray) : vcO L F [] (D21 a0) (S21 F) (s, ()) = n21 L F s := by kernel_rfl
theorem n21_go (L : Lv) (F : LexF) (s : ByteArray) (h : VC.holds (n21 L F s)) : Holds (vcO L F [] (D21 a0) (S21 F) (s, ())) := Holds.of_eq (n21_eq L F s) h
def n28b (L : Lv) (F : LexF) (I : Ds [It] → Prop) (mu : Ds [It] → Nat) (l : List Lx)  : VC :=
 VC.br (Lv.cmp L BinOp.gtr (Lv.cast L (Lv.llen L Lt l)) 1000) (VC.ok ((false, ()) = (LexF.thin F l, ())))
 (VC.obl
 (St.mk 20 [(0, V.c (C.sl Lt l)), (3, V.c (C.int IntKind.i64 0))] [(0, Ob.amb)] 1 =
 St.mk 20 [(0, V.c (C.sl Lt l)), (3, V.c (C.int IntKind.i64 0))] [(0, Ob.amb)] 1)
 (VC.obl (I (0, ()))
 (VC.all (Int × Unit) fun (x : Int × Unit) =>
 VC.imp (I x)
 (VC.br (Lv.cmp L BinOp.lss (Prod.fst x) (Lv.cast L (Lv.llen L Lt l)))
 (VC.obl (Lv.inR L (Prod.fst x) (Lv.llen L Lt l))
 (VC.obl True
 (VC.br (LexF.short F (Prod.fst (Prod.snd (Lv.get L Lt l (Lv.toN L (Prod.fst x))))))
 (VC.ok
 (St.mk 20 [(0, V.c (C.sl Lt l)), (3, V.c (C.int IntKind.i64 (Lv.ar L BinOp.add IntKind.i64 (Prod.fst x) 1)))]
 [(0, Ob.amb)] 1 =
 St.mk 20 [(0, V.c (C.sl Lt l)), (3, V.c (C.int IntKind.i64 (Lv.ar L BinOp.add IntKind.i64 (Prod.fst x) 1)))]
 [(0, Ob.amb)] 1 ∧
 I (Lv.ar L BinOp.add IntKind.i64 (Prod.fst x) 1, ()) ∧ mu (Lv.ar L BinOp.add IntKind.i64 (Prod.fst x) 1, ()) < mu x))
 (VC.ok ((false, ()) = (LexF.thin F l, ()))))))
 (VC.ok ((true, ()) = (LexF.thin F l, ())))))))
theorem n28b_eq (L : Lv) (F : LexF) (I : Ds [It] → Prop) (mu : Ds [It] → Nat) (l : List Lx) : vcO L F [21] (D28 (a28 L I mu)) (S28 F) (l, ()) = n28b L F I mu l := by kernel_rfl
theorem n28b_go (L : Lv) (F : LexF) (I : Ds [It] → Prop) (mu : Ds [It] → Nat) (l : List Lx) (h : VC.holds (n28b L F I mu l)) : Holds (vcO L F [21] (D28 (a28 L I mu)) (S28 F) (l, ())) := Holds.of_eq (n28b_eq L F I mu l) h
def n69 (L : Lv) (p : Int × Int) (l : List Lx)  : VC :=
 VC.obl
 (Lv.inR L (Lv.ar L BinOp.sub IntKind.i64 (Lv.ar L BinOp.sub IntKind.i64 (Lv.cast L (Lv.llen L Lt l)) 1) (Prod.snd p))
 (Lv.llen L Lt l))
 (VC.ok
 (40 = 40 ∧
 [C.int IntKind.i64 (Prod.fst p), C.int IntKind.i64 (Prod.snd p), C.nils] = [C.int IntKind.i64 (Prod.fst p), C.int IntKind.i64 (Prod.snd p), C.nils] ∧
 ((Prod.fst
 (Lv.get L Lt l
 (Lv.toN L
 (Lv.ar L BinOp.sub IntKind.i64 (Lv.ar L BinOp.sub IntKind.i64 (Lv.cast L (Lv.llen L Lt l)) 1) (Prod.snd p)))),
 Prod.fst
 (Prod.snd
 (Lv.get L Lt l
 (Lv.toN L
 (Lv.ar L BinOp.sub IntKind.i64 (Lv.ar L BinOp.sub IntKind.i64 (Lv.cast L (Lv.llen L Lt l)) 1) (Prod.snd p))))),
 Prod.snd
 (Prod.snd
 (Lv.get L Lt l
 (Lv.toN L
 (Lv.ar L BinOp.sub IntKind.i64 (Lv.ar L BinOp.sub IntKind.i64 (Lv.cast L (Lv.llen L Lt l)) 1) (Prod.snd p)))))),
 ()) =
 (Lv.get L Lt l
 (Lv.toN L (Lv.ar L BinOp.sub IntKind.i64 (Lv.ar L BinOp.sub IntKind.i64 (Lv.cast L (Lv.llen L Lt l)) 1) (Prod.snd p))),
 ())))
theorem n69_eq (L : Lv) (p : Int × Int) (l : List Lx) : r69.vc L E01 (callG L E01 (fun _ => .no) 0) (spcOf (fun _ => .no)) (D69 a0) p l = n69 L p l := by kernel_rfl
theorem n69_go (L : Lv) (p : Int × Int) (l : List Lx) (h : VC.holds (n69 L p l)) : Holds (r69.vc L E01 (callG L E01 (fun _ => .no) 0) (spcOf (fun _ => .no)) (D69 a0) p l) := Holds.of_eq (n69_eq L p l) h
def n31 (L : Lv) (F : LexF) (I : K66 → Ds [It] → Prop) (mu : K66 → Ds [It] → Nat) (s t : ByteArray)  : VC :=
 VC.br (Lv.cmp L BinOp.lss 0 (Lv.cast L 2))
 (VC.obl (Lv.inR L 0 2)
 (VC.obl (Lv.ltN L (Lv.toN L 0) (Lv.llen L Ty.str [s, t]))
 (VC.obl True
 (VC.br (Lv.cmp L BinOp.neq (Prod.snd (LexF.chk F (Lv.get L Ty.str [s, t] (Lv.toN L 0)))) 0)
 (VC.ok (((0, 0, ByteArray.empty), Prod.snd (LexF.chk F (Lv.get L Ty.str [s, t] (Lv.toN L 0))), ()) = (Prod.fst (LexF.diff F s t), Prod.snd (LexF.diff F s t), ())))
 (VC.br (Lv.cmp L BinOp.lss (Lv.ar L BinOp.add IntKind.i64 0 1) (Lv.cast L 2))
 (VC.obl (Lv.inR L (Lv.ar L BinOp.add IntKind.i64 0 1) 2)
 (VC.obl (Lv.ltN L (Lv.toN L (Lv.ar L BinOp.add IntKind.i64 0 1)) (Lv.llen L Ty.str [s, t]))
 (VC.obl True
 (VC.br (Lv.cmp L BinOp.neq (Prod.snd (LexF.chk F (Lv.get L Ty.str [s, t] (Lv.toN L (Lv.ar L BinOp.add IntKind.i64 0 1))))) 0)
 (VC.ok
 (((0, 0, ByteArray.empty), Prod.snd (LexF.chk F (Lv.get L Ty.str [s, t] (Lv.toN L (Lv.ar L BinOp.add IntKind.i64 0 1)))), ()) =
 (Prod.fst (LexF.diff F s t), Prod.snd (LexF.diff F s t), ())))
 (VC.br (Lv.cmp L BinOp.lss (Lv.ar L BinOp.add IntKind.i64 (Lv.ar L BinOp.add IntKind.i64 0 1) 1) (Lv.cast L 2))
 (VC.obl (Lv.inR L (Lv.ar L BinOp.add IntKind.i64 (Lv.ar L BinOp.add IntKind.i64 0 1) 1) 2)
 (VC.obl (Lv.ltN L (Lv.toN L (Lv.ar L BinOp.add IntKind.i64 (Lv.ar L BinOp.add IntKind.i64 0 1) 1)) (Lv.llen L Ty.str [s, t]))
 (VC.obl True
 (VC.br (Lv.cmp L BinOp.neq (Prod.snd (LexF.chk F (Lv.get L Ty.str [s, t] (Lv.toN L (Lv.ar L BinOp.add IntKind.i64 (Lv.ar L BinOp.add IntKind.i64 0 1) 1))))) 0)
 (VC.ok
 (((0, 0, ByteArray.empty), Prod.snd (LexF.chk F (Lv.get L Ty.str [s, t] (Lv.toN L (Lv.ar L BinOp.add IntKind.i64 (Lv.ar L BinOp.add IntKind.i64 0 1) 1)))),
 ()) =
 (Prod.fst (LexF.diff F s t), Prod.snd (LexF.diff F s t), ())))
 VC.bad))))
 (VC.obl
 (St.mk 23
 [(0, V.c (C.int IntKind.i64 (Lv.mn L (Lv.cast L (Lv.slen L s)) (Lv.cast L (Lv.slen L t))))), (1, V.c (C.fn 101 [3])), (2, V.c (C.fn 101 [4])),
 (7, V.c (C.int IntKind.i64 0))]
 [(0, Ob.amb), (1, Ob.box 35 [C.int IntKind.i64 0, C.int IntKind.i64 0, C.str ByteArray.empty]), (2, Ob.row 9 Ty.str [s, t]), (3, Ob.box 9 [C.str s]),
 (4, Ob.box 9 [C.str t])]
 5 =
 St.mk 23
 [(0, V.c (C.int IntKind.i64 (Lv.mn L (Lv.cast L (Lv.slen L s)) (Lv.cast L (Lv.slen L t))))), (1, V.c (C.fn 101 [3])), (2, V.c (C.fn 101 [4])),
 (7, V.c (C.int IntKind.i64 0))]
 [(0, Ob.amb), (1, Ob.box 35 [C.int IntKind.i64 0, C.int IntKind.i64 0, C.str ByteArray.empty]), (2, Ob.row 9 Ty.str [s, t]), (3, Ob.box 9 [C.str s]),
 (4, Ob.box 9 [C.str t])]
 5)
 (VC.obl (I (Lv.mn L (Lv.cast L (Lv.slen L s)) (Lv.cast L (Lv.slen L t)), (101, s), 101, t) (0, ()))
 (VC.all (Int × Unit) fun (x : Int × Unit) =>
 VC.imp (I (Lv.mn L (Lv.cast L (Lv.slen L s)) (Lv.cast L (Lv.slen L t)), (101, s), 101, t) x)
 (VC.br (Lv.cmp L BinOp.lss (Prod.fst x) (Lv.mn L (Lv.cast L (Lv.slen L s)) (Lv.cast L (Lv.slen L t))))
 (VC.obl (Lv.inR L (Prod.fst x) (Lv.slen L s))
 (VC.obl (Lv.inR L (Prod.fst x) (Lv.slen L t))
 (VC.br (Lv.cmp L BinOp.eql (Lv.byte L s (Prod.fst x)) (Lv.byte L t (Prod.fst x)))
 (VC.ok
 (St.mk 23
 [(0, V.c (C.int IntKind.i64 (Lv.mn L (Lv.cast L (Lv.slen L s)) (Lv.cast L (Lv.slen L t))))), (1, V.c (C.fn 101 [3])), (2, V.c (C.fn 101 [4])),
 (7, V.c (C.int IntKind.i64 (Lv.ar L BinOp.add IntKind.i64 (Prod.fst x) 1)))]
 [(0, Ob.amb), (1, Ob.box 35 [C.int IntKind.i64 0, C.int IntKind.i64 0, C.str ByteArray.empty]), (2, Ob.row 9 Ty.str [s, t]), (3, Ob.box 9 [C.str s]),
 (4, Ob.box 9 [C.str t])]
 5 =
 St.mk 23
 [(0, V.c (C.int IntKind.i64 (Lv.mn L (Lv.cast L (Lv.slen L s)) (Lv.cast L (Lv.slen L t))))), (1, V.c (C.fn 101 [3])), (2, V.c (C.fn 101 [4])),
 (7, V.c (C.int IntKind.i64 (Lv.ar L BinOp.add IntKind.i64 (Prod.fst x) 1)))]
 [(0, Ob.amb), (1, Ob.box 35 [C.int IntKind.i64 0, C.int IntKind.i64 0, C.str ByteArray.empty]), (2, Ob.row 9 Ty.str [s, t]), (3, Ob.box 9 [C.str s]),
 (4, Ob.box 9 [C.str t])]
 5 ∧
 I (Lv.mn L (Lv.cast L (Lv.slen L s)) (Lv.cast L (Lv.slen L t)), (101, s), 101, t) (Lv.ar L BinOp.add IntKind.i64 (Prod.fst x) 1, ()) ∧
 mu (Lv.mn L (Lv.cast L (Lv.slen L s)) (Lv.cast L (Lv.slen L t)), (101, s), 101, t) (Lv.ar L BinOp.add IntKind.i64 (Prod.fst x) 1, ()) <
 mu (Lv.mn L (Lv.cast L (Lv.slen L s)) (Lv.cast L (Lv.slen L t)), (101, s), 101, t) x))
 (VC.obl (Lv.le3 L (Prod.fst x) (Lv.cast L (Lv.slen L s)) (Lv.slen L s))
 (VC.obl (Lv.le3 L (Prod.fst x) (Lv.cast L (Lv.slen L t)) (Lv.slen L t))
 (VC.obl
 (St.mk 23
 [(0,
 V.c
 (C.int IntKind.i64
 (Lv.mn L (Lv.cast L (Lv.slen L (Lv.ext L s (Lv.toN L (Prod.fst x)) (Lv.toN L (Lv.cast L (Lv.slen L s))))))
 (Lv.cast L (Lv.slen L (Lv.ext L t (Lv.toN L (Prod.fst x)) (Lv.toN L (Lv.cast L (Lv.slen L t))))))))),
 (1, V.c (C.fn 102 [5])), (2, V.c (C.fn 102 [6])), (7, V.c (C.int IntKind.i64 0))]
 [(0, Ob.amb), (1, Ob.box 35 [C.int IntKind.i64 0, C.int IntKind.i64 0, C.str ByteArray.empty]), (2, Ob.row 9 Ty.str [s, t]), (3, Ob.box 9 [C.str s]),
 (4, Ob.box 9 [C.str t]), (5, Ob.box 9 [C.str (Lv.ext L s (Lv.toN L (Prod.fst x)) (Lv.toN L (Lv.cast L (Lv.slen L s))))]),
 (6, Ob.box 9 [C.str (Lv.ext L t (Lv.toN L (Prod.fst x)) (Lv.toN L (Lv.cast L (Lv.slen L t))))])]
 7 =
 St.mk 23
 [(0,
 V.c
 (C.int IntKind.i64
 (Lv.mn L (Lv.cast L (Lv.slen L (Lv.ext L s (Lv.toN L (Prod.fst x)) (Lv.toN L (Lv.cast L (Lv.slen L s))))))
 (Lv.cast L (Lv.slen L (Lv.ext L t (Lv.toN L (Prod.fst x)) (Lv.toN L (Lv.cast L (Lv.slen L t))))))))),
 (1, V.c (C.fn 102 [5])), (2, V.c (C.fn 102 [6])), (7, V.c (C.int IntKind.i64 0))]
 [(0, Ob.amb), (1, Ob.box 35 [C.int IntKind.i64 0, C.int IntKind.i64 0, C.str ByteArray.empty]), (2, Ob.row 9 Ty.str [s, t]), (3, Ob.box 9 [C.str s]),
 (4, Ob.box 9 [C.str t]), (5, Ob.box 9 [C.str (Lv.ext L s (Lv.toN L (Prod.fst x)) (Lv.toN L (Lv.cast L (Lv.slen L s))))]),
 (6, Ob.box 9 [C.str (Lv.ext L t (Lv.toN L (Prod.fst x)) (Lv.toN L (Lv.cast L (Lv.slen L t))))])]
 7)
 (VC.obl
 (I
 (Lv.mn L (Lv.cast L (Lv.slen L (Lv.ext L s (Lv.toN L (Prod.fst x)) (Lv.toN L (Lv.cast L (Lv.slen L s))))))
 (Lv.cast L (Lv.slen L (Lv.ext L t (Lv.toN L (Prod.fst x)) (Lv.toN L (Lv.cast L (Lv.slen L t)))))),
 (102, Lv.ext L s (Lv.toN L (Prod.fst x)) (Lv.toN L (Lv.cast L (Lv.slen L s)))), 102,
 Lv.ext L t (Lv.toN L (Prod.fst x)) (Lv.toN L (Lv.cast L (Lv.slen L t))))
 (0, ()))
 (VC.all (Int × Unit) fun (x_1 : Int × Unit) =>
 VC.imp
 (I
 (Lv.mn L (Lv.cast L (Lv.slen L (Lv.ext L s (Lv.toN L (Prod.fst x)) (Lv.toN L (Lv.cast L (Lv.slen L s))))))
 (Lv.cast L (Lv.slen L (Lv.ext L t (Lv.toN L (Prod.fst x)) (Lv.toN L (Lv.cast L (Lv.slen L t)))))),
 (102, Lv.ext L s (Lv.toN L (Prod.fst x)) (Lv.toN L (Lv.cast L (Lv.slen L s)))), 102,
 Lv.ext L t (Lv.toN L (Prod.fst x)) (Lv.toN L (Lv.cast L (Lv.slen L t))))
 x_1)
 (VC.br
 (Lv.cmp L BinOp.lss (Prod.fst x_1)
 (Lv.mn L (Lv.cast L (Lv.slen L (Lv.ext L s (Lv.toN L (Prod.fst x)) (Lv.toN L (Lv.cast L (Lv.slen L s))))))
 (Lv.cast L (Lv.slen L (Lv.ext L t (Lv.toN L (Prod.fst x)) (Lv.toN L (Lv.cast L (Lv.slen L t))))))))
 (VC.obl
 (Lv.inR L
 (Lv.ar L BinOp.sub IntKind.i64
 (Lv.ar L BinOp.sub IntKind.i64 (Lv.cast L (Lv.slen L (Lv.ext L s (Lv.toN L (Prod.fst x)) (Lv.toN L (Lv.cast L (Lv.slen L s)))))) 1)
 (Prod.fst x_1))
 (Lv.slen L (Lv.ext L s (Lv.toN L (Prod.fst x)) (Lv.toN L (Lv.cast L (Lv.slen L s))))))
 (VC.obl
 (Lv.inR L
 (Lv.ar L BinOp.sub IntKind.i64
 (Lv.ar L BinOp.sub IntKind.i64 (Lv.cast L (Lv.slen L (Lv.ext L t (Lv.toN L (Prod.fst x)) (Lv.toN L (Lv.cast L (Lv.slen L t)))))) 1)
 (Prod.fst x_1))
 (Lv.slen L (Lv.ext L t (Lv.toN L (Prod.fst x)) (Lv.toN L (Lv.cast L (Lv.slen L t))))))
 (VC.br
 (Lv.cmp L BinOp.eql
 (Lv.byte L (Lv.ext L s (Lv.toN L (Prod.fst x)) (Lv.toN L (Lv.cast L (Lv.slen L s))))
 (Lv.ar L BinOp.sub IntKind.i64
 (Lv.ar L BinOp.sub IntKind.i64 (Lv.cast L (Lv.slen L (Lv.ext L s (Lv.toN L (Prod.fst x)) (Lv.toN L (Lv.cast L (Lv.slen L s)))))) 1)
 (Prod.fst x_1)))
 (Lv.byte L (Lv.ext L t (Lv.toN L (Prod.fst x)) (Lv.toN L (Lv.cast L (Lv.slen L t))))
 (Lv.ar L BinOp.sub IntKind.i64
 (Lv.ar L BinOp.sub IntKind.i64 (Lv.cast L (Lv.slen L (Lv.ext L t (Lv.toN L (Prod.fst x)) (Lv.toN L (Lv.cast L (Lv.slen L t)))))) 1)
 (Prod.fst x_1))))
 (VC.ok
 (St.mk 23
 [(0,
 V.c
 (C.int IntKind.i64
 (Lv.mn L (Lv.cast L (Lv.slen L (Lv.ext L s (Lv.toN L (Prod.fst x)) (Lv.toN L (Lv.cast L (Lv.slen L s))))))
 (Lv.cast L (Lv.slen L (Lv.ext L t (Lv.toN L (Prod.fst x)) (Lv.toN L (Lv.cast L (Lv.slen L t))))))))),
 (1, V.c (C.fn 102 [5])), (2, V.c (C.fn 102 [6])), (7, V.c (C.int IntKind.i64 (Lv.ar L BinOp.add IntKind.i64 (Prod.fst x_1) 1)))]
 [(0, Ob.amb), (1, Ob.box 35 [C.int IntKind.i64 0, C.int IntKind.i64 0, C.str ByteArray.empty]), (2, Ob.row 9 Ty.str [s, t]),
 (3, Ob.box 9 [C.str s]), (4, Ob.box 9 [C.str t]),
 (5, Ob.box 9 [C.str (Lv.ext L s (Lv.toN L (Prod.fst x)) (Lv.toN L (Lv.cast L (Lv.slen L s))))]),
 (6, Ob.box 9 [C.str (Lv.ext L t (Lv.toN L (Prod.fst x)) (Lv.toN L (Lv.cast L (Lv.slen L t))))])]
 7 =
 St.mk 23
 [(0,
 V.c
 (C.int IntKind.i64
 (Lv.mn L (Lv.cast L (Lv.slen L (Lv.ext L s (Lv.toN L (Prod.fst x)) (Lv.toN L (Lv.cast L (Lv.slen L s))))))
 (Lv.cast L (Lv.slen L (Lv.ext L t (Lv.toN L (Prod.fst x)) (Lv.toN L (Lv.cast L (Lv.slen L t))))))))),
 (1, V.c (C.fn 102 [5])), (2, V.c (C.fn 102 [6])), (7, V.c (C.int IntKind.i64 (Lv.ar L BinOp.add IntKind.i64 (Prod.fst x_1) 1)))]
 [(0, Ob.amb), (1, Ob.box 35 [C.int IntKind.i64 0, C.int IntKind.i64 0, C.str ByteArray.empty]), (2, Ob.row 9 Ty.str [s, t]),
 (3, Ob.box 9 [C.str s]), (4, Ob.box 9 [C.str t]),
 (5, Ob.box 9 [C.str (Lv.ext L s (Lv.toN L (Prod.fst x)) (Lv.toN L (Lv.cast L (Lv.slen L s))))]),
 (6, Ob.box 9 [C.str (Lv.ext L t (Lv.toN L (Prod.fst x)) (Lv.toN L (Lv.cast L (Lv.slen L t))))])]
 7 ∧
 I
 (Lv.mn L (Lv.cast L (Lv.slen L (Lv.ext L s (Lv.toN L (Prod.fst x)) (Lv.toN L (Lv.cast L (Lv.slen L s))))))
 (Lv.cast L (Lv.slen L (Lv.ext L t (Lv.toN L (Prod.fst x)) (Lv.toN L (Lv.cast L (Lv.slen L t)))))),
 (102, Lv.ext L s (Lv.toN L (Prod.fst x)) (Lv.toN L (Lv.cast L (Lv.slen L s)))), 102,
 Lv.ext L t (Lv.toN L (Prod.fst x)) (Lv.toN L (Lv.cast L (Lv.slen L t))))
 (Lv.ar L BinOp.add IntKind.i64 (Prod.fst x_1) 1, ()) ∧
 mu
 (Lv.mn L (Lv.cast L (Lv.slen L (Lv.ext L s (Lv.toN L (Prod.fst x)) (Lv.toN L (Lv.cast L (Lv.slen L s))))))
 (Lv.cast L (Lv.slen L (Lv.ext L t (Lv.toN L (Prod.fst x)) (Lv.toN L (Lv.cast L (Lv.slen L t)))))),
 (102, Lv.ext L s (Lv.toN L (Prod.fst x)) (Lv.toN L (Lv.cast L (Lv.slen L s)))), 102,
 Lv.ext L t (Lv.toN L (Prod.fst x)) (Lv.toN L (Lv.cast L (Lv.slen L t))))
 (Lv.ar L BinOp.add IntKind.i64 (Prod.fst x_1) 1, ()) <
 mu
 (Lv.mn L (Lv.cast L (Lv.slen L (Lv.ext L s (Lv.toN L (Prod.fst x)) (Lv.toN L (Lv.cast L (Lv.slen L s))))))
 (Lv.cast L (Lv.slen L (Lv.ext L t (Lv.toN L (Prod.fst x)) (Lv.toN L (Lv.cast L (Lv.slen L t)))))),
 (102, Lv.ext L s (Lv.toN L (Prod.fst x)) (Lv.toN L (Lv.cast L (Lv.slen L s)))), 102,
 Lv.ext L t (Lv.toN L (Prod.fst x)) (Lv.toN L (Lv.cast L (Lv.slen L t))))
 x_1))
 (VC.obl
 (Lv.le3 L (Lv.cast L 0)
 (Lv.ar L BinOp.sub IntKind.i64 (Lv.cast L (Lv.slen L (Lv.ext L t (Lv.toN L (Prod.fst x)) (Lv.toN L (Lv.cast L (Lv.slen L t))))))
 (Prod.fst x_1))
 (Lv.slen L (Lv.ext L t (Lv.toN L (Prod.fst x)) (Lv.toN L (Lv.cast L (Lv.slen L t))))))
 (VC.ok
 (((Prod.fst x, Lv.ar L BinOp.sub IntKind.i64 (Lv.cast L (Lv.slen L s)) (Prod.fst x_1),
 Lv.ext L (Lv.ext L t (Lv.toN L (Prod.fst x)) (Lv.toN L (Lv.cast L (Lv.slen L t)))) (Lv.toN L (Lv.cast L 0))
 (Lv.toN L
 (Lv.ar L BinOp.sub IntKind.i64 (Lv.cast L (Lv.slen L (Lv.ext L t (Lv.toN L (Prod.fst x)) (Lv.toN L (Lv.cast L (Lv.slen L t))))))
 (Prod.fst x_1)))),
 0, ()) =
 (Prod.fst (LexF.diff F s t), Prod.snd (LexF.diff F s t), ())))))))
 (VC.obl
 (Lv.le3 L (Lv.cast L 0)
 (Lv.ar L BinOp.sub IntKind.i64 (Lv.cast L (Lv.slen L (Lv.ext L t (Lv.toN L (Prod.fst x)) (Lv.toN L (Lv.cast L (Lv.slen L t)))))) (Prod.fst x_1))
 (Lv.slen L (Lv.ext L t (Lv.toN L (Prod.fst x)) (Lv.toN L (Lv.cast L (Lv.slen L t))))))
 (VC.ok
 (((Prod.fst x, Lv.ar L BinOp.sub IntKind.i64 (Lv.cast L (Lv.slen L s)) (Prod.fst x_1),
 Lv.ext L (Lv.ext L t (Lv.toN L (Prod.fst x)) (Lv.toN L (Lv.cast L (Lv.slen L t)))) (Lv.toN L (Lv.cast L 0))
 (Lv.toN L
 (Lv.ar L BinOp.sub IntKind.i64 (Lv.cast L (Lv.slen L (Lv.ext L t (Lv.toN L (Prod.fst x)) (Lv.toN L (Lv.cast L (Lv.slen L t))))))
 (Prod.fst x_1)))),
 0, ()) =
 (Prod.fst (LexF.diff F s t), Prod.snd (LexF.diff F s t), ())))))))))))))
 (VC.obl (Lv.le3 L (Prod.fst x) (Lv.cast L (Lv.slen L s)) (Lv.slen L s))
 (VC.obl (Lv.le3 L (Prod.fst x) (Lv.cast L (Lv.slen L t)) (Lv.slen L t))
 (VC.obl
 (St.mk 23
 [(0,
 V.c
 (C.int IntKind.i64
 (Lv.mn L (Lv.cast L (Lv.slen L (Lv.ext L s (Lv.toN L (Prod.fst x)) (Lv.toN L (Lv.cast L (Lv.slen L s))))))
 (Lv.cast L (Lv.slen L (Lv.ext L t (Lv.toN L (Prod.fst x)) (Lv.toN L (Lv.cast L (Lv.slen L t))))))))),
 (1, V.c (C.fn 102 [5])), (2, V.c (C.fn 102 [6])), (7, V.c (C.int IntKind.i64 0))]
 [(0, Ob.amb), (1, Ob.box 35 [C.int IntKind.i64 0, C.int IntKind.i64 0, C.str ByteArray.empty]), (2, Ob.row 9 Ty.str [s, t]), (3, Ob.box 9 [C.str s]),
 (4, Ob.box 9 [C.str t]), (5, Ob.box 9 [C.str (Lv.ext L s (Lv.toN L (Prod.fst x)) (Lv.toN L (Lv.cast L (Lv.slen L s))))]),
 (6, Ob.box 9 [C.str (Lv.ext L t (Lv.toN L (Prod.fst x)) (Lv.toN L (Lv.cast L (Lv.slen L t))))])]
 7 =
 St.mk 23
 [(0,
 V.c
 (C.int IntKind.i64
 (Lv.mn L (Lv.cast L (Lv.slen L (Lv.ext L s (Lv.toN L (Prod.fst x)) (Lv.toN L (Lv.cast L (Lv.slen L s))))))
 (Lv.cast L (Lv.slen L (Lv.ext L t (Lv.toN L (Prod.fst x)) (Lv.toN L (Lv.cast L (Lv.slen L t))))))))),
 (1, V.c (C.fn 102 [5])), (2, V.c (C.fn 102 [6])), (7, V.c (C.int IntKind.i64 0))]
 [(0, Ob.amb), (1, Ob.box 35 [C.int IntKind.i64 0, C.int IntKind.i64 0, C.str ByteArray.empty]), (2, Ob.row 9 Ty.str [s, t]), (3, Ob.box 9 [C.str s]),
 (4, Ob.box 9 [C.str t]), (5, Ob.box 9 [C.str (Lv.ext L s (Lv.toN L (Prod.fst x)) (Lv.toN L (Lv.cast L (Lv.slen L s))))]),
 (6, Ob.box 9 [C.str (Lv.ext L t (Lv.toN L (Prod.fst x)) (Lv.toN L (Lv.cast L (Lv.slen L t))))])]
 7)
 (VC.obl
 (I
 (Lv.mn L (Lv.cast L (Lv.slen L (Lv.ext L s (Lv.toN L (Prod.fst x)) (Lv.toN L (Lv.cast L (Lv.slen L s))))))
 (Lv.cast L (Lv.slen L (Lv.ext L t (Lv.toN L (Prod.fst x)) (Lv.toN L (Lv.cast L (Lv.slen L t)))))),
 (102, Lv.ext L s (Lv.toN L (Prod.fst x)) (Lv.toN L (Lv.cast L (Lv.slen L s)))), 102,
 Lv.ext L t (Lv.toN L (Prod.fst x)) (Lv.toN L (Lv.cast L (Lv.slen L t))))
 (0, ()))
 (VC.all (Int × Unit) fun (x_1 : Int × Unit) =>
 VC.imp
 (I
 (Lv.mn L (Lv.cast L (Lv.slen L (Lv.ext L s (Lv.toN L (Prod.fst x)) (Lv.toN L (Lv.cast L (Lv.slen L s))))))
 (Lv.cast L (Lv.slen L (Lv.ext L t (Lv.toN L (Prod.fst x)) (Lv.toN L (Lv.cast L (Lv.slen L t)))))),
 (102, Lv.ext L s (Lv.toN L (Prod.fst x)) (Lv.toN L (Lv.cast L (Lv.slen L s)))), 102,
 Lv.ext L t (Lv.toN L (Prod.fst x)) (Lv.toN L (Lv.cast L (Lv.slen L t))))
 x_1)
 (VC.br
 (Lv.cmp L BinOp.lss (Prod.fst x_1)
 (Lv.mn L (Lv.cast L (Lv.slen L (Lv.ext L s (Lv.toN L (Prod.fst x)) (Lv.toN L (Lv.cast L (Lv.slen L s))))))
 (Lv.cast L (Lv.slen L (Lv.ext L t (Lv.toN L (Prod.fst x)) (Lv.toN L (Lv.cast L (Lv.slen L t))))))))
 (VC.obl
 (Lv.inR L
 (Lv.ar L BinOp.sub IntKind.i64
 (Lv.ar L BinOp.sub IntKind.i64 (Lv.cast L (Lv.slen L (Lv.ext L s (Lv.toN L (Prod.fst x)) (Lv.toN L (Lv.cast L (Lv.slen L s)))))) 1) (Prod.fst x_1))
 (Lv.slen L (Lv.ext L s (Lv.toN L (Prod.fst x)) (Lv.toN L (Lv.cast L (Lv.slen L s))))))
 (VC.obl
 (Lv.inR L
 (Lv.ar L BinOp.sub IntKind.i64
 (Lv.ar L BinOp.sub IntKind.i64 (Lv.cast L (Lv.slen L (Lv.ext L t (Lv.toN L (Prod.fst x)) (Lv.toN L (Lv.cast L (Lv.slen L t)))))) 1)
 (Prod.fst x_1))
 (Lv.slen L (Lv.ext L t (Lv.toN L (Prod.fst x)) (Lv.toN L (Lv.cast L (Lv.slen L t))))))
 (VC.br
 (Lv.cmp L BinOp.eql
 (Lv.byte L (Lv.ext L s (Lv.toN L (Prod.fst x)) (Lv.toN L (Lv.cast L (Lv.slen L s))))
 (Lv.ar L BinOp.sub IntKind.i64
 (Lv.ar L BinOp.sub IntKind.i64 (Lv.cast L (Lv.slen L (Lv.ext L s (Lv.toN L (Prod.fst x)) (Lv.toN L (Lv.cast L (Lv.slen L s)))))) 1)
 (Prod.fst x_1)))
 (Lv.byte L (Lv.ext L t (Lv.toN L (Prod.fst x)) (Lv.toN L (Lv.cast L (Lv.slen L t))))
 (Lv.ar L BinOp.sub IntKind.i64
 (Lv.ar L BinOp.sub IntKind.i64 (Lv.cast L (Lv.slen L (Lv.ext L t (Lv.toN L (Prod.fst x)) (Lv.toN L (Lv.cast L (Lv.slen L t)))))) 1)
 (Prod.fst x_1))))
 (VC.ok
 (St.mk 23
 [(0,
 V.c
 (C.int IntKind.i64
 (Lv.mn L (Lv.cast L (Lv.slen L (Lv.ext L s (Lv.toN L (Prod.fst x)) (Lv.toN L (Lv.cast L (Lv.slen L s))))))
 (Lv.cast L (Lv.slen L (Lv.ext L t (Lv.toN L (Prod.fst x)) (Lv.toN L (Lv.cast L (Lv.slen L t))))))))),
 (1, V.c (C.fn 102 [5])), (2, V.c (C.fn 102 [6])), (7, V.c (C.int IntKind.i64 (Lv.ar L BinOp.add IntKind.i64 (Prod.fst x_1) 1)))]
 [(0, Ob.amb), (1, Ob.box 35 [C.int IntKind.i64 0, C.int IntKind.i64 0, C.str ByteArray.empty]), (2, Ob.row 9 Ty.str [s, t]),
 (3, Ob.box 9 [C.str s]), (4, Ob.box 9 [C.str t]),
 (5, Ob.box 9 [C.str (Lv.ext L s (Lv.toN L (Prod.fst x)) (Lv.toN L (Lv.cast L (Lv.slen L s))))]),
 (6, Ob.box 9 [C.str (Lv.ext L t (Lv.toN L (Prod.fst x)) (Lv.toN L (Lv.cast L (Lv.slen L t))))])]
 7 =
 St.mk 23
 [(0,
 V.c
 (C.int IntKind.i64
 (Lv.mn L (Lv.cast L (Lv.slen L (Lv.ext L s (Lv.toN L (Prod.fst x)) (Lv.toN L (Lv.cast L (Lv.slen L s))))))
 (Lv.cast L (Lv.slen L (Lv.ext L t (Lv.toN L (Prod.fst x)) (Lv.toN L (Lv.cast L (Lv.slen L t))))))))),
 (1, V.c (C.fn 102 [5])), (2, V.c (C.fn 102 [6])), (7, V.c (C.int IntKind.i64 (Lv.ar L BinOp.add IntKind.i64 (Prod.fst x_1) 1)))]
 [(0, Ob.amb), (1, Ob.box 35 [C.int IntKind.i64 0, C.int IntKind.i64 0, C.str ByteArray.empty]), (2, Ob.row 9 Ty.str [s, t]),
 (3, Ob.box 9 [C.str s]), (4, Ob.box 9 [C.str t]),
 (5, Ob.box 9 [C.str (Lv.ext L s (Lv.toN L (Prod.fst x)) (Lv.toN L (Lv.cast L (Lv.slen L s))))]),
 (6, Ob.box 9 [C.str (Lv.ext L t (Lv.toN L (Prod.fst x)) (Lv.toN L (Lv.cast L (Lv.slen L t))))])]
 7 ∧
 I
 (Lv.mn L (Lv.cast L (Lv.slen L (Lv.ext L s (Lv.toN L (Prod.fst x)) (Lv.toN L (Lv.cast L (Lv.slen L s))))))
 (Lv.cast L (Lv.slen L (Lv.ext L t (Lv.toN L (Prod.fst x)) (Lv.toN L (Lv.cast L (Lv.slen L t)))))),
 (102, Lv.ext L s (Lv.toN L (Prod.fst x)) (Lv.toN L (Lv.cast L (Lv.slen L s)))), 102,
 Lv.ext L t (Lv.toN L (Prod.fst x)) (Lv.toN L (Lv.cast L (Lv.slen L t))))
 (Lv.ar L BinOp.add IntKind.i64 (Prod.fst x_1) 1, ()) ∧
 mu
 (Lv.mn L (Lv.cast L (Lv.slen L (Lv.ext L s (Lv.toN L (Prod.fst x)) (Lv.toN L (Lv.cast L (Lv.slen L s))))))
 (Lv.cast L (Lv.slen L (Lv.ext L t (Lv.toN L (Prod.fst x)) (Lv.toN L (Lv.cast L (Lv.slen L t)))))),
 (102, Lv.ext L s (Lv.toN L (Prod.fst x)) (Lv.toN L (Lv.cast L (Lv.slen L s)))), 102,
 Lv.ext L t (Lv.toN L (Prod.fst x)) (Lv.toN L (Lv.cast L (Lv.slen L t))))
 (Lv.ar L BinOp.add IntKind.i64 (Prod.fst x_1) 1, ()) <
 mu
 (Lv.mn L (Lv.cast L (Lv.slen L (Lv.ext L s (Lv.toN L (Prod.fst x)) (Lv.toN L (Lv.cast L (Lv.slen L s))))))
 (Lv.cast L (Lv.slen L (Lv.ext L t (Lv.toN L (Prod.fst x)) (Lv.toN L (Lv.cast L (Lv.slen L t)))))),
 (102, Lv.ext L s (Lv.toN L (Prod.fst x)) (Lv.toN L (Lv.cast L (Lv.slen L s)))), 102,
 Lv.ext L t (Lv.toN L (Prod.fst x)) (Lv.toN L (Lv.cast L (Lv.slen L t))))
 x_1))
 (VC.obl
 (Lv.le3 L (Lv.cast L 0)
 (Lv.ar L BinOp.sub IntKind.i64 (Lv.cast L (Lv.slen L (Lv.ext L t (Lv.toN L (Prod.fst x)) (Lv.toN L (Lv.cast L (Lv.slen L t)))))) (Prod.fst x_1))
 (Lv.slen L (Lv.ext L t (Lv.toN L (Prod.fst x)) (Lv.toN L (Lv.cast L (Lv.slen L t))))))
 (VC.ok
 (((Prod.fst x, Lv.ar L BinOp.sub IntKind.i64 (Lv.cast L (Lv.slen L s)) (Prod.fst x_1),
 Lv.ext L (Lv.ext L t (Lv.toN L (Prod.fst x)) (Lv.toN L (Lv.cast L (Lv.slen L t)))) (Lv.toN L (Lv.cast L 0))
 (Lv.toN L
 (Lv.ar L BinOp.sub IntKind.i64 (Lv.cast L (Lv.slen L (Lv.ext L t (Lv.toN L (Prod.fst x)) (Lv.toN L (Lv.cast L (Lv.slen L t))))))
 (Prod.fst x_1)))),
 0, ()) =
 (Prod.fst (LexF.diff F s t), Prod.snd (LexF.diff F s t), ())))))))
 (VC.obl
 (Lv.le3 L (Lv.cast L 0)
 (Lv.ar L BinOp.sub IntKind.i64 (Lv.cast L (Lv.slen L (Lv.ext L t (Lv.toN L (Prod.fst x)) (Lv.toN L (Lv.cast L (Lv.slen L t)))))) (Prod.fst x_1))
 (Lv.slen L (Lv.ext L t (Lv.toN L (Prod.fst x)) (Lv.toN L (Lv.cast L (Lv.slen L t))))))
 (VC.ok
 (((Prod.fst x, Lv.ar L BinOp.sub IntKind.i64 (Lv.cast L (Lv.slen L s)) (Prod.fst x_1),
 Lv.ext L (Lv.ext L t (Lv.toN L (Prod.fst x)) (Lv.toN L (Lv.cast L (Lv.slen L t)))) (Lv.toN L (Lv.cast L 0))
 (Lv.toN L
 (Lv.ar L BinOp.sub IntKind.i64 (Lv.cast L (Lv.slen L (Lv.ext L t (Lv.toN L (Prod.fst x)) (Lv.toN L (Lv.cast L (Lv.slen L t))))))
 (Prod.fst x_1)))),
 0, ()) =
 (Prod.fst (LexF.diff F s t), Prod.snd (LexF.diff F s t), ())))))))))))))))))))
 (VC.obl
 (St.mk 23 [(0, V.c (C.int IntKind.i64 (Lv.mn L (Lv.cast L (Lv.slen L s)) (Lv.cast L (Lv.slen L t))))), (1, V.c (C.fn 101 [3])), (2, V.c (C.fn 101 [4])), (7, V.c (C.int IntKind.i64 0))]
 [(0, Ob.amb), (1, Ob.box 35 [C.int IntKind.i64 0, C.int IntKind.i64 0, C.str ByteArray.empty]), (2, Ob.row 9 Ty.str [s, t]), (3, Ob.box 9 [C.str s]), (4, Ob.box 9 [C.str t])] 5 =
 St.mk 23 [(0, V.c (C.int IntKind.i64 (Lv.mn L (Lv.cast L (Lv.slen L s)) (Lv.cast L (Lv.slen L t))))), (1, V.c (C.fn 101 [3])), (2, V.c (C.fn 101 [4])), (7, V.c (C.int IntKind.i64 0))]
 [(0, Ob.amb), (1, Ob.box 35 [C.int IntKind.i64 0, C.int IntKind.i64 0, C.str ByteArray.empty]), (2, Ob.row 9 Ty.str [s, t]), (3, Ob.box 9 [C.str s]), (4, Ob.box 9 [C.str t])] 5)
 (VC.obl (I (Lv.mn L (Lv.cast L (Lv.slen L s)) (Lv.cast L (Lv.slen L t)), (101, s), 101, t) (0, ()))
 (VC.all (Int × Unit) fun (x : Int × Unit) =>
 VC.imp (I (Lv.mn L (Lv.cast L (Lv.slen L s)) (Lv.cast L (Lv.slen L t)), (101, s), 101, t) x)
 (VC.br (Lv.cmp L BinOp.lss (Prod.fst x) (Lv.mn L (Lv.cast L (Lv.slen L s)) (Lv.cast L (Lv.slen L t))))
 (VC.obl (Lv.inR L (Prod.fst x) (Lv.slen L s))
 (VC.obl (Lv.inR L (Prod.fst x) (Lv.slen L t))
 (VC.br (Lv.cmp L BinOp.eql (Lv.byte L s (Prod.fst x)) (Lv.byte L t (Prod.fst x)))
 (VC.ok
 (St.mk 23
 [(0, V.c (C.int IntKind.i64 (Lv.mn L (Lv.cast L (Lv.slen L s)) (Lv.cast L (Lv.slen L t))))), (1, V.c (C.fn 101 [3])), (2, V.c (C.fn 101 [4])),
 (7, V.c (C.int IntKind.i64 (Lv.ar L BinOp.add IntKind.i64 (Prod.fst x) 1)))]
 [(0, Ob.amb), (1, Ob.box 35 [C.int IntKind.i64 0, C.int IntKind.i64 0, C.str ByteArray.empty]), (2, Ob.row 9 Ty.str [s, t]), (3, Ob.box 9 [C.str s]),
 (4, Ob.box 9 [C.str t])]
 5 =
 St.mk 23
 [(0, V.c (C.int IntKind.i64 (Lv.mn L (Lv.cast L (Lv.slen L s)) (Lv.cast L (Lv.slen L t))))), (1, V.c (C.fn 101 [3])), (2, V.c (C.fn 101 [4])),
 (7, V.c (C.int IntKind.i64 (Lv.ar L BinOp.add IntKind.i64 (Prod.fst x) 1)))]
 [(0, Ob.amb), (1, Ob.box 35 [C.int IntKind.i64 0, C.int IntKind.i64 0, C.str ByteArray.empty]), (2, Ob.row 9 Ty.str [s, t]), (3, Ob.box 9 [C.str s]),
 (4, Ob.box 9 [C.str t])]
 5 ∧
 I (Lv.mn L (Lv.cast L (Lv.slen L s)) (Lv.cast L (Lv.slen L t)), (101, s), 101, t) (Lv.ar L BinOp.add IntKind.i64 (Prod.fst x) 1, ()) ∧
 mu (Lv.mn L (Lv.cast L (Lv.slen L s)) (Lv.cast L (Lv.slen L t)), (101, s), 101, t) (Lv.ar L BinOp.add IntKind.i64 (Prod.fst x) 1, ()) <
 mu (Lv.mn L (Lv.cast L (Lv.slen L s)) (Lv.cast L (Lv.slen L t)), (101, s), 101, t) x))
 (VC.obl (Lv.le3 L (Prod.fst x) (Lv.cast L (Lv.slen L s)) (Lv.slen L s))
 (VC.obl (Lv.le3 L (Prod.fst x) (Lv.cast L (Lv.slen L t)) (Lv.slen L t))
 (VC.obl
 (St.mk 23
 [(0,
 V.c
 (C.int IntKind.i64
 (Lv.mn L (Lv.cast L (Lv.slen L (Lv.ext L s (Lv.toN L (Prod.fst x)) (Lv.toN L (Lv.cast L (Lv.slen L s))))))
 (Lv.cast L (Lv.slen L (Lv.ext L t (Lv.toN L (Prod.fst x)) (Lv.toN L (Lv.cast L (Lv.slen L t))))))))),
 (1, V.c (C.fn 102 [5])), (2, V.c (C.fn 102 [6])), (7, V.c (C.int IntKind.i64 0))]
 [(0, Ob.amb), (1, Ob.box 35 [C.int IntKind.i64 0, C.int IntKind.i64 0, C.str ByteArray.empty]), (2, Ob.row 9 Ty.str [s, t]), (3, Ob.box 9 [C.str s]),
 (4, Ob.box 9 [C.str t]), (5, Ob.box 9 [C.str (Lv.ext L s (Lv.toN L (Prod.fst x)) (Lv.toN L (Lv.cast L (Lv.slen L s))))]),
 (6, Ob.box 9 [C.str (Lv.ext L t (Lv.toN L (Prod.fst x)) (Lv.toN L (Lv.cast L (Lv.slen L t))))])]
 7 =
 St.mk 23
 [(0,
 V.c
 (C.int IntKind.i64
 (Lv.mn L (Lv.cast L (Lv.slen L (Lv.ext L s (Lv.toN L (Prod.fst x)) (Lv.toN L (Lv.cast L (Lv.slen L s))))))
 (Lv.cast L (Lv.slen L (Lv.ext L t (Lv.toN L (Prod.fst x)) (Lv.toN L (Lv.cast L (Lv.slen L t))))))))),
 (1, V.c (C.fn 102 [5])), (2, V.c (C.fn 102 [6])), (7, V.c (C.int IntKind.i64 0))]
 [(0, Ob.amb), (1, Ob.box 35 [C.int IntKind.i64 0, C.int IntKind.i64 0, C.str ByteArray.empty]), (2, Ob.row 9 Ty.str [s, t]), (3, Ob.box 9 [C.str s]),
 (4, Ob.box 9 [C.str t]), (5, Ob.box 9 [C.str (Lv.ext L s (Lv.toN L (Prod.fst x)) (Lv.toN L (Lv.cast L (Lv.slen L s))))]),
 (6, Ob.box 9 [C.str (Lv.ext L t (Lv.toN L (Prod.fst x)) (Lv.toN L (Lv.cast L (Lv.slen L t))))])]
 7)
 (VC.obl
 (I
 (Lv.mn L (Lv.cast L (Lv.slen L (Lv.ext L s (Lv.toN L (Prod.fst x)) (Lv.toN L (Lv.cast L (Lv.slen L s))))))
 (Lv.cast L (Lv.slen L (Lv.ext L t (Lv.toN L (Prod.fst x)) (Lv.toN L (Lv.cast L (Lv.slen L t)))))),
 (102, Lv.ext L s (Lv.toN L (Prod.fst x)) (Lv.toN L (Lv.cast L (Lv.slen L s)))), 102, Lv.ext L t (Lv.toN L (Prod.fst x)) (Lv.toN L (Lv.cast L (Lv.slen L t))))
 (0, ()))
 (VC.all (Int × Unit) fun (x_1 : Int × Unit) =>
 VC.imp
 (I
 (Lv.mn L (Lv.cast L (Lv.slen L (Lv.ext L s (Lv.toN L (Prod.fst x)) (Lv.toN L (Lv.cast L (Lv.slen L s))))))
 (Lv.cast L (Lv.slen L (Lv.ext L t (Lv.toN L (Prod.fst x)) (Lv.toN L (Lv.cast L (Lv.slen L t)))))),
 (102, Lv.ext L s (Lv.toN L (Prod.fst x)) (Lv.toN L (Lv.cast L (Lv.slen L s)))), 102,
 Lv.ext L t (Lv.toN L (Prod.fst x)) (Lv.toN L (Lv.cast L (Lv.slen L t))))
 x_1)
 (VC.br
 (Lv.cmp L BinOp.lss (Prod.fst x_1)
 (Lv.mn L (Lv.cast L (Lv.slen L (Lv.ext L s (Lv.toN L (Prod.fst x)) (Lv.toN L (Lv.cast L (Lv.slen L s))))))
 (Lv.cast L (Lv.slen L (Lv.ext L t (Lv.toN L (Prod.fst x)) (Lv.toN L (Lv.cast L (Lv.slen L t))))))))
 (VC.obl
 (Lv.inR L
 (Lv.ar L BinOp.sub IntKind.i64
 (Lv.ar L BinOp.sub IntKind.i64 (Lv.cast L (Lv.slen L (Lv.ext L s (Lv.toN L (Prod.fst x)) (Lv.toN L (Lv.cast L (Lv.slen L s)))))) 1) (Prod.fst x_1))
 (Lv.slen L (Lv.ext L s (Lv.toN L (Prod.fst x)) (Lv.toN L (Lv.cast L (Lv.slen L s))))))
 (VC.obl
 (Lv.inR L
 (Lv.ar L BinOp.sub IntKind.i64
 (Lv.ar L BinOp.sub IntKind.i64 (Lv.cast L (Lv.slen L (Lv.ext L t (Lv.toN L (Prod.fst x)) (Lv.toN L (Lv.cast L (Lv.slen L t)))))) 1) (Prod.fst x_1))
 (Lv.slen L (Lv.ext L t (Lv.toN L (Prod.fst x)) (Lv.toN L (Lv.cast L (Lv.slen L t))))))
 (VC.br
 (Lv.cmp L BinOp.eql
 (Lv.byte L (Lv.ext L s (Lv.toN L (Prod.fst x)) (Lv.toN L (Lv.cast L (Lv.slen L s))))
 (Lv.ar L BinOp.sub IntKind.i64
 (Lv.ar L BinOp.sub IntKind.i64 (Lv.cast L (Lv.slen L (Lv.ext L s (Lv.toN L (Prod.fst x)) (Lv.toN L (Lv.cast L (Lv.slen L s)))))) 1)
 (Prod.fst x_1)))
 (Lv.byte L (Lv.ext L t (Lv.toN L (Prod.fst x)) (Lv.toN L (Lv.cast L (Lv.slen L t))))
 (Lv.ar L BinOp.sub IntKind.i64
 (Lv.ar L BinOp.sub IntKind.i64 (Lv.cast L (Lv.slen L (Lv.ext L t (Lv.toN L (Prod.fst x)) (Lv.toN L (Lv.cast L (Lv.slen L t)))))) 1)
 (Prod.fst x_1))))
 (VC.ok
 (St.mk 23
 [(0,
 V.c
 (C.int IntKind.i64
 (Lv.mn L (Lv.cast L (Lv.slen L (Lv.ext L s (Lv.toN L (Prod.fst x)) (Lv.toN L (Lv.cast L (Lv.slen L s))))))
 (Lv.cast L (Lv.slen L (Lv.ext L t (Lv.toN L (Prod.fst x)) (Lv.toN L (Lv.cast L (Lv.slen L t))))))))),
 (1, V.c (C.fn 102 [5])), (2, V.c (C.fn 102 [6])), (7, V.c (C.int IntKind.i64 (Lv.ar L BinOp.add IntKind.i64 (Prod.fst x_1) 1)))]
 [(0, Ob.amb), (1, Ob.box 35 [C.int IntKind.i64 0, C.int IntKind.i64 0, C.str ByteArray.empty]), (2, Ob.row 9 Ty.str [s, t]),
 (3, Ob.box 9 [C.str s]), (4, Ob.box 9 [C.str t]),
 (5, Ob.box 9 [C.str (Lv.ext L s (Lv.toN L (Prod.fst x)) (Lv.toN L (Lv.cast L (Lv.slen L s))))]),
 (6, Ob.box 9 [C.str (Lv.ext L t (Lv.toN L (Prod.fst x)) (Lv.toN L (Lv.cast L (Lv.slen L t))))])]
 7 =
 St.mk 23
 [(0,
 V.c
 (C.int IntKind.i64
 (Lv.mn L (Lv.cast L (Lv.slen L (Lv.ext L s (Lv.toN L (Prod.fst x)) (Lv.toN L (Lv.cast L (Lv.slen L s))))))
 (Lv.cast L (Lv.slen L (Lv.ext L t (Lv.toN L (Prod.fst x)) (Lv.toN L (Lv.cast L (Lv.slen L t))))))))),
 (1, V.c (C.fn 102 [5])), (2, V.c (C.fn 102 [6])), (7, V.c (C.int IntKind.i64 (Lv.ar L BinOp.add IntKind.i64 (Prod.fst x_1) 1)))]
 [(0, Ob.amb), (1, Ob.box 35 [C.int IntKind.i64 0, C.int IntKind.i64 0, C.str ByteArray.empty]), (2, Ob.row 9 Ty.str [s, t]),
 (3, Ob.box 9 [C.str s]), (4, Ob.box 9 [C.str t]),
 (5, Ob.box 9 [C.str (Lv.ext L s (Lv.toN L (Prod.fst x)) (Lv.toN L (Lv.cast L (Lv.slen L s))))]),
 (6, Ob.box 9 [C.str (Lv.ext L t (Lv.toN L (Prod.fst x)) (Lv.toN L (Lv.cast L (Lv.slen L t))))])]
 7 ∧
 I
 (Lv.mn L (Lv.cast L (Lv.slen L (Lv.ext L s (Lv.toN L (Prod.fst x)) (Lv.toN L (Lv.cast L (Lv.slen L s))))))
 (Lv.cast L (Lv.slen L (Lv.ext L t (Lv.toN L (Prod.fst x)) (Lv.toN L (Lv.cast L (Lv.slen L t)))))),
 (102, Lv.ext L s (Lv.toN L (Prod.fst x)) (Lv.toN L (Lv.cast L (Lv.slen L s)))), 102,
 Lv.ext L t (Lv.toN L (Prod.fst x)) (Lv.toN L (Lv.cast L (Lv.slen L t))))
 (Lv.ar L BinOp.add IntKind.i64 (Prod.fst x_1) 1, ()) ∧
 mu
 (Lv.mn L (Lv.cast L (Lv.slen L (Lv.ext L s (Lv.toN L (Prod.fst x)) (Lv.toN L (Lv.cast L (Lv.slen L s))))))
 (Lv.cast L (Lv.slen L (Lv.ext L t (Lv.toN L (Prod.fst x)) (Lv.toN L (Lv.cast L (Lv.slen L t)))))),
 (102, Lv.ext L s (Lv.toN L (Prod.fst x)) (Lv.toN L (Lv.cast L (Lv.slen L s)))), 102,
 Lv.ext L t (Lv.toN L (Prod.fst x)) (Lv.toN L (Lv.cast L (Lv.slen L t))))
 (Lv.ar L BinOp.add IntKind.i64 (Prod.fst x_1) 1, ()) <
 mu
 (Lv.mn L (Lv.cast L (Lv.slen L (Lv.ext L s (Lv.toN L (Prod.fst x)) (Lv.toN L (Lv.cast L (Lv.slen L s))))))
 (Lv.cast L (Lv.slen L (Lv.ext L t (Lv.toN L (Prod.fst x)) (Lv.toN L (Lv.cast L (Lv.slen L t)))))),
 (102, Lv.ext L s (Lv.toN L (Prod.fst x)) (Lv.toN L (Lv.cast L (Lv.slen L s)))), 102,
 Lv.ext L t (Lv.toN L (Prod.fst x)) (Lv.toN L (Lv.cast L (Lv.slen L t))))
 x_1))
 (VC.obl
 (Lv.le3 L (Lv.cast L 0)
 (Lv.ar L BinOp.sub IntKind.i64 (Lv.cast L (Lv.slen L (Lv.ext L t (Lv.toN L (Prod.fst x)) (Lv.toN L (Lv.cast L (Lv.slen L t)))))) (Prod.fst x_1))
 (Lv.slen L (Lv.ext L t (Lv.toN L (Prod.fst x)) (Lv.toN L (Lv.cast L (Lv.slen L t))))))
 (VC.ok
 (((Prod.fst x, Lv.ar L BinOp.sub IntKind.i64 (Lv.cast L (Lv.slen L s)) (Prod.fst x_1),
 Lv.ext L (Lv.ext L t (Lv.toN L (Prod.fst x)) (Lv.toN L (Lv.cast L (Lv.slen L t)))) (Lv.toN L (Lv.cast L 0))
 (Lv.toN L
 (Lv.ar L BinOp.sub IntKind.i64 (Lv.cast L (Lv.slen L (Lv.ext L t (Lv.toN L (Prod.fst x)) (Lv.toN L (Lv.cast L (Lv.slen L t))))))
 (Prod.fst x_1)))),
 0, ()) =
 (Prod.fst (LexF.diff F s t), Prod.snd (LexF.diff F s t), ())))))))
 (VC.obl
 (Lv.le3 L (Lv.cast L 0)
 (Lv.ar L BinOp.sub IntKind.i64 (Lv.cast L (Lv.slen L (Lv.ext L t (Lv.toN L (Prod.fst x)) (Lv.toN L (Lv.cast L (Lv.slen L t)))))) (Prod.fst x_1))
 (Lv.slen L (Lv.ext L t (Lv.toN L (Prod.fst x)) (Lv.toN L (Lv.cast L (Lv.slen L t))))))
 (VC.ok
 (((Prod.fst x, Lv.ar L BinOp.sub IntKind.i64 (Lv.cast L (Lv.slen L s)) (Prod.fst x_1),
 Lv.ext L (Lv.ext L t (Lv.toN L (Prod.fst x)) (Lv.toN L (Lv.cast L (Lv.slen L t)))) (Lv.toN L (Lv.cast L 0))
 (Lv.toN L
 (Lv.ar L BinOp.sub IntKind.i64 (Lv.cast L (Lv.slen L (Lv.ext L t (Lv.toN L (Prod.fst x)) (Lv.toN L (Lv.cast L (Lv.slen L t))))))
 (Prod.fst x_1)))),
 0, ()) =
 (Prod.fst (LexF.diff F s t), Prod.snd (LexF.diff F s t), ())))))))))))))
 (VC.obl (Lv.le3 L (Prod.fst x) (Lv.cast L (Lv.slen L s)) (Lv.slen L s))
 (VC.obl (Lv.le3 L (Prod.fst x) (Lv.cast L (Lv.slen L t)) (Lv.slen L t))
 (VC.obl
 (St.mk 23
 [(0,
 V.c
 (C.int IntKind.i64
 (Lv.mn L (Lv.cast L (Lv.slen L (Lv.ext L s (Lv.toN L (Prod.fst x)) (Lv.toN L (Lv.cast L (Lv.slen L s))))))
 (Lv.cast L (Lv.slen L (Lv.ext L t (Lv.toN L (Prod.fst x)) (Lv.toN L (Lv.cast L (Lv.slen L t))))))))),
 (1, V.c (C.fn 102 [5])), (2, V.c (C.fn 102 [6])), (7, V.c (C.int IntKind.i64 0))]
 [(0, Ob.amb), (1, Ob.box 35 [C.int IntKind.i64 0, C.int IntKind.i64 0, C.str ByteArray.empty]), (2, Ob.row 9 Ty.str [s, t]), (3, Ob.box 9 [C.str s]),
 (4, Ob.box 9 [C.str t]), (5, Ob.box 9 [C.str (Lv.ext L s (Lv.toN L (Prod.fst x)) (Lv.toN L (Lv.cast L (Lv.slen L s))))]),
 (6, Ob.box 9 [C.str (Lv.ext L t (Lv.toN L (Prod.fst x)) (Lv.toN L (Lv.cast L (Lv.slen L t))))])]
 7 =
 St.mk 23
 [(0,
 V.c
 (C.int IntKind.i64
 (Lv.mn L (Lv.cast L (Lv.slen L (Lv.ext L s (Lv.toN L (Prod.fst x)) (Lv.toN L (Lv.cast L (Lv.slen L s))))))
 (Lv.cast L (Lv.slen L (Lv.ext L t (Lv.toN L (Prod.fst x)) (Lv.toN L (Lv.cast L (Lv.slen L t))))))))),
 (1, V.c (C.fn 102 [5])), (2, V.c (C.fn 102 [6])), (7, V.c (C.int IntKind.i64 0))]
 [(0, Ob.amb), (1, Ob.box 35 [C.int IntKind.i64 0, C.int IntKind.i64 0, C.str ByteArray.empty]), (2, Ob.row 9 Ty.str [s, t]), (3, Ob.box 9 [C.str s]),
 (4, Ob.box 9 [C.str t]), (5, Ob.box 9 [C.str (Lv.ext L s (Lv.toN L (Prod.fst x)) (Lv.toN L (Lv.cast L (Lv.slen L s))))]),
 (6, Ob.box 9 [C.str (Lv.ext L t (Lv.toN L (Prod.fst x)) (Lv.toN L (Lv.cast L (Lv.slen L t))))])]
 7)
 (VC.obl
 (I
 (Lv.mn L (Lv.cast L (Lv.slen L (Lv.ext L s (Lv.toN L (Prod.fst x)) (Lv.toN L (Lv.cast L (Lv.slen L s))))))
 (Lv.cast L (Lv.slen L (Lv.ext L t (Lv.toN L (Prod.fst x)) (Lv.toN L (Lv.cast L (Lv.slen L t)))))),
 (102, Lv.ext L s (Lv.toN L (Prod.fst x)) (Lv.toN L (Lv.cast L (Lv.slen L s)))), 102, Lv.ext L t (Lv.toN L (Prod.fst x)) (Lv.toN L (Lv.cast L (Lv.slen L t))))
 (0, ()))
 (VC.all (Int × Unit) fun (x_1 : Int × Unit) =>
 VC.imp
 (I
 (Lv.mn L (Lv.cast L (Lv.slen L (Lv.ext L s (Lv.toN L (Prod.fst x)) (Lv.toN L (Lv.cast L (Lv.slen L s))))))
 (Lv.cast L (Lv.slen L (Lv.ext L t (Lv.toN L (Prod.fst x)) (Lv.toN L (Lv.cast L (Lv.slen L t)))))),
 (102, Lv.ext L s (Lv.toN L (Prod.fst x)) (Lv.toN L (Lv.cast L (Lv.slen L s)))), 102, Lv.ext L t (Lv.toN L (Prod.fst x)) (Lv.toN L (Lv.cast L (Lv.slen L t))))
 x_1)
 (VC.br
 (Lv.cmp L BinOp.lss (Prod.fst x_1)
 (Lv.mn L (Lv.cast L (Lv.slen L (Lv.ext L s (Lv.toN L (Prod.fst x)) (Lv.toN L (Lv.cast L (Lv.slen L s))))))
 (Lv.cast L (Lv.slen L (Lv.ext L t (Lv.toN L (Prod.fst x)) (Lv.toN L (Lv.cast L (Lv.slen L t))))))))
 (VC.obl
 (Lv.inR L
 (Lv.ar L BinOp.sub IntKind.i64
 (Lv.ar L BinOp.sub IntKind.i64 (Lv.cast L (Lv.slen L (Lv.ext L s (Lv.toN L (Prod.fst x)) (Lv.toN L (Lv.cast L (Lv.slen L s)))))) 1) (Prod.fst x_1))
 (Lv.slen L (Lv.ext L s (Lv.toN L (Prod.fst x)) (Lv.toN L (Lv.cast L (Lv.slen L s))))))
 (VC.obl
 (Lv.inR L
 (Lv.ar L BinOp.sub IntKind.i64
 (Lv.ar L BinOp.sub IntKind.i64 (Lv.cast L (Lv.slen L (Lv.ext L t (Lv.toN L (Prod.fst x)) (Lv.toN L (Lv.cast L (Lv.slen L t)))))) 1) (Prod.fst x_1))
 (Lv.slen L (Lv.ext L t (Lv.toN L (Prod.fst x)) (Lv.toN L (Lv.cast L (Lv.slen L t))))))
 (VC.br
 (Lv.cmp L BinOp.eql
 (Lv.byte L (Lv.ext L s (Lv.toN L (Prod.fst x)) (Lv.toN L (Lv.cast L (Lv.slen L s))))
 (Lv.ar L BinOp.sub IntKind.i64
 (Lv.ar L BinOp.sub IntKind.i64 (Lv.cast L (Lv.slen L (Lv.ext L s (Lv.toN L (Prod.fst x)) (Lv.toN L (Lv.cast L (Lv.slen L s)))))) 1) (Prod.fst x_1)))
 (Lv.byte L (Lv.ext L t (Lv.toN L (Prod.fst x)) (Lv.toN L (Lv.cast L (Lv.slen L t))))
 (Lv.ar L BinOp.sub IntKind.i64
 (Lv.ar L BinOp.sub IntKind.i64 (Lv.cast L (Lv.slen L (Lv.ext L t (Lv.toN L (Prod.fst x)) (Lv.toN L (Lv.cast L (Lv.slen L t)))))) 1) (Prod.fst x_1))))
 (VC.ok
 (St.mk 23
 [(0,
 V.c
 (C.int IntKind.i64
 (Lv.mn L (Lv.cast L (Lv.slen L (Lv.ext L s (Lv.toN L (Prod.fst x)) (Lv.toN L (Lv.cast L (Lv.slen L s))))))
 (Lv.cast L (Lv.slen L (Lv.ext L t (Lv.toN L (Prod.fst x)) (Lv.toN L (Lv.cast L (Lv.slen L t))))))))),
 (1, V.c (C.fn 102 [5])), (2, V.c (C.fn 102 [6])), (7, V.c (C.int IntKind.i64 (Lv.ar L BinOp.add IntKind.i64 (Prod.fst x_1) 1)))]
 [(0, Ob.amb), (1, Ob.box 35 [C.int IntKind.i64 0, C.int IntKind.i64 0, C.str ByteArray.empty]), (2, Ob.row 9 Ty.str [s, t]), (3, Ob.box 9 [C.str s]),
 (4, Ob.box 9 [C.str t]), (5, Ob.box 9 [C.str (Lv.ext L s (Lv.toN L (Prod.fst x)) (Lv.toN L (Lv.cast L (Lv.slen L s))))]),
 (6, Ob.box 9 [C.str (Lv.ext L t (Lv.toN L (Prod.fst x)) (Lv.toN L (Lv.cast L (Lv.slen L t))))])]
 7 =
 St.mk 23
 [(0,
 V.c
 (C.int IntKind.i64
 (Lv.mn L (Lv.cast L (Lv.slen L (Lv.ext L s (Lv.toN L (Prod.fst x)) (Lv.toN L (Lv.cast L (Lv.slen L s))))))
 (Lv.cast L (Lv.slen L (Lv.ext L t (Lv.toN L (Prod.fst x)) (Lv.toN L (Lv.cast L (Lv.slen L t))))))))),
 (1, V.c (C.fn 102 [5])), (2, V.c (C.fn 102 [6])), (7, V.c (C.int IntKind.i64 (Lv.ar L BinOp.add IntKind.i64 (Prod.fst x_1) 1)))]
 [(0, Ob.amb), (1, Ob.box 35 [C.int IntKind.i64 0, C.int IntKind.i64 0, C.str ByteArray.empty]), (2, Ob.row 9 Ty.str [s, t]), (3, Ob.box 9 [C.str s]),
 (4, Ob.box 9 [C.str t]), (5, Ob.box 9 [C.str (Lv.ext L s (Lv.toN L (Prod.fst x)) (Lv.toN L (Lv.cast L (Lv.slen L s))))]),
 (6, Ob.box 9 [C.str (Lv.ext L t (Lv.toN L (Prod.fst x)) (Lv.toN L (Lv.cast L (Lv.slen L t))))])]
 7 ∧
 I
 (Lv.mn L (Lv.cast L (Lv.slen L (Lv.ext L s (Lv.toN L (Prod.fst x)) (Lv.toN L (Lv.cast L (Lv.slen L s))))))
 (Lv.cast L (Lv.slen L (Lv.ext L t (Lv.toN L (Prod.fst x)) (Lv.toN L (Lv.cast L (Lv.slen L t)))))),
 (102, Lv.ext L s (Lv.toN L (Prod.fst x)) (Lv.toN L (Lv.cast L (Lv.slen L s)))), 102,
 Lv.ext L t (Lv.toN L (Prod.fst x)) (Lv.toN L (Lv.cast L (Lv.slen L t))))
 (Lv.ar L BinOp.add IntKind.i64 (Prod.fst x_1) 1, ()) ∧
 mu
 (Lv.mn L (Lv.cast L (Lv.slen L (Lv.ext L s (Lv.toN L (Prod.fst x)) (Lv.toN L (Lv.cast L (Lv.slen L s))))))
 (Lv.cast L (Lv.slen L (Lv.ext L t (Lv.toN L (Prod.fst x)) (Lv.toN L (Lv.cast L (Lv.slen L t)))))),
 (102, Lv.ext L s (Lv.toN L (Prod.fst x)) (Lv.toN L (Lv.cast L (Lv.slen L s)))), 102,
 Lv.ext L t (Lv.toN L (Prod.fst x)) (Lv.toN L (Lv.cast L (Lv.slen L t))))
 (Lv.ar L BinOp.add IntKind.i64 (Prod.fst x_1) 1, ()) <
 mu
 (Lv.mn L (Lv.cast L (Lv.slen L (Lv.ext L s (Lv.toN L (Prod.fst x)) (Lv.toN L (Lv.cast L (Lv.slen L s))))))
 (Lv.cast L (Lv.slen L (Lv.ext L t (Lv.toN L (Prod.fst x)) (Lv.toN L (Lv.cast L (Lv.slen L t)))))),
 (102, Lv.ext L s (Lv.toN L (Prod.fst x)) (Lv.toN L (Lv.cast L (Lv.slen L s)))), 102,
 Lv.ext L t (Lv.toN L (Prod.fst x)) (Lv.toN L (Lv.cast L (Lv.slen L t))))
 x_1))
 (VC.obl
 (Lv.le3 L (Lv.cast L 0)
 (Lv.ar L BinOp.sub IntKind.i64 (Lv.cast L (Lv.slen L (Lv.ext L t (Lv.toN L (Prod.fst x)) (Lv.toN L (Lv.cast L (Lv.slen L t)))))) (Prod.fst x_1))
 (Lv.slen L (Lv.ext L t (Lv.toN L (Prod.fst x)) (Lv.toN L (Lv.cast L (Lv.slen L t))))))
 (VC.ok
 (((Prod.fst x, Lv.ar L BinOp.sub IntKind.i64 (Lv.cast L (Lv.slen L s)) (Prod.fst x_1),
 Lv.ext L (Lv.ext L t (Lv.toN L (Prod.fst x)) (Lv.toN L (Lv.cast L (Lv.slen L t)))) (Lv.toN L (Lv.cast L 0))
 (Lv.toN L
 (Lv.ar L BinOp.sub IntKind.i64 (Lv.cast L (Lv.slen L (Lv.ext L t (Lv.toN L (Prod.fst x)) (Lv.toN L (Lv.cast L (Lv.slen L t))))))
 (Prod.fst x_1)))),
 0, ()) =
 (Prod.fst (LexF.diff F s t), Prod.snd (LexF.diff F s t), ())))))))
 (VC.obl
 (Lv.le3 L (Lv.cast L 0)
 (Lv.ar L BinOp.sub IntKind.i64 (Lv.cast L (Lv.slen L (Lv.ext L t (Lv.toN L (Prod.fst x)) (Lv.toN L (Lv.cast L (Lv.slen L t)))))) (Prod.fst x_1))
 (Lv.slen L (Lv.ext L t (Lv.toN L (Prod.fst x)) (Lv.toN L (Lv.cast L (Lv.slen L t))))))
 (VC.ok
 (((Prod.fst x, Lv.ar L BinOp.sub IntKind.i64 (Lv.cast L (Lv.slen L s)) (Prod.fst x_1),
 Lv.ext L (Lv.ext L t (Lv.toN L (Prod.fst x)) (Lv.toN L (Lv.cast L (Lv.slen L t)))) (Lv.toN L (Lv.cast L 0))
 (Lv.toN L
 (Lv.ar L BinOp.sub IntKind.i64 (Lv.cast L (Lv.slen L (Lv.ext L t (Lv.toN L (Prod.fst x)) (Lv.toN L (Lv.cast L (Lv.slen L t)))))) (Prod.fst x_1)))),
 0, ()) =
 (Prod.fst (LexF.diff F s t), Prod.snd (LexF.diff F s t), ())))))))))))))))))))
 (VC.obl
 (St.mk 23 [(0, V.c (C.int IntKind.i64 (Lv.mn L (Lv.cast L (Lv.slen L s)) (Lv.cast L (Lv.slen L t))))), (1, V.c (C.fn 101 [3])), (2, V.c (C.fn 101 [4])), (7, V.c (C.int IntKind.i64 0))]
 [(0, Ob.amb), (1, Ob.box 35 [C.int IntKind.i64 0, C.int IntKind.i64 0, C.str ByteArray.empty]), (2, Ob.row 9 Ty.str [s, t]), (3, Ob.box 9 [C.str s]), (4, Ob.box 9 [C.str t])] 5 =
 St.mk 23 [(0, V.c (C.int IntKind.i64 (Lv.mn L (Lv.cast L (Lv.slen L s)) (Lv.cast L (Lv.slen L t))))), (1, V.c (C.fn 101 [3])), (2, V.c (C.fn 101 [4])), (7, V.c (C.int IntKind.i64 0))]
 [(0, Ob.amb), (1, Ob.box 35 [C.int IntKind.i64 0, C.int IntKind.i64 0, C.str ByteArray.empty]), (2, Ob.row 9 Ty.str [s, t]), (3, Ob.box 9 [C.str s]), (4, Ob.box 9 [C.str t])] 5)
 (VC.obl (I (Lv.mn L (Lv.cast L (Lv.slen L s)) (Lv.cast L (Lv.slen L t)), (101, s), 101, t) (0, ()))
 (VC.all (Int × Unit) fun (x : Int × Unit) =>
 VC.imp (I (Lv.mn L (Lv.cast L (Lv.slen L s)) (Lv.cast L (Lv.slen L t)), (101, s), 101, t) x)
 (VC.br (Lv.cmp L BinOp.lss (Prod.fst x) (Lv.mn L (Lv.cast L (Lv.slen L s)) (Lv.cast L (Lv.slen L t))))
 (VC.obl (Lv.inR L (Prod.fst x) (Lv.slen L s))
 (VC.obl (Lv.inR L (Prod.fst x) (Lv.slen L t))
 (VC.br (Lv.cmp L BinOp.eql (Lv.byte L s (Prod.fst x)) (Lv.byte L t (Prod.fst x)))
 (VC.ok
 (St.mk 23
 [(0, V.c (C.int IntKind.i64 (Lv.mn L (Lv.cast L (Lv.slen L s)) (Lv.cast L (Lv.slen L t))))), (1, V.c (C.fn 101 [3])), (2, V.c (C.fn 101 [4])),
 (7, V.c (C.int IntKind.i64 (Lv.ar L BinOp.add IntKind.i64 (Prod.fst x) 1)))]
 [(0, Ob.amb), (1, Ob.box 35 [C.int IntKind.i64 0, C.int IntKind.i64 0, C.str ByteArray.empty]), (2, Ob.row 9 Ty.str [s, t]), (3, Ob.box 9 [C.str s]), (4, Ob.box 9 [C.str t])]
 5 =
 St.mk 23
 [(0, V.c (C.int IntKind.i64 (Lv.mn L (Lv.cast L (Lv.slen L s)) (Lv.cast L (Lv.slen L t))))), (1, V.c (C.fn 101 [3])), (2, V.c (C.fn 101 [4])),
 (7, V.c (C.int IntKind.i64 (Lv.ar L BinOp.add IntKind.i64 (Prod.fst x) 1)))]
 [(0, Ob.amb), (1, Ob.box 35 [C.int IntKind.i64 0, C.int IntKind.i64 0, C.str ByteArray.empty]), (2, Ob.row 9 Ty.str [s, t]), (3, Ob.box 9 [C.str s]), (4, Ob.box 9 [C.str t])]
 5 ∧
 I (Lv.mn L (Lv.cast L (Lv.slen L s)) (Lv.cast L (Lv.slen L t)), (101, s), 101, t) (Lv.ar L BinOp.add IntKind.i64 (Prod.fst x) 1, ()) ∧
 mu (Lv.mn L (Lv.cast L (Lv.slen L s)) (Lv.cast L (Lv.slen L t)), (101, s), 101, t) (Lv.ar L BinOp.add IntKind.i64 (Prod.fst x) 1, ()) <
 mu (Lv.mn L (Lv.cast L (Lv.slen L s)) (Lv.cast L (Lv.slen L t)), (101, s), 101, t) x))
 (VC.obl (Lv.le3 L (Prod.fst x) (Lv.cast L (Lv.slen L s)) (Lv.slen L s))
 (VC.obl (Lv.le3 L (Prod.fst x) (Lv.cast L (Lv.slen L t)) (Lv.slen L t))
 (VC.obl
 (St.mk 23
 [(0,
 V.c
 (C.int IntKind.i64
 (Lv.mn L (Lv.cast L (Lv.slen L (Lv.ext L s (Lv.toN L (Prod.fst x)) (Lv.toN L (Lv.cast L (Lv.slen L s))))))
 (Lv.cast L (Lv.slen L (Lv.ext L t (Lv.toN L (Prod.fst x)) (Lv.toN L (Lv.cast L (Lv.slen L t))))))))),
 (1, V.c (C.fn 102 [5])), (2, V.c (C.fn 102 [6])), (7, V.c (C.int IntKind.i64 0))]
 [(0, Ob.amb), (1, Ob.box 35 [C.int IntKind.i64 0, C.int IntKind.i64 0, C.str ByteArray.empty]), (2, Ob.row 9 Ty.str [s, t]), (3, Ob.box 9 [C.str s]),
 (4, Ob.box 9 [C.str t]), (5, Ob.box 9 [C.str (Lv.ext L s (Lv.toN L (Prod.fst x)) (Lv.toN L (Lv.cast L (Lv.slen L s))))]),
 (6, Ob.box 9 [C.str (Lv.ext L t (Lv.toN L (Prod.fst x)) (Lv.toN L (Lv.cast L (Lv.slen L t))))])]
 7 =
 St.mk 23
 [(0,
 V.c
 (C.int IntKind.i64
 (Lv.mn L (Lv.cast L (Lv.slen L (Lv.ext L s (Lv.toN L (Prod.fst x)) (Lv.toN L (Lv.cast L (Lv.slen L s))))))
 (Lv.cast L (Lv.slen L (Lv.ext L t (Lv.toN L (Prod.fst x)) (Lv.toN L (Lv.cast L (Lv.slen L t))))))))),
 (1, V.c (C.fn 102 [5])), (2, V.c (C.fn 102 [6])), (7, V.c (C.int IntKind.i64 0))]
 [(0, Ob.amb), (1, Ob.box 35 [C.int IntKind.i64 0, C.int IntKind.i64 0, C.str ByteArray.empty]), (2, Ob.row 9 Ty.str [s, t]), (3, Ob.box 9 [C.str s]),
 (4, Ob.box 9 [C.str t]), (5, Ob.box 9 [C.str (Lv.ext L s (Lv.toN L (Prod.fst x)) (Lv.toN L (Lv.cast L (Lv.slen L s))))]),
 (6, Ob.box 9 [C.str (Lv.ext L t (Lv.toN L (Prod.fst x)) (Lv.toN L (Lv.cast L (Lv.slen L t))))])]
 7)
 (VC.obl
 (I
 (Lv.mn L (Lv.cast L (Lv.slen L (Lv.ext L s (Lv.toN L (Prod.fst x)) (Lv.toN L (Lv.cast L (Lv.slen L s))))))
 (Lv.cast L (Lv.slen L (Lv.ext L t (Lv.toN L (Prod.fst x)) (Lv.toN L (Lv.cast L (Lv.slen L t)))))),
 (102, Lv.ext L s (Lv.toN L (Prod.fst x)) (Lv.toN L (Lv.cast L (Lv.slen L s)))), 102, Lv.ext L t (Lv.toN L (Prod.fst x)) (Lv.toN L (Lv.cast L (Lv.slen L t))))
 (0, ()))
 (VC.all (Int × Unit) fun (x_1 : Int × Unit) =>
 VC.imp
 (I
 (Lv.mn L (Lv.cast L (Lv.slen L (Lv.ext L s (Lv.toN L (Prod.fst x)) (Lv.toN L (Lv.cast L (Lv.slen L s))))))
 (Lv.cast L (Lv.slen L (Lv.ext L t (Lv.toN L (Prod.fst x)) (Lv.toN L (Lv.cast L (Lv.slen L t)))))),
 (102, Lv.ext L s (Lv.toN L (Prod.fst x)) (Lv.toN L (Lv.cast L (Lv.slen L s)))), 102, Lv.ext L t (Lv.toN L (Prod.fst x)) (Lv.toN L (Lv.cast L (Lv.slen L t))))
 x_1)
 (VC.br
 (Lv.cmp L BinOp.lss (Prod.fst x_1)
 (Lv.mn L (Lv.cast L (Lv.slen L (Lv.ext L s (Lv.toN L (Prod.fst x)) (Lv.toN L (Lv.cast L (Lv.slen L s))))))
 (Lv.cast L (Lv.slen L (Lv.ext L t (Lv.toN L (Prod.fst x)) (Lv.toN L (Lv.cast L (Lv.slen L t))))))))
 (VC.obl
 (Lv.inR L
 (Lv.ar L BinOp.sub IntKind.i64 (Lv.ar L BinOp.sub IntKind.i64 (Lv.cast L (Lv.slen L (Lv.ext L s (Lv.toN L (Prod.fst x)) (Lv.toN L (Lv.cast L (Lv.slen L s)))))) 1)
 (Prod.fst x_1))
 (Lv.slen L (Lv.ext L s (Lv.toN L (Prod.fst x)) (Lv.toN L (Lv.cast L (Lv.slen L s))))))
 (VC.obl
 (Lv.inR L
 (Lv.ar L BinOp.sub IntKind.i64 (Lv.ar L BinOp.sub IntKind.i64 (Lv.cast L (Lv.slen L (Lv.ext L t (Lv.toN L (Prod.fst x)) (Lv.toN L (Lv.cast L (Lv.slen L t)))))) 1)
 (Prod.fst x_1))
 (Lv.slen L (Lv.ext L t (Lv.toN L (Prod.fst x)) (Lv.toN L (Lv.cast L (Lv.slen L t))))))
 (VC.br
 (Lv.cmp L BinOp.eql
 (Lv.byte L (Lv.ext L s (Lv.toN L (Prod.fst x)) (Lv.toN L (Lv.cast L (Lv.slen L s))))
 (Lv.ar L BinOp.sub IntKind.i64
 (Lv.ar L BinOp.sub IntKind.i64 (Lv.cast L (Lv.slen L (Lv.ext L s (Lv.toN L (Prod.fst x)) (Lv.toN L (Lv.cast L (Lv.slen L s)))))) 1) (Prod.fst x_1)))
 (Lv.byte L (Lv.ext L t (Lv.toN L (Prod.fst x)) (Lv.toN L (Lv.cast L (Lv.slen L t))))
 (Lv.ar L BinOp.sub IntKind.i64
 (Lv.ar L BinOp.sub IntKind.i64 (Lv.cast L (Lv.slen L (Lv.ext L t (Lv.toN L (Prod.fst x)) (Lv.toN L (Lv.cast L (Lv.slen L t)))))) 1) (Prod.fst x_1))))
 (VC.ok
 (St.mk 23
 [(0,
 V.c
 (C.int IntKind.i64
 (Lv.mn L (Lv.cast L (Lv.slen L (Lv.ext L s (Lv.toN L (Prod.fst x)) (Lv.toN L (Lv.cast L (Lv.slen L s))))))
 (Lv.cast L (Lv.slen L (Lv.ext L t (Lv.toN L (Prod.fst x)) (Lv.toN L (Lv.cast L (Lv.slen L t))))))))),
 (1, V.c (C.fn 102 [5])), (2, V.c (C.fn 102 [6])), (7, V.c (C.int IntKind.i64 (Lv.ar L BinOp.add IntKind.i64 (Prod.fst x_1) 1)))]
 [(0, Ob.amb), (1, Ob.box 35 [C.int IntKind.i64 0, C.int IntKind.i64 0, C.str ByteArray.empty]), (2, Ob.row 9 Ty.str [s, t]), (3, Ob.box 9 [C.str s]),
 (4, Ob.box 9 [C.str t]), (5, Ob.box 9 [C.str (Lv.ext L s (Lv.toN L (Prod.fst x)) (Lv.toN L (Lv.cast L (Lv.slen L s))))]),
 (6, Ob.box 9 [C.str (Lv.ext L t (Lv.toN L (Prod.fst x)) (Lv.toN L (Lv.cast L (Lv.slen L t))))])]
 7 =
 St.mk 23
 [(0,
 V.c
 (C.int IntKind.i64
 (Lv.mn L (Lv.cast L (Lv.slen L (Lv.ext L s (Lv.toN L (Prod.fst x)) (Lv.toN L (Lv.cast L (Lv.slen L s))))))
 (Lv.cast L (Lv.slen L (Lv.ext L t (Lv.toN L (Prod.fst x)) (Lv.toN L (Lv.cast L (Lv.slen L t))))))))),
 (1, V.c (C.fn 102 [5])), (2, V.c (C.fn 102 [6])), (7, V.c (C.int IntKind.i64 (Lv.ar L BinOp.add IntKind.i64 (Prod.fst x_1) 1)))]
 [(0, Ob.amb), (1, Ob.box 35 [C.int IntKind.i64 0, C.int IntKind.i64 0, C.str ByteArray.empty]), (2, Ob.row 9 Ty.str [s, t]), (3, Ob.box 9 [C.str s]),
 (4, Ob.box 9 [C.str t]), (5, Ob.box 9 [C.str (Lv.ext L s (Lv.toN L (Prod.fst x)) (Lv.toN L (Lv.cast L (Lv.slen L s))))]),
 (6, Ob.box 9 [C.str (Lv.ext L t (Lv.toN L (Prod.fst x)) (Lv.toN L (Lv.cast L (Lv.slen L t))))])]
 7 ∧
 I
 (Lv.mn L (Lv.cast L (Lv.slen L (Lv.ext L s (Lv.toN L (Prod.fst x)) (Lv.toN L (Lv.cast L (Lv.slen L s))))))
 (Lv.cast L (Lv.slen L (Lv.ext L t (Lv.toN L (Prod.fst x)) (Lv.toN L (Lv.cast L (Lv.slen L t)))))),
 (102, Lv.ext L s (Lv.toN L (Prod.fst x)) (Lv.toN L (Lv.cast L (Lv.slen L s)))), 102,
 Lv.ext L t (Lv.toN L (Prod.fst x)) (Lv.toN L (Lv.cast L (Lv.slen L t))))
 (Lv.ar L BinOp.add IntKind.i64 (Prod.fst x_1) 1, ()) ∧
 mu
 (Lv.mn L (Lv.cast L (Lv.slen L (Lv.ext L s (Lv.toN L (Prod.fst x)) (Lv.toN L (Lv.cast L (Lv.slen L s))))))
 (Lv.cast L (Lv.slen L (Lv.ext L t (Lv.toN L (Prod.fst x)) (Lv.toN L (Lv.cast L (Lv.slen L t)))))),
 (102, Lv.ext L s (Lv.toN L (Prod.fst x)) (Lv.toN L (Lv.cast L (Lv.slen L s)))), 102,
 Lv.ext L t (Lv.toN L (Prod.fst x)) (Lv.toN L (Lv.cast L (Lv.slen L t))))
 (Lv.ar L BinOp.add IntKind.i64 (Prod.fst x_1) 1, ()) <
 mu
 (Lv.mn L (Lv.cast L (Lv.slen L (Lv.ext L s (Lv.toN L (Prod.fst x)) (Lv.toN L (Lv.cast L (Lv.slen L s))))))
 (Lv.cast L (Lv.slen L (Lv.ext L t (Lv.toN L (Prod.fst x)) (Lv.toN L (Lv.cast L (Lv.slen L t)))))),
 (102, Lv.ext L s (Lv.toN L (Prod.fst x)) (Lv.toN L (Lv.cast L (Lv.slen L s)))), 102,
 Lv.ext L t (Lv.toN L (Prod.fst x)) (Lv.toN L (Lv.cast L (Lv.slen L t))))
 x_1))
 (VC.obl
 (Lv.le3 L (Lv.cast L 0)
 (Lv.ar L BinOp.sub IntKind.i64 (Lv.cast L (Lv.slen L (Lv.ext L t (Lv.toN L (Prod.fst x)) (Lv.toN L (Lv.cast L (Lv.slen L t)))))) (Prod.fst x_1))
 (Lv.slen L (Lv.ext L t (Lv.toN L (Prod.fst x)) (Lv.toN L (Lv.cast L (Lv.slen L t))))))
 (VC.ok
 (((Prod.fst x, Lv.ar L BinOp.sub IntKind.i64 (Lv.cast L (Lv.slen L s)) (Prod.fst x_1),
 Lv.ext L (Lv.ext L t (Lv.toN L (Prod.fst x)) (Lv.toN L (Lv.cast L (Lv.slen L t)))) (Lv.toN L (Lv.cast L 0))
 (Lv.toN L
 (Lv.ar L BinOp.sub IntKind.i64 (Lv.cast L (Lv.slen L (Lv.ext L t (Lv.toN L (Prod.fst x)) (Lv.toN L (Lv.cast L (Lv.slen L t)))))) (Prod.fst x_1)))),
 0, ()) =
 (Prod.fst (LexF.diff F s t), Prod.snd (LexF.diff F s t), ())))))))
 (VC.obl
 (Lv.le3 L (Lv.cast L 0)
 (Lv.ar L BinOp.sub IntKind.i64 (Lv.cast L (Lv.slen L (Lv.ext L t (Lv.toN L (Prod.fst x)) (Lv.toN L (Lv.cast L (Lv.slen L t)))))) (Prod.fst x_1))
 (Lv.slen L (Lv.ext L t (Lv.toN L (Prod.fst x)) (Lv.toN L (Lv.cast L (Lv.slen L t))))))
 (VC.ok
 (((Prod.fst x, Lv.ar L BinOp.sub IntKind.i64 (Lv.cast L (Lv.slen L s)) (Prod.fst x_1),
 Lv.ext L (Lv.ext L t (Lv.toN L (Prod.fst x)) (Lv.toN L (Lv.cast L (Lv.slen L t)))) (Lv.toN L (Lv.cast L 0))
 (Lv.toN L
 (Lv.ar L BinOp.sub IntKind.i64 (Lv.cast L (Lv.slen L (Lv.ext L t (Lv.toN L (Prod.fst x)) (Lv.toN L (Lv.cast L (Lv.slen L t)))))) (Prod.fst x_1)))),
 0, ()) =
 (Prod.fst (LexF.diff F s t), Prod.snd (LexF.diff F s t), ())))))))))))))
 (VC.obl (Lv.le3 L (Prod.fst x) (Lv.cast L (Lv.slen L s)) (Lv.slen L s))
 (VC.obl (Lv.le3 L (Prod.fst x) (Lv.cast L (Lv.slen L t)) (Lv.slen L t))
 (VC.obl
 (St.mk 23
 [(0,
 V.c
 (C.int IntKind.i64
 (Lv.mn L (Lv.cast L (Lv.slen L (Lv.ext L s (Lv.toN L (Prod.fst x)) (Lv.toN L (Lv.cast L (Lv.slen L s))))))
 (Lv.cast L (Lv.slen L (Lv.ext L t (Lv.toN L (Prod.fst x)) (Lv.toN L (Lv.cast L (Lv.slen L t))))))))),
 (1, V.c (C.fn 102 [5])), (2, V.c (C.fn 102 [6])), (7, V.c (C.int IntKind.i64 0))]
 [(0, Ob.amb), (1, Ob.box 35 [C.int IntKind.i64 0, C.int IntKind.i64 0, C.str ByteArray.empty]), (2, Ob.row 9 Ty.str [s, t]), (3, Ob.box 9 [C.str s]), (4, Ob.box 9 [C.str t]),
 (5, Ob.box 9 [C.str (Lv.ext L s (Lv.toN L (Prod.fst x)) (Lv.toN L (Lv.cast L (Lv.slen L s))))]),
 (6, Ob.box 9 [C.str (Lv.ext L t (Lv.toN L (Prod.fst x)) (Lv.toN L (Lv.cast L (Lv.slen L t))))])]
 7 =
 St.mk 23
 [(0,
 V.c
 (C.int IntKind.i64
 (Lv.mn L (Lv.cast L (Lv.slen L (Lv.ext L s (Lv.toN L (Prod.fst x)) (Lv.toN L (Lv.cast L (Lv.slen L s))))))
 (Lv.cast L (Lv.slen L (Lv.ext L t (Lv.toN L (Prod.fst x)) (Lv.toN L (Lv.cast L (Lv.slen L t))))))))),
 (1, V.c (C.fn 102 [5])), (2, V.c (C.fn 102 [6])), (7, V.c (C.int IntKind.i64 0))]
 [(0, Ob.amb), (1, Ob.box 35 [C.int IntKind.i64 0, C.int IntKind.i64 0, C.str ByteArray.empty]), (2, Ob.row 9 Ty.str [s, t]), (3, Ob.box 9 [C.str s]), (4, Ob.box 9 [C.str t]),
 (5, Ob.box 9 [C.str (Lv.ext L s (Lv.toN L (Prod.fst x)) (Lv.toN L (Lv.cast L (Lv.slen L s))))]),
 (6, Ob.box 9 [C.str (Lv.ext L t (Lv.toN L (Prod.fst x)) (Lv.toN L (Lv.cast L (Lv.slen L t))))])]
 7)
 (VC.obl
 (I
 (Lv.mn L (Lv.cast L (Lv.slen L (Lv.ext L s (Lv.toN L (Prod.fst x)) (Lv.toN L (Lv.cast L (Lv.slen L s))))))
 (Lv.cast L (Lv.slen L (Lv.ext L t (Lv.toN L (Prod.fst x)) (Lv.toN L (Lv.cast L (Lv.slen L t)))))),
 (102, Lv.ext L s (Lv.toN L (Prod.fst x)) (Lv.toN L (Lv.cast L (Lv.slen L s)))), 102, Lv.ext L t (Lv.toN L (Prod.fst x)) (Lv.toN L (Lv.cast L (Lv.slen L t))))
 (0, ()))
 (VC.all (Int × Unit) fun (x_1 : Int × Unit) =>
 VC.imp
 (I
 (Lv.mn L (Lv.cast L (Lv.slen L (Lv.ext L s (Lv.toN L (Prod.fst x)) (Lv.toN L (Lv.cast L (Lv.slen L s))))))
 (Lv.cast L (Lv.slen L (Lv.ext L t (Lv.toN L (Prod.fst x)) (Lv.toN L (Lv.cast L (Lv.slen L t)))))),
 (102, Lv.ext L s (Lv.toN L (Prod.fst x)) (Lv.toN L (Lv.cast L (Lv.slen L s)))), 102, Lv.ext L t (Lv.toN L (Prod.fst x)) (Lv.toN L (Lv.cast L (Lv.slen L t))))
 x_1)
 (VC.br
 (Lv.cmp L BinOp.lss (Prod.fst x_1)
 (Lv.mn L (Lv.cast L (Lv.slen L (Lv.ext L s (Lv.toN L (Prod.fst x)) (Lv.toN L (Lv.cast L (Lv.slen L s))))))
 (Lv.cast L (Lv.slen L (Lv.ext L t (Lv.toN L (Prod.fst x)) (Lv.toN L (Lv.cast L (Lv.slen L t))))))))
 (VC.obl
 (Lv.inR L
 (Lv.ar L BinOp.sub IntKind.i64 (Lv.ar L BinOp.sub IntKind.i64 (Lv.cast L (Lv.slen L (Lv.ext L s (Lv.toN L (Prod.fst x)) (Lv.toN L (Lv.cast L (Lv.slen L s)))))) 1)
 (Prod.fst x_1))
 (Lv.slen L (Lv.ext L s (Lv.toN L (Prod.fst x)) (Lv.toN L (Lv.cast L (Lv.slen L s))))))
 (VC.obl
 (Lv.inR L
 (Lv.ar L BinOp.sub IntKind.i64 (Lv.ar L BinOp.sub IntKind.i64 (Lv.cast L (Lv.slen L (Lv.ext L t (Lv.toN L (Prod.fst x)) (Lv.toN L (Lv.cast L (Lv.slen L t)))))) 1)
 (Prod.fst x_1))
 (Lv.slen L (Lv.ext L t (Lv.toN L (Prod.fst x)) (Lv.toN L (Lv.cast L (Lv.slen L t))))))
 (VC.br
 (Lv.cmp L BinOp.eql
 (Lv.byte L (Lv.ext L s (Lv.toN L (Prod.fst x)) (Lv.toN L (Lv.cast L (Lv.slen L s))))
 (Lv.ar L BinOp.sub IntKind.i64 (Lv.ar L BinOp.sub IntKind.i64 (Lv.cast L (Lv.slen L (Lv.ext L s (Lv.toN L (Prod.fst x)) (Lv.toN L (Lv.cast L (Lv.slen L s)))))) 1)
 (Prod.fst x_1)))
 (Lv.byte L (Lv.ext L t (Lv.toN L (Prod.fst x)) (Lv.toN L (Lv.cast L (Lv.slen L t))))
 (Lv.ar L BinOp.sub IntKind.i64 (Lv.ar L BinOp.sub IntKind.i64 (Lv.cast L (Lv.slen L (Lv.ext L t (Lv.toN L (Prod.fst x)) (Lv.toN L (Lv.cast L (Lv.slen L t)))))) 1)
 (Prod.fst x_1))))
 (VC.ok
 (St.mk 23
 [(0,
 V.c
 (C.int IntKind.i64
 (Lv.mn L (Lv.cast L (Lv.slen L (Lv.ext L s (Lv.toN L (Prod.fst x)) (Lv.toN L (Lv.cast L (Lv.slen L s))))))
 (Lv.cast L (Lv.slen L (Lv.ext L t (Lv.toN L (Prod.fst x)) (Lv.toN L (Lv.cast L (Lv.slen L t))))))))),
 (1, V.c (C.fn 102 [5])), (2, V.c (C.fn 102 [6])), (7, V.c (C.int IntKind.i64 (Lv.ar L BinOp.add IntKind.i64 (Prod.fst x_1) 1)))]
 [(0, Ob.amb), (1, Ob.box 35 [C.int IntKind.i64 0, C.int IntKind.i64 0, C.str ByteArray.empty]), (2, Ob.row 9 Ty.str [s, t]), (3, Ob.box 9 [C.str s]),
 (4, Ob.box 9 [C.str t]), (5, Ob.box 9 [C.str (Lv.ext L s (Lv.toN L (Prod.fst x)) (Lv.toN L (Lv.cast L (Lv.slen L s))))]),
 (6, Ob.box 9 [C.str (Lv.ext L t (Lv.toN L (Prod.fst x)) (Lv.toN L (Lv.cast L (Lv.slen L t))))])]
 7 =
 St.mk 23
 [(0,
 V.c
 (C.int IntKind.i64
 (Lv.mn L (Lv.cast L (Lv.slen L (Lv.ext L s (Lv.toN L (Prod.fst x)) (Lv.toN L (Lv.cast L (Lv.slen L s))))))
 (Lv.cast L (Lv.slen L (Lv.ext L t (Lv.toN L (Prod.fst x)) (Lv.toN L (Lv.cast L (Lv.slen L t))))))))),
 (1, V.c (C.fn 102 [5])), (2, V.c (C.fn 102 [6])), (7, V.c (C.int IntKind.i64 (Lv.ar L BinOp.add IntKind.i64 (Prod.fst x_1) 1)))]
 [(0, Ob.amb), (1, Ob.box 35 [C.int IntKind.i64 0, C.int IntKind.i64 0, C.str ByteArray.empty]), (2, Ob.row 9 Ty.str [s, t]), (3, Ob.box 9 [C.str s]),
 (4, Ob.box 9 [C.str t]), (5, Ob.box 9 [C.str (Lv.ext L s (Lv.toN L (Prod.fst x)) (Lv.toN L (Lv.cast L (Lv.slen L s))))]),
 (6, Ob.box 9 [C.str (Lv.ext L t (Lv.toN L (Prod.fst x)) (Lv.toN L (Lv.cast L (Lv.slen L t))))])]
 7 ∧
 I
 (Lv.mn L (Lv.cast L (Lv.slen L (Lv.ext L s (Lv.toN L (Prod.fst x)) (Lv.toN L (Lv.cast L (Lv.slen L s))))))
 (Lv.cast L (Lv.slen L (Lv.ext L t (Lv.toN L (Prod.fst x)) (Lv.toN L (Lv.cast L (Lv.slen L t)))))),
 (102, Lv.ext L s (Lv.toN L (Prod.fst x)) (Lv.toN L (Lv.cast L (Lv.slen L s)))), 102, Lv.ext L t (Lv.toN L (Prod.fst x)) (Lv.toN L (Lv.cast L (Lv.slen L t))))
 (Lv.ar L BinOp.add IntKind.i64 (Prod.fst x_1) 1, ()) ∧
 mu
 (Lv.mn L (Lv.cast L (Lv.slen L (Lv.ext L s (Lv.toN L (Prod.fst x)) (Lv.toN L (Lv.cast L (Lv.slen L s))))))
 (Lv.cast L (Lv.slen L (Lv.ext L t (Lv.toN L (Prod.fst x)) (Lv.toN L (Lv.cast L (Lv.slen L t)))))),
 (102, Lv.ext L s (Lv.toN L (Prod.fst x)) (Lv.toN L (Lv.cast L (Lv.slen L s)))), 102,
 Lv.ext L t (Lv.toN L (Prod.fst x)) (Lv.toN L (Lv.cast L (Lv.slen L t))))
 (Lv.ar L BinOp.add IntKind.i64 (Prod.fst x_1) 1, ()) <
 mu
 (Lv.mn L (Lv.cast L (Lv.slen L (Lv.ext L s (Lv.toN L (Prod.fst x)) (Lv.toN L (Lv.cast L (Lv.slen L s))))))
 (Lv.cast L (Lv.slen L (Lv.ext L t (Lv.toN L (Prod.fst x)) (Lv.toN L (Lv.cast L (Lv.slen L t)))))),
 (102, Lv.ext L s (Lv.toN L (Prod.fst x)) (Lv.toN L (Lv.cast L (Lv.slen L s)))), 102,
 Lv.ext L t (Lv.toN L (Prod.fst x)) (Lv.toN L (Lv.cast L (Lv.slen L t))))
 x_1))
 (VC.obl
 (Lv.le3 L (Lv.cast L 0)
 (Lv.ar L BinOp.sub IntKind.i64 (Lv.cast L (Lv.slen L (Lv.ext L t (Lv.toN L (Prod.fst x)) (Lv.toN L (Lv.cast L (Lv.slen L t)))))) (Prod.fst x_1))
 (Lv.slen L (Lv.ext L t (Lv.toN L (Prod.fst x)) (Lv.toN L (Lv.cast L (Lv.slen L t))))))
 (VC.ok
 (((Prod.fst x, Lv.ar L BinOp.sub IntKind.i64 (Lv.cast L (Lv.slen L s)) (Prod.fst x_1),
 Lv.ext L (Lv.ext L t (Lv.toN L (Prod.fst x)) (Lv.toN L (Lv.cast L (Lv.slen L t)))) (Lv.toN L (Lv.cast L 0))
 (Lv.toN L
 (Lv.ar L BinOp.sub IntKind.i64 (Lv.cast L (Lv.slen L (Lv.ext L t (Lv.toN L (Prod.fst x)) (Lv.toN L (Lv.cast L (Lv.slen L t)))))) (Prod.fst x_1)))),
 0, ()) =
 (Prod.fst (LexF.diff F s t), Prod.snd (LexF.diff F s t), ())))))))
 (VC.obl
 (Lv.le3 L (Lv.cast L 0) (Lv.ar L BinOp.sub IntKind.i64 (Lv.cast L (Lv.slen L (Lv.ext L t (Lv.toN L (Prod.fst x)) (Lv.toN L (Lv.cast L (Lv.slen L t)))))) (Prod.fst x_1))
 (Lv.slen L (Lv.ext L t (Lv.toN L (Prod.fst x)) (Lv.toN L (Lv.cast L (Lv.slen L t))))))
 (VC.ok
 (((Prod.fst x, Lv.ar L BinOp.sub IntKind.i64 (Lv.cast L (Lv.slen L s)) (Prod.fst x_1),
 Lv.ext L (Lv.ext L t (Lv.toN L (Prod.fst x)) (Lv.toN L (Lv.cast L (Lv.slen L t)))) (Lv.toN L (Lv.cast L 0))
 (Lv.toN L (Lv.ar L BinOp.sub IntKind.i64 (Lv.cast L (Lv.slen L (Lv.ext L t (Lv.toN L (Prod.fst x)) (Lv.toN L (Lv.cast L (Lv.slen L t)))))) (Prod.fst x_1)))),
 0, ()) =
 (Prod.fst (LexF.diff F s t), Prod.snd (LexF.diff F s t), ()))))))))))))))
theorem n31_eq (L : Lv) (F : LexF) (I : K66 → Ds [It] → Prop) (mu : K66 → Ds [It] → Nat) (s t : ByteArray) : vcI L F [56] [(66, D66 (a66 L I mu)), (67, D67 a0), (68, D68 a0), (101, D101 a0), (102, D102 a0)] 2 (D31 a31) (S31 F) (s, t, ()) = n31 L F I mu s t := by kernel_rfl
theorem n31_go (L : Lv) (F : LexF) (I : K66 → Ds [It] → Prop) (mu : K66 → Ds [It] → Nat) (s t : ByteArray) (h : VC.holds (n31 L F I mu s t)) : Holds (vcI L F [56] [(66, D66 (a66 L I mu)), (67, D67 a0), (68, D68 a0), (101, D101 a0), (102, D102 a0)] 2 (D31 a31) (S31 F) (s, t, ())) := Holds.of_eq (n31_eq L F I mu s t) h
def n32 (L : Lv) (F : LexF) (I : Ds [It] → Prop) (mu : Ds [It] → Nat) (J : Ds [It] → Prop) (nu : Ds [It] → Nat) (s t : ByteArray)  : VC :=
 VC.obl True
 (VC.br (Lv.cmp L BinOp.neq (Prod.snd (LexF.chk F s)) 0)
 (VC.ok (((0, 0, ByteArray.empty), Prod.snd (LexF.chk F s), ()) = (Prod.fst (LexF.rDiff F s t), Prod.snd (LexF.rDiff F s t), ())))
 (VC.obl True
 (VC.br (Lv.cmp L BinOp.neq (Prod.snd (LexF.chk F t)) 0)
 (VC.ok (((0, 0, ByteArray.empty), Prod.snd (LexF.chk F t), ()) = (Prod.fst (LexF.rDiff F s t), Prod.snd (LexF.rDiff F s t), ())))
 (VC.obl
 (St.mk 97 [(0, V.c (C.str s)), (1, V.c (C.str t)), (4, V.c (C.ptr 1 0)), (10, V.c (C.int IntKind.i64 0))]
 [(0, Ob.amb), (1, Ob.box 35 [C.int IntKind.i64 0, C.int IntKind.i64 0, C.str ByteArray.empty])] 2 =
 St.mk 97 [(0, V.c (C.str s)), (1, V.c (C.str t)), (4, V.c (C.ptr 1 0)), (10, V.c (C.int IntKind.i64 0))]
 [(0, Ob.amb), (1, Ob.box 35 [C.int IntKind.i64 0, C.int IntKind.i64 0, C.str ByteArray.empty])] 2)
 (VC.obl (I (0, ()))
 (VC.all (Int × Unit) fun (x : Int × Unit) =>
 VC.imp (I x)
 (VC.br (Lv.cmp L BinOp.lss (Prod.fst x) (Lv.cast L (Lv.slen L s)))
 (VC.br (Lv.cmp L BinOp.lss (Prod.fst x) (Lv.cast L (Lv.slen L t)))
 (VC.obl (Lv.inR L (Prod.fst x) (Lv.slen L s))
 (VC.obl (Lv.inR L (Prod.fst x) (Lv.slen L t))
 (VC.br (Lv.cmp L BinOp.eql (Lv.byte L s (Prod.fst x)) (Lv.byte L t (Prod.fst x)))
 (VC.ok
 (St.mk 97 [(0, V.c (C.str s)), (1, V.c (C.str t)), (4, V.c (C.ptr 1 0)), (10, V.c (C.int IntKind.i64 (Lv.ar L BinOp.add IntKind.i64 (Prod.fst x) 1)))]
 [(0, Ob.amb), (1, Ob.box 35 [C.int IntKind.i64 0, C.int IntKind.i64 0, C.str ByteArray.empty])] 2 =
 St.mk 97 [(0, V.c (C.str s)), (1, V.c (C.str t)), (4, V.c (C.ptr 1 0)), (10, V.c (C.int IntKind.i64 (Lv.ar L BinOp.add IntKind.i64 (Prod.fst x) 1)))]
 [(0, Ob.amb), (1, Ob.box 35 [C.int IntKind.i64 0, C.int IntKind.i64 0, C.str ByteArray.empty])] 2 ∧
 I (Lv.ar L BinOp.add IntKind.i64 (Prod.fst x) 1, ()) ∧ mu (Lv.ar L BinOp.add IntKind.i64 (Prod.fst x) 1, ()) < mu x))
 (VC.obl
 (St.mk 97 [(0, V.c (C.str s)), (1, V.c (C.str t)), (4, V.c (C.ptr 1 0)), (10, V.c (C.int IntKind.i64 (Prod.fst x))), (11, V.c (C.int IntKind.i64 0))]
 [(0, Ob.amb), (1, Ob.box 35 [C.int IntKind.i64 0, C.int IntKind.i64 0, C.str ByteArray.empty])] 2 =
 St.mk 97 [(0, V.c (C.str s)), (1, V.c (C.str t)), (4, V.c (C.ptr 1 0)), (10, V.c (C.int IntKind.i64 (Prod.fst x))), (11, V.c (C.int IntKind.i64 0))]
 [(0, Ob.amb), (1, Ob.box 35 [C.int IntKind.i64 0, C.int IntKind.i64 0, C.str ByteArray.empty])] 2)
 (VC.obl (J (0, ()))
 (VC.all (Int × Unit) fun (x_1 : Int × Unit) =>
 VC.imp (J x_1)
 (VC.br (Lv.cmp L BinOp.lss (Lv.ar L BinOp.add IntKind.i64 (Prod.fst x) (Prod.fst x_1)) (Lv.cast L (Lv.slen L s)))
 (VC.br (Lv.cmp L BinOp.lss (Lv.ar L BinOp.add IntKind.i64 (Prod.fst x) (Prod.fst x_1)) (Lv.cast L (Lv.slen L t)))
 (VC.obl (Lv.inR L (Lv.ar L BinOp.sub IntKind.i64 (Lv.ar L BinOp.sub IntKind.i64 (Lv.cast L (Lv.slen L s)) 1) (Prod.fst x_1)) (Lv.slen L s))
 (VC.obl (Lv.inR L (Lv.ar L BinOp.sub IntKind.i64 (Lv.ar L BinOp.sub IntKind.i64 (Lv.cast L (Lv.slen L t)) 1) (Prod.fst x_1)) (Lv.slen L t))
 (VC.br
 (Lv.cmp L BinOp.eql (Lv.byte L s (Lv.ar L BinOp.sub IntKind.i64 (Lv.ar L BinOp.sub IntKind.i64 (Lv.cast L (Lv.slen L s)) 1) (Prod.fst x_1)))
 (Lv.byte L t (Lv.ar L BinOp.sub IntKind.i64 (Lv.ar L BinOp.sub IntKind.i64 (Lv.cast L (Lv.slen L t)) 1) (Prod.fst x_1))))
 (VC.ok
 (St.mk 97
 [(0, V.c (C.str s)), (1, V.c (C.str t)), (4, V.c (C.ptr 1 0)), (10, V.c (C.int IntKind.i64 (Prod.fst x))),
 (11, V.c (C.int IntKind.i64 (Lv.ar L BinOp.add IntKind.i64 (Prod.fst x_1) 1)))]
 [(0, Ob.amb), (1, Ob.box 35 [C.int IntKind.i64 0, C.int IntKind.i64 0, C.str ByteArray.empty])] 2 =
 St.mk 97
 [(0, V.c (C.str s)), (1, V.c (C.str t)), (4, V.c (C.ptr 1 0)), (10, V.c (C.int IntKind.i64 (Prod.fst x))),
 (11, V.c (C.int IntKind.i64 (Lv.ar L BinOp.add IntKind.i64 (Prod.fst x_1) 1)))]
 [(0, Ob.amb), (1, Ob.box 35 [C.int IntKind.i64 0, C.int IntKind.i64 0, C.str ByteArray.empty])] 2 ∧
 J (Lv.ar L BinOp.add IntKind.i64 (Prod.fst x_1) 1, ()) ∧ nu (Lv.ar L BinOp.add IntKind.i64 (Prod.fst x_1) 1, ()) < nu x_1))
 (VC.obl (Lv.le3 L (Prod.fst x) (Lv.ar L BinOp.sub IntKind.i64 (Lv.cast L (Lv.slen L t)) (Prod.fst x_1)) (Lv.slen L t))
 (VC.ok
 (((Prod.fst x, Lv.ar L BinOp.sub IntKind.i64 (Lv.cast L (Lv.slen L s)) (Prod.fst x_1),
 Lv.ext L t (Lv.toN L (Prod.fst x)) (Lv.toN L (Lv.ar L BinOp.sub IntKind.i64 (Lv.cast L (Lv.slen L t)) (Prod.fst x_1)))),
 0, ()) =
 (Prod.fst (LexF.rDiff F s t), Prod.snd (LexF.rDiff F s t), ())))))))
 (VC.obl (Lv.le3 L (Prod.fst x) (Lv.ar L BinOp.sub IntKind.i64 (Lv.cast L (Lv.slen L t)) (Prod.fst x_1)) (Lv.slen L t))
 (VC.ok
 (((Prod.fst x, Lv.ar L BinOp.sub IntKind.i64 (Lv.cast L (Lv.slen L s)) (Prod.fst x_1),
 Lv.ext L t (Lv.toN L (Prod.fst x)) (Lv.toN L (Lv.ar L BinOp.sub IntKind.i64 (Lv.cast L (Lv.slen L t)) (Prod.fst x_1)))),
 0, ()) =
 (Prod.fst (LexF.rDiff F s t), Prod.snd (LexF.rDiff F s t), ())))))
 (VC.obl (Lv.le3 L (Prod.fst x) (Lv.ar L BinOp.sub IntKind.i64 (Lv.cast L (Lv.slen L t)) (Prod.fst x_1)) (Lv.slen L t))
 (VC.ok
 (((Prod.fst x, Lv.ar L BinOp.sub IntKind.i64 (Lv.cast L (Lv.slen L s)) (Prod.fst x_1),
 Lv.ext L t (Lv.toN L (Prod.fst x)) (Lv.toN L (Lv.ar L BinOp.sub IntKind.i64 (Lv.cast L (Lv.slen L t)) (Prod.fst x_1)))),
 0, ()) =
 (Prod.fst (LexF.rDiff F s t), Prod.snd (LexF.rDiff F s t), ())))))))))))
 (VC.obl
 (St.mk 97 [(0, V.c (C.str s)), (1, V.c (C.str t)), (4, V.c (C.ptr 1 0)), (10, V.c (C.int IntKind.i64 (Prod.fst x))), (11, V.c (C.int IntKind.i64 0))]
 [(0, Ob.amb), (1, Ob.box 35 [C.int IntKind.i64 0, C.int IntKind.i64 0, C.str ByteArray.empty])] 2 =
 St.mk 97 [(0, V.c (C.str s)), (1, V.c (C.str t)), (4, V.c (C.ptr 1 0)), (10, V.c (C.int IntKind.i64 (Prod.fst x))), (11, V.c (C.int IntKind.i64 0))]
 [(0, Ob.amb), (1, Ob.box 35 [C.int IntKind.i64 0, C.int IntKind.i64 0, C.str ByteArray.empty])] 2)
 (VC.obl (J (0, ()))
 (VC.all (Int × Unit) fun (x_1 : Int × Unit) =>
 VC.imp (J x_1)
 (VC.br (Lv.cmp L BinOp.lss (Lv.ar L BinOp.add IntKind.i64 (Prod.fst x) (Prod.fst x_1)) (Lv.cast L (Lv.slen L s)))
 (VC.br (Lv.cmp L BinOp.lss (Lv.ar L BinOp.add IntKind.i64 (Prod.fst x) (Prod.fst x_1)) (Lv.cast L (Lv.slen L t)))
 (VC.obl (Lv.inR L (Lv.ar L BinOp.sub IntKind.i64 (Lv.ar L BinOp.sub IntKind.i64 (Lv.cast L (Lv.slen L s)) 1) (Prod.fst x_1)) (Lv.slen L s))
 (VC.obl (Lv.inR L (Lv.ar L BinOp.sub IntKind.i64 (Lv.ar L BinOp.sub IntKind.i64 (Lv.cast L (Lv.slen L t)) 1) (Prod.fst x_1)) (Lv.slen L t))
 (VC.br
 (Lv.cmp L BinOp.eql (Lv.byte L s (Lv.ar L BinOp.sub IntKind.i64 (Lv.ar L BinOp.sub IntKind.i64 (Lv.cast L (Lv.slen L s)) 1) (Prod.fst x_1)))
 (Lv.byte L t (Lv.ar L BinOp.sub IntKind.i64 (Lv.ar L BinOp.sub IntKind.i64 (Lv.cast L (Lv.slen L t)) 1) (Prod.fst x_1))))
 (VC.ok
 (St.mk 97
 [(0, V.c (C.str s)), (1, V.c (C.str t)), (4, V.c (C.ptr 1 0)), (10, V.c (C.int IntKind.i64 (Prod.fst x))),
 (11, V.c (C.int IntKind.i64 (Lv.ar L BinOp.add IntKind.i64 (Prod.fst x_1) 1)))]
 [(0, Ob.amb), (1, Ob.box 35 [C.int IntKind.i64 0, C.int IntKind.i64 0, C.str ByteArray.empty])] 2 =
 St.mk 97
 [(0, V.c (C.str s)), (1, V.c (C.str t)), (4, V.c (C.ptr 1 0)), (10, V.c (C.int IntKind.i64 (Prod.fst x))),
 (11, V.c (C.int IntKind.i64 (Lv.ar L BinOp.add IntKind.i64 (Prod.fst x_1) 1)))]
 [(0, Ob.amb), (1, Ob.box 35 [C.int IntKind.i64 0, C.int IntKind.i64 0, C.str ByteArray.empty])] 2 ∧
 J (Lv.ar L BinOp.add IntKind.i64 (Prod.fst x_1) 1, ()) ∧ nu (Lv.ar L BinOp.add IntKind.i64 (Prod.fst x_1) 1, ()) < nu x_1))
 (VC.obl (Lv.le3 L (Prod.fst x) (Lv.ar L BinOp.sub IntKind.i64 (Lv.cast L (Lv.slen L t)) (Prod.fst x_1)) (Lv.slen L t))
 (VC.ok
 (((Prod.fst x, Lv.ar L BinOp.sub IntKind.i64 (Lv.cast L (Lv.slen L s)) (Prod.fst x_1),
 Lv.ext L t (Lv.toN L (Prod.fst x)) (Lv.toN L (Lv.ar L BinOp.sub IntKind.i64 (Lv.cast L (Lv.slen L t)) (Prod.fst x_1)))),
 0, ()) =
 (Prod.fst (LexF.rDiff F s t), Prod.snd (LexF.rDiff F s t), ())))))))
 (VC.obl (Lv.le3 L (Prod.fst x) (Lv.ar L BinOp.sub IntKind.i64 (Lv.cast L (Lv.slen L t)) (Prod.fst x_1)) (Lv.slen L t))
 (VC.ok
 (((Prod.fst x, Lv.ar L BinOp.sub IntKind.i64 (Lv.cast L (Lv.slen L s)) (Prod.fst x_1),
 Lv.ext L t (Lv.toN L (Prod.fst x)) (Lv.toN L (Lv.ar L BinOp.sub IntKind.i64 (Lv.cast L (Lv.slen L t)) (Prod.fst x_1)))),
 0, ()) =
 (Prod.fst (LexF.rDiff F s t), Prod.snd (LexF.rDiff F s t), ())))))
 (VC.obl (Lv.le3 L (Prod.fst x) (Lv.ar L BinOp.sub IntKind.i64 (Lv.cast L (Lv.slen L t)) (Prod.fst x_1)) (Lv.slen L t))
 (VC.ok
 (((Prod.fst x, Lv.ar L BinOp.sub IntKind.i64 (Lv.cast L (Lv.slen L s)) (Prod.fst x_1),
 Lv.ext L t (Lv.toN L (Prod.fst x)) (Lv.toN L (Lv.ar L BinOp.sub IntKind.i64 (Lv.cast L (Lv.slen L t)) (Prod.fst x_1)))),
 0, ()) =
 (Prod.fst (LexF.rDiff F s t), Prod.snd (LexF.rDiff F s t), ())))))))))
 (VC.obl
 (St.mk 97 [(0, V.c (C.str s)), (1, V.c (C.str t)), (4, V.c (C.ptr 1 0)), (10, V.c (C.int IntKind.i64 (Prod.fst x))), (11, V.c (C.int IntKind.i64 0))]
 [(0, Ob.amb), (1, Ob.box 35 [C.int IntKind.i64 0, C.int IntKind.i64 0, C.str ByteArray.empty])] 2 =
 St.mk 97 [(0, V.c (C.str s)), (1, V.c (C.str t)), (4, V.c (C.ptr 1 0)), (10, V.c (C.int IntKind.i64 (Prod.fst x))), (11, V.c (C.int IntKind.i64 0))]
 [(0, Ob.amb), (1, Ob.box 35 [C.int IntKind.i64 0, C.int IntKind.i64 0, C.str ByteArray.empty])] 2)
 (VC.obl (J (0, ()))
 (VC.all (Int × Unit) fun (x_1 : Int × Unit) =>
 VC.imp (J x_1)
 (VC.br (Lv.cmp L BinOp.lss (Lv.ar L BinOp.add IntKind.i64 (Prod.fst x) (Prod.fst x_1)) (Lv.cast L (Lv.slen L s)))
 (VC.br (Lv.cmp L BinOp.lss (Lv.ar L BinOp.add IntKind.i64 (Prod.fst x) (Prod.fst x_1)) (Lv.cast L (Lv.slen L t)))
 (VC.obl (Lv.inR L (Lv.ar L BinOp.sub IntKind.i64 (Lv.ar L BinOp.sub IntKind.i64 (Lv.cast L (Lv.slen L s)) 1) (Prod.fst x_1)) (Lv.slen L s))
 (VC.obl (Lv.inR L (Lv.ar L BinOp.sub IntKind.i64 (Lv.ar L BinOp.sub IntKind.i64 (Lv.cast L (Lv.slen L t)) 1) (Prod.fst x_1)) (Lv.slen L t))
 (VC.br
 (Lv.cmp L BinOp.eql (Lv.byte L s (Lv.ar L BinOp.sub IntKind.i64 (Lv.ar L BinOp.sub IntKind.i64 (Lv.cast L (Lv.slen L s)) 1) (Prod.fst x_1)))
 (Lv.byte L t (Lv.ar L BinOp.sub IntKind.i64 (Lv.ar L BinOp.sub IntKind.i64 (Lv.cast L (Lv.slen L t)) 1) (Prod.fst x_1))))
 (VC.ok
 (St.mk 97
 [(0, V.c (C.str s)), (1, V.c (C.str t)), (4, V.c (C.ptr 1 0)), (10, V.c (C.int IntKind.i64 (Prod.fst x))),
 (11, V.c (C.int IntKind.i64 (Lv.ar L BinOp.add IntKind.i64 (Prod.fst x_1) 1)))]
 [(0, Ob.amb), (1, Ob.box 35 [C.int IntKind.i64 0, C.int IntKind.i64 0, C.str ByteArray.empty])] 2 =
 St.mk 97
 [(0, V.c (C.str s)), (1, V.c (C.str t)), (4, V.c (C.ptr 1 0)), (10, V.c (C.int IntKind.i64 (Prod.fst x))),
 (11, V.c (C.int IntKind.i64 (Lv.ar L BinOp.add IntKind.i64 (Prod.fst x_1) 1)))]
 [(0, Ob.amb), (1, Ob.box 35 [C.int IntKind.i64 0, C.int IntKind.i64 0, C.str ByteArray.empty])] 2 ∧
 J (Lv.ar L BinOp.add IntKind.i64 (Prod.fst x_1) 1, ()) ∧ nu (Lv.ar L BinOp.add IntKind.i64 (Prod.fst x_1) 1, ()) < nu x_1))
 (VC.obl (Lv.le3 L (Prod.fst x) (Lv.ar L BinOp.sub IntKind.i64 (Lv.cast L (Lv.slen L t)) (Prod.fst x_1)) (Lv.slen L t))
 (VC.ok
 (((Prod.fst x, Lv.ar L BinOp.sub IntKind.i64 (Lv.cast L (Lv.slen L s)) (Prod.fst x_1),
 Lv.ext L t (Lv.toN L (Prod.fst x)) (Lv.toN L (Lv.ar L BinOp.sub IntKind.i64 (Lv.cast L (Lv.slen L t)) (Prod.fst x_1)))),
 0, ()) =
 (Prod.fst (LexF.rDiff F s t), Prod.snd (LexF.rDiff F s t), ())))))))
 (VC.obl (Lv.le3 L (Prod.fst x) (Lv.ar L BinOp.sub IntKind.i64 (Lv.cast L (Lv.slen L t)) (Prod.fst x_1)) (Lv.slen L t))
 (VC.ok
 (((Prod.fst x, Lv.ar L BinOp.sub IntKind.i64 (Lv.cast L (Lv.slen L s)) (Prod.fst x_1),
 Lv.ext L t (Lv.toN L (Prod.fst x)) (Lv.toN L (Lv.ar L BinOp.sub IntKind.i64 (Lv.cast L (Lv.slen L t)) (Prod.fst x_1)))),
 0, ()) =
 (Prod.fst (LexF.rDiff F s t), Prod.snd (LexF.rDiff F s t), ())))))
 (VC.obl (Lv.le3 L (Prod.fst x) (Lv.ar L BinOp.sub IntKind.i64 (Lv.cast L (Lv.slen L t)) (Prod.fst x_1)) (Lv.slen L t))
 (VC.ok
 (((Prod.fst x, Lv.ar L BinOp.sub IntKind.i64 (Lv.cast L (Lv.slen L s)) (Prod.fst x_1),
 Lv.ext L t (Lv.toN L (Prod.fst x)) (Lv.toN L (Lv.ar L BinOp.sub IntKind.i64 (Lv.cast L (Lv.slen L t)) (Prod.fst x_1)))),
 0, ()) =
 (Prod.fst (LexF.rDiff F s t), Prod.snd (LexF.rDiff F s t), ())))))))))))))))
theorem n32_eq (L : Lv) (F : LexF) (I : Ds [It] → Prop) (mu : Ds [It] → Nat) (J : Ds [It] → Prop) (nu : Ds [It] → Nat) (s t : ByteArray) : vcO L F [59] (D32 (a32 L I mu J nu)) (S32 F) (s, t, ()) = n32 L F I mu J nu s t := by kernel_rfl
theorem n32_go (L : Lv) (F : LexF) (I : Ds [It] → Prop) (mu : Ds [It] → Nat) (J : Ds [It] → Prop) (nu : Ds [It] → Nat) (s t : ByteArray) (h : VC.holds (n32 L F I mu J nu s t)) : Holds (vcO L F [59] (D32 (a32 L I mu J nu)) (S32 F) (s, t, ())) := Holds.of_eq (n32_eq L F I mu J nu s t) h

def shortF (s : ByteArray) : Bool := decide (s.size ≤ 3000)
def thinF (l : List Lx) : Bool := decide (l.length ≤ 1000) && l.all fun x => shortF x.2.1
theorem ok21 (F : LexF) (h : F.short = shortF) : SpecOk prog 21 (S21 F) := by
  refine contract_by hm hE D21 fnok21 _ fun (z : ByteArray × Unit) hpre => ?_
  obtain ⟨s, ⟨⟩⟩ := z
  refine pack _ 0 a0 (only_ok (F := F) (l := []) (fun _ h => by cases h)) ?_
  refine n21_go Lv.std F s ?_
  simp only [n21, VC.holds, std_cmp, std_scmp, std_ar_add, std_ar_sub, std_ar_mul, std_ar, std_dv, std_shf, std_conv, std_mn, std_mx, std_beq, std_bnot, std_band, std_scat, std_byte, std_ext, std_slen, std_strOf, std_bytes, std_llen, std_get, std_setl, std_app, std_take, std_drop, std_rep, std_mhas, std_mval, std_mput, std_cast, std_toN, std_sub, std_add, std_inR, std_le3, std_leN, std_ltN, std_ne0, std_nonneg, std_catOk, std_room, std_mkOk, cmp_lss_t, cmp_lss_f, cmp_leq_t, cmp_leq_f, cmp_gtr_t, cmp_gtr_f, cmp_geq_t, cmp_geq_f, cmp_eql_t, cmp_eql_f, cmp_neq_t, cmp_neq_f, scmp_eql_t, scmp_eql_f, scmp_neq_t, scmp_neq_f, dflt_int, dflt_bool, dflt_str, dflt_sl, dflt_pair, h, Prod.mk.injEq, and_true, true_and]
  refine ⟨fun hs => ?_, fun hs => ?_⟩
  · unfold shortF; rw [decide_eq_true (by omega)]
  · unfold shortF; rw [decide_eq_false (by omega)]
theorem ok28 (F : LexF) (h : F.thin = thinF) (hs : F.short = shortF) (k1 : SpecOk prog 21 (S21 F)) : SpecOk prog 28 (S28 F) := by
  refine contract_by hm hE D28 fnok28 _ fun (z : List Lx × Unit) hpre => ?_
  obtain ⟨l, ⟨⟩⟩ := z
  let I : Int × Unit → Prop := fun z => 0 ≤ z.1 ∧ z.1 ≤ l.length ∧ (l.take z.1.toNat).all (fun x => shortF x.2.1) = true
  let mu : Int × Unit → Nat := fun z => (l.length - z.1).toNat
  refine pack _ 0 (a28 Lv.std I mu) (only_ok (F := F) (l := [21]) (by simp only [List.mem_singleton, forall_eq]; exact at_ok k1 (by kernel_rfl))) ?_
  refine n28b_go Lv.std F I mu l ?_
  simp only [n28b, VC.holds, std_cmp, std_scmp, std_ar_add, std_ar_sub, std_ar_mul, std_ar, std_dv, std_shf, std_conv, std_mn, std_mx, std_beq, std_bnot, std_band, std_scat, std_byte, std_ext, std_slen, std_strOf, std_bytes, std_llen, std_get, std_setl, std_app, std_take, std_drop, std_rep, std_mhas, std_mval, std_mput, std_cast, std_toN, std_sub, std_add, std_inR, std_le3, std_leN, std_ltN, std_ne0, std_nonneg, std_catOk, std_room, std_mkOk, cmp_lss_t, cmp_lss_f, cmp_leq_t, cmp_leq_f, cmp_gtr_t, cmp_gtr_f, cmp_geq_t, cmp_geq_f, cmp_eql_t, cmp_eql_f, cmp_neq_t, cmp_neq_f, scmp_eql_t, scmp_eql_f, scmp_neq_t, scmp_neq_f, dflt_int, dflt_bool, dflt_str, dflt_sl, dflt_pair, h, hs, Prod.mk.injEq, and_true, true_and]
  refine ⟨fun hbig => ?_, fun hle => ⟨⟨by show (0 : Int) ≤ 0; omega, by show (0 : Int) ≤ l.length; omega, rfl⟩, ?_⟩⟩
  · unfold thinF; rw [decide_eq_false (by omega)]; rfl
  have hle' : l.length ≤ 1000 := by omega
  rintro ⟨i, _⟩ ⟨h0, h1, h2⟩
  simp only at h0 h1 h2 ⊢
  refine ⟨fun hlt => ?_, fun hge => ?_⟩
  · obtain ⟨k, rfl⟩ : ∃ k : Nat, i = k := ⟨i.toNat, by omega⟩
    have hk : k < l.length := by omega
    have ew : IntKind.i64.wrap ((k : Int) + 1) = (k : Int) + 1 := by rw [wrap_i64 (by omega) (by omega)]
    simp only [ew, Int.toNat_natCast, List.getElem?_eq_getElem hk, Option.getD_some] at h2 ⊢
    refine ⟨⟨by omega, by omega⟩, fun hR => ⟨⟨by show (0 : Int) ≤ (k : Int) + 1; omega, by show (k : Int) + 1 ≤ l.length; omega, ?_⟩, by show ((l.length : Int) - ((k : Int) + 1)).toNat < ((l.length : Int) - k).toNat; omega⟩, fun hR => ?_⟩
    · show (l.take ((k : Int) + 1).toNat).all (fun x => shortF x.2.1) = true
      rw [show ((k : Int) + 1).toNat = k + 1 by omega]
      exact all_step (f := fun x => shortF x.2.1) k hk h2 hR
    · unfold thinF; rw [all_no (f := fun x => shortF x.2.1) k hk hR, Bool.and_false]
  · have hi : i = l.length := by omega
    subst hi
    rw [Int.toNat_natCast, List.take_length] at h2
    unfold thinF; rw [h2, decide_eq_true hle']; rfl
theorem lx_eq (x y : Lx) : (x = y) ↔ x.1 = y.1 ∧ x.2.1 = y.2.1 ∧ x.2.2 = y.2.2 := by
  obtain ⟨a, b, c⟩ := x
  obtain ⟨d, e, f⟩ := y
  simp
theorem take_eq_step {l m : List Lx} {k : Nat} (h1 : k < l.length) (h2 : k < m.length) (h : l.take k = m.take k) (he : l[k] = m[k]) : l.take (k + 1) = m.take (k + 1) := by
  rw [take_snoc l k h1, take_snoc m k h2, h, he]
theorem ok25 (F : LexF) (hpl : F.pL = pLF) (h : F.same = sameF) : SpecOk prog 25 (S25 F) := by
  refine contract_by hm hE D25 fnok25 _ fun (z : List Lx × List Lx × Unit) hpre => ?_
  obtain ⟨l, m, ⟨⟩⟩ := z
  have hpre' : F.pL l := hpre
  rw [hpl] at hpre'
  obtain ⟨g1, g2⟩ := hpre'
  let I : Int × Unit → Prop := fun z => 0 ≤ z.1 ∧ z.1 ≤ l.length ∧ l.take z.1.toNat = m.take z.1.toNat
  let mu : Int × Unit → Nat := fun z => (l.length - z.1).toNat
  refine pack _ 0 (a25 Lv.std I mu) (only_ok (F := F) (l := []) (fun _ h => by cases h)) ?_
  refine n25_go Lv.std F I mu l m ?_
  simp only [n25, VC.holds, std_cmp, std_scmp, std_ar_add, std_ar_sub, std_ar_mul, std_ar, std_dv, std_shf, std_conv, std_mn, std_mx, std_beq, std_bnot, std_band, std_scat, std_byte, std_ext, std_slen, std_strOf, std_bytes, std_llen, std_get, std_setl, std_app, std_take, std_drop, std_rep, std_mhas, std_mval, std_mput, std_cast, std_toN, std_sub, std_add, std_inR, std_le3, std_leN, std_ltN, std_ne0, std_nonneg, std_catOk, std_room, std_mkOk, cmp_lss_t, cmp_lss_f, cmp_leq_t, cmp_leq_f, cmp_gtr_t, cmp_gtr_f, cmp_geq_t, cmp_geq_f, cmp_eql_t, cmp_eql_f, cmp_neq_t, cmp_neq_f, scmp_eql_t, scmp_eql_f, scmp_neq_t, scmp_neq_f, dflt_int, dflt_bool, dflt_str, dflt_sl, dflt_pair, h, Prod.mk.injEq, and_true, true_and]
  refine ⟨fun hne => ?_, fun heq => ⟨⟨by show (0 : Int) ≤ 0; omega, by show (0 : Int) ≤ l.length; omega, rfl⟩, ?_⟩⟩
  · unfold sameF; rw [decide_eq_false (fun e => hne (by rw [e]))]
  rintro ⟨i, _⟩ ⟨h0, h1, h2⟩
  simp only at h0 h1 h2 ⊢
  refine ⟨fun hlt => ?_, fun hge => ?_⟩
  · obtain ⟨k, rfl⟩ : ∃ k : Nat, i = k := ⟨i.toNat, by omega⟩
    have hk : k < l.length := by omega
    have hk2 : k < m.length := by omega
    have ew : IntKind.i64.wrap ((k : Int) + 1) = (k : Int) + 1 := by rw [wrap_i64 (by omega) (by omega)]
    simp only [ew, Int.toNat_natCast, List.getElem?_eq_getElem hk, List.getElem?_eq_getElem hk2, Option.getD_some] at h2 ⊢
    have hx : (compare BinOp.eql l[k].1 m[k].1 && (scompare BinOp.eql l[k].2.1 m[k].2.1 && (compare BinOp.eql l[k].2.2 m[k].2.2 && true))) = decide (l[k] = m[k]) := by
      rw [Bool.eq_iff_iff]
      simp only [Bool.and_eq_true, cmp_eql_t, scmp_eql_t, and_true, decide_eq_true_eq]
      exact (lx_eq _ _).symm
    rw [hx]
    refine ⟨⟨by omega, by omega⟩, ⟨by omega, by omega⟩, fun hR => ?_, fun hR => ⟨⟨by show (0 : Int) ≤ (k : Int) + 1; omega, by show (k : Int) + 1 ≤ l.length; omega, ?_⟩, by show ((l.length : Int) - ((k : Int) + 1)).toNat < ((l.length : Int) - k).toNat; omega⟩⟩
    · have hne : l[k] ≠ m[k] := by simpa using hR
      unfold sameF; rw [decide_eq_false (fun e => hne (by subst e; rfl))]
    · show l.take ((k : Int) + 1).toNat = m.take ((k : Int) + 1).toNat
      rw [show ((k : Int) + 1).toNat = k + 1 by omega]
      exact take_eq_step hk hk2 h2 (by simpa using hR)
  · have hi : i = l.length := by omega
    subst hi
    rw [Int.toNat_natCast, List.take_length, show l.length = m.length by omega, List.take_length] at h2
    unfold sameF; rw [decide_eq_true h2]
theorem ok35 (F : LexF) (h : F.sameChange = sameChF) (hs : F.same = sameF) (k1 : SpecOk prog 25 (S25 F)) : SpecOk prog 35 (S35 F) := by
  refine contract_by hm hE D35 fnok35 _ fun (z : Ch × Ch × Unit) hpre => ?_
  obtain ⟨c, d, ⟨⟩⟩ := z
  have hpre' : F.pL c.2.2 := hpre
  refine pack _ 0 a0 (only_ok (F := F) (l := [25]) (by simp only [List.mem_singleton, forall_eq]; exact at_ok k1 (by kernel_rfl))) ?_
  refine n35_go Lv.std F c d ?_
  simp only [n35, VC.holds, std_cmp, std_scmp, std_ar_add, std_ar_sub, std_ar_mul, std_ar, std_dv, std_shf, std_conv, std_mn, std_mx, std_beq, std_bnot, std_band, std_scat, std_byte, std_ext, std_slen, std_strOf, std_bytes, std_llen, std_get, std_setl, std_app, std_take, std_drop, std_rep, std_mhas, std_mval, std_mput, std_cast, std_toN, std_sub, std_add, std_inR, std_le3, std_leN, std_ltN, std_ne0, std_nonneg, std_catOk, std_room, std_mkOk, cmp_lss_t, cmp_lss_f, cmp_leq_t, cmp_leq_f, cmp_gtr_t, cmp_gtr_f, cmp_geq_t, cmp_geq_f, cmp_eql_t, cmp_eql_f, cmp_neq_t, cmp_neq_f, scmp_eql_t, scmp_eql_f, scmp_neq_t, scmp_neq_f, dflt_int, dflt_bool, dflt_str, dflt_sl, dflt_pair, h, hs, Prod.mk.injEq, and_true, true_and]
  unfold sameChF
  refine ⟨fun h1 => ⟨fun h2 => ⟨hpre', fun h3 => ?_, fun h3 => ?_⟩, fun h2 => ?_⟩, fun h1 => ?_⟩
  · rw [decide_eq_true h1, decide_eq_true h2, h3]; rfl
  · rw [decide_eq_true h1, decide_eq_true h2, h3]; rfl
  · rw [decide_eq_true h1, decide_eq_false h2]; rfl
  · rw [decide_eq_false h1]; rfl
theorem x69 : XOk prog 69 r69.x := by
  refine rdX_ok hm hE (fns := fun _ => .no) 0 (fun _ => trivial) (fnok69 a0) r69 (fun cs p h => ?_) (fun p => rfl) rfl (fun p x hpre => ?_)
  · unfold r69 at h ⊢
    simp only at h ⊢
    split at h
    · cases h; rfl
    · cases h
  · refine n69_go Lv.std p x ?_
    refine ⟨hpre, rfl, rfl, ?_⟩
    rfl
/-! ### differences -/
theorem chk_small {s : ByteArray} (h : (chk s).2 = 0) : s.size ≤ 2500 := by
  unfold chk at h
  split at h
  · simp at h
  · omega
theorem diff_e1 {s t : ByteArray} (h : (chk s).2 ≠ 0) : diffF s t = (noEd, (chk s).2) := by unfold diffF; rw [if_pos h]
theorem diff_e2 {s t : ByteArray} (h : (chk s).2 = 0) (h2 : (chk t).2 ≠ 0) : diffF s t = (noEd, (chk t).2) := by unfold diffF; rw [if_neg (fun e => e h), if_pos h2]
theorem diff_ok {s t : ByteArray} (h : (chk s).2 = 0) (h2 : (chk t).2 = 0) : diffF s t = ((hdF s t, s.size - tlF s t, t.extract (hdF s t).toNat (t.size - tlF s t).toNat), 0) := by unfold diffF; rw [if_neg (fun e => e h), if_neg (fun e => e h2)]
theorem tlF_eq (s t : ByteArray) : tlF s t = tlN s t (tlM s t) (tlM s t) := rfl
theorem hdF_eq (s t : ByteArray) : hdF s t = hdN s t (min s.size t.size) (min s.size t.size) := rfl
set_option maxHeartbeats 2000000 in
theorem ok32 (F : LexF) (h : F.rDiff = diffF) (hc : F.chk = chk) (k1 : SpecOk prog 59 (S59 F)) : SpecOk prog 32 (S32 F) := by
  refine contract_by hm hE D32 fnok32 _ fun (z : ByteArray × ByteArray × Unit) hpre => ?_
  obtain ⟨s, t, ⟨⟩⟩ := z
  have hdiff : (chk s).2 = 0 → (chk t).2 = 0 → diffF s t = ((hdF s t, s.size - tlF s t, t.extract (hdF s t).toNat (t.size - tlF s t).toNat), 0) := diff_ok
  obtain ⟨b0, b1, b2⟩ := hdF_le s t
  obtain ⟨c0, c1, c2⟩ := tlF_le s t
  obtain ⟨m, hmm⟩ : ∃ m : Nat, m = min s.size t.size := ⟨_, rfl⟩
  have hF : hdN s t m m = hdF s t := by rw [hmm]; rfl
  obtain ⟨M, hM⟩ : ∃ M : Nat, M = min (s.size - (hdF s t).toNat) (t.size - (hdF s t).toNat) := ⟨_, rfl⟩
  have tF : tlN s t M M = tlF s t := by rw [hM]; rfl
  generalize hdF s t = H at hdiff b0 b1 b2 c1 c2 hF hM
  generalize tlF s t = T at hdiff c0 c1 c2 tF
  let I : Int × Unit → Prop := fun z => 0 ≤ z.1 ∧ z.1 ≤ (m : Nat) ∧ hdN s t m ((m : Int) - z.1).toNat = H
  let mu : Int × Unit → Nat := fun z => ((m : Int) - z.1).toNat
  let J : Int × Unit → Prop := fun z => 0 ≤ z.1 ∧ z.1 ≤ (M : Nat) ∧ tlN s t M ((M : Int) - z.1).toNat = T
  let nu : Int × Unit → Nat := fun z => ((M : Int) - z.1).toNat
  refine pack _ 0 (a32 Lv.std I mu J nu) (only_ok (F := F) (l := [59]) (by simp only [List.mem_singleton, forall_eq]; exact at_ok k1 (by kernel_rfl))) ?_
  refine n32_go Lv.std F I mu J nu s t ?_
  simp only [n32, VC.holds, std_cmp, std_scmp, std_ar_add, std_ar_sub, std_ar_mul, std_ar, std_dv, std_shf, std_conv, std_mn, std_mx, std_beq, std_bnot, std_band, std_scat, std_byte, std_ext, std_slen, std_strOf, std_bytes, std_llen, std_get, std_setl, std_app, std_take, std_drop, std_rep, std_mhas, std_mval, std_mput, std_cast, std_toN, std_sub, std_add, std_inR, std_le3, std_leN, std_ltN, std_ne0, std_nonneg, std_catOk, std_room, std_mkOk, cmp_lss_t, cmp_lss_f, cmp_leq_t, cmp_leq_f, cmp_gtr_t, cmp_gtr_f, cmp_geq_t, cmp_geq_f, cmp_eql_t, cmp_eql_f, cmp_neq_t, cmp_neq_f, scmp_eql_t, scmp_eql_f, scmp_neq_t, scmp_neq_f, dflt_int, dflt_bool, dflt_str, dflt_sl, dflt_pair, h, hc, Prod.mk.injEq, and_true, true_and]
  have I0 : I (0, ()) := ⟨Int.le_refl 0, by show (0 : Int) ≤ (m : Nat); omega, by show hdN s t _ ((m : Int) - 0).toNat = _; rw [show ((m : Int) - 0).toNat = m by omega]; exact hF⟩
  have J0 : J (0, ()) := ⟨Int.le_refl 0, by show (0 : Int) ≤ (M : Nat); omega, by show tlN s t _ ((M : Int) - 0).toNat = _; rw [show ((M : Int) - 0).toNat = M by omega]; exact tF⟩
  clear hF tF
  refine ⟨fun hs => ?_, fun hs => ⟨fun ht => ?_, fun ht => ⟨I0, ?_⟩⟩⟩
  · rw [diff_e1 hs]; exact ⟨rfl, rfl⟩
  · rw [diff_e2 hs ht]; exact ⟨rfl, rfl⟩
  have z1 := chk_small hs
  have z2 := chk_small ht
  have hdiff := hdiff hs ht
  rintro ⟨i, _⟩ ⟨i0, i1, i2⟩
  simp only at i0 i1 i2 ⊢
  have ewi : IntKind.i64.wrap (i + 1) = i + 1 := wrap_i64 (by omega) (by omega)
  rw [ewi]
  have hres : ∀ j : Int, j = T → (0 ≤ H ∧ H ≤ (t.size : Int) - j ∧ (t.size : Int) - j ≤ t.size) ∧ (H, (s.size : Int) - j, t.extract H.toNat ((t.size : Int) - j).toNat) = (diffF s t).1 ∧ 0 = (diffF s t).2 := fun j hj => by
    subst hj
    rw [hdiff]
    exact ⟨⟨b0, by omega, by omega⟩, rfl, rfl⟩
  clear hdiff
  refine ⟨fun hlt1 => ⟨fun hlt2 => ⟨⟨i0, hlt1⟩, ⟨i0, hlt2⟩, fun heq => ?_, fun hne => ?_⟩, fun hge2 => ?_⟩, fun hge1 => ?_⟩
  · have hst := hdN_step s t m i i0 (by omega)
    rw [if_pos heq, i2] at hst
    exact ⟨⟨by show (0 : Int) ≤ i + 1; omega, by show i + 1 ≤ (m : Nat); omega, hst.symm⟩, by show (((m : Int) - (i + 1)).toNat : Nat) < ((m : Int) - i).toNat; omega⟩
  all_goals
    have hi : i = H := by
      first
        | (have hst := hdN_step s t m i i0 (by omega); rw [if_neg hne, i2] at hst; exact hst.symm)
        | (rw [hdN_end s t m i (by omega)] at i2; omega)
    subst hi
    refine ⟨J0, ?_⟩
    clear i2 J0 I0
    rintro ⟨j, _⟩ ⟨j0, j1, j2⟩
    simp only at j0 j1 j2 ⊢
    have e1 : IntKind.i64.wrap (i + j) = i + j := wrap_i64 (by omega) (by omega)
    have e2 : IntKind.i64.wrap ((s.size : Int) - 1) = (s.size : Int) - 1 := wrap_i64 (by omega) (by omega)
    have e3 : IntKind.i64.wrap ((t.size : Int) - 1) = (t.size : Int) - 1 := wrap_i64 (by omega) (by omega)
    have e4 : IntKind.i64.wrap ((s.size : Int) - 1 - j) = (s.size : Int) - 1 - j := wrap_i64 (by omega) (by omega)
    have e5 : IntKind.i64.wrap ((t.size : Int) - 1 - j) = (t.size : Int) - 1 - j := wrap_i64 (by omega) (by omega)
    have e6 : IntKind.i64.wrap ((s.size : Int) - j) = (s.size : Int) - j := wrap_i64 (by omega) (by omega)
    have e7 : IntKind.i64.wrap ((t.size : Int) - j) = (t.size : Int) - j := wrap_i64 (by omega) (by omega)
    have e8 : IntKind.i64.wrap (j + 1) = j + 1 := wrap_i64 (by omega) (by omega)
    simp only [e1, e2, e3, e4, e5, e6, e7, e8]
    clear e1 e2 e3 e4 e5 e6 e7 e8
    refine ⟨fun l1 => ⟨fun l2 => ⟨⟨by omega, by omega⟩, ⟨by omega, by omega⟩, fun heq2 => ?_, fun hne2 => ?_⟩, fun g2 => ?_⟩, fun g1 => ?_⟩
    · have hst := tlN_step s t M j j0 (by omega)
      rw [if_pos heq2, j2] at hst
      exact ⟨⟨by show (0 : Int) ≤ j + 1; omega, by show j + 1 ≤ (M : Nat); omega, hst.symm⟩, by show (((M : Int) - (j + 1)).toNat : Nat) < ((M : Int) - j).toNat; omega⟩
    · have hst := tlN_step s t M j j0 (by omega)
      rw [if_neg hne2, j2] at hst
      exact hres j hst.symm
    · rw [tlN_end s t M j (by omega)] at j2
      exact hres j (by omega)
    · rw [tlN_end s t M j (by omega)] at j2
      exact hres j (by omega)
def I31 : K66 → Int × Unit → Prop := fun k z => 0 ≤ z.1 ∧ z.1 ≤ k.1 ∧ (k.2.1.1 = 101 → hdN k.2.1.2 k.2.2.2 k.1.toNat (k.1 - z.1).toNat = hdN k.2.1.2 k.2.2.2 k.1.toNat k.1.toNat) ∧ (k.2.1.1 = 102 → tlN k.2.1.2 k.2.2.2 k.1.toNat (k.1 - z.1).toNat = tlN k.2.1.2 k.2.2.2 k.1.toNat k.1.toNat)
def mu31 : K66 → Int × Unit → Nat := fun k z => (k.1 - z.1).toNat
theorem I31_hd (s t : ByteArray) (k i : Int) (m : Nat) (hk : k = m) : I31 (k, (101, s), 101, t) (i, ()) ↔ (0 ≤ i ∧ i ≤ (m : Int) ∧ hdN s t m ((m : Int) - i).toNat = hdN s t m m) := by
  subst hk
  unfold I31
  simp
theorem I31_tl (s t : ByteArray) (k i : Int) (m : Nat) (hk : k = m) : I31 (k, (102, s), 102, t) (i, ()) ↔ (0 ≤ i ∧ i ≤ (m : Int) ∧ tlN s t m ((m : Int) - i).toNat = tlN s t m m) := by
  subst hk
  unfold I31
  simp
theorem tlN_rest (s t : ByteArray) (h M : Nat) (h1 : M ≤ s.size - h) (h2 : M ≤ t.size - h) : ∀ n : Nat, n ≤ M → tlN (s.extract h s.size) (t.extract h t.size) M n = tlN s t M n
  | 0, _ => rfl
  | n + 1, hn => by
    have q1 := ext_size s h s.size
    have q2 := ext_size t h t.size
    simp only [tlN]
    rw [tlN_rest s t h M h1 h2 n (by omega), byteAt_ext (by omega) (by omega), byteAt_ext (by omega) (by omega),
      show (h : Int) + (((s.extract h s.size).size : Int) - 1 - ((M : Int) - (n + 1 : Nat))) = (s.size : Int) - 1 - ((M : Int) - (n + 1 : Nat)) by omega,
      show (h : Int) + (((t.extract h t.size).size : Int) - 1 - ((M : Int) - (n + 1 : Nat))) = (t.size : Int) - 1 - ((M : Int) - (n + 1 : Nat)) by omega]
theorem nc2 : ((2 : Nat) : Int) = 2 := rfl
theorem nc0 : ((0 : Nat) : Int) = 0 := rfl
theorem imp_false' (p : Prop) : (False → p) = True := by simp
theorem imp_true' (p : Prop) : (True → p) = p := by simp
theorem ext_ext2 (t : ByteArray) (h n : Nat) (hn : h + n ≤ t.size) : (t.extract h t.size).extract 0 n = t.extract h (h + n) := by
  rw [ByteArray.extract_extract, Nat.add_zero]
  congr 1
  omega
set_option maxHeartbeats 2000000 in
theorem ok31 (F : LexF) (h : F.diff = diffF) (hc : F.chk = chk) (k1 : SpecOk prog 56 (S56 F)) : SpecOk prog 31 (S31 F) := by
  refine contract_by hm hE D31 fnok31 _ fun (z : ByteArray × ByteArray × Unit) hpre => ?_
  obtain ⟨s, t, ⟨⟩⟩ := z
  refine pack _ 2 a31 (inlT_ok [(66, D66 (a66 Lv.std I31 mu31)), (67, D67 a0), (68, D68 a0), (101, D101 a0), (102, D102 a0)] (fOnly F [56]) (by simp only [List.forall_mem_cons]; exact ⟨fnok66 _, fnok67 _, fnok68 _, fnok101 _, fnok102 _, fun _ h => by cases h⟩)
    (only_ok (F := F) (l := [56]) (by simp only [List.mem_singleton, forall_eq]; exact at_ok k1 (by kernel_rfl)))) ?_
  refine n31_go Lv.std F I31 mu31 s t ?_
  have w1 : IntKind.i64.wrap (0 + 1) = 1 := wrap_i64 (by omega) (by omega)
  have w2 : IntKind.i64.wrap (1 + 1) = 2 := wrap_i64 (by omega) (by omega)
  simp only [n31, VC.holds, std_cmp, std_scmp, std_ar_add, std_ar_sub, std_ar_mul, std_ar, std_dv, std_shf, std_conv, std_mn, std_mx, std_beq, std_bnot, std_band, std_scat, std_byte, std_ext, std_slen, std_strOf, std_bytes, std_llen, std_get, std_setl, std_app, std_take, std_drop, std_rep, std_mhas, std_mval, std_mput, std_cast, std_toN, std_sub, std_add, std_inR, std_le3, std_leN, std_ltN, std_ne0, std_nonneg, std_catOk, std_room, std_mkOk, cmp_lss_t, cmp_lss_f, cmp_leq_t, cmp_leq_f, cmp_gtr_t, cmp_gtr_f, cmp_geq_t, cmp_geq_f, cmp_eql_t, cmp_eql_f, cmp_neq_t, cmp_neq_f, scmp_eql_t, scmp_eql_f, scmp_neq_t, scmp_neq_f, dflt_int, dflt_bool, dflt_str, dflt_sl, dflt_pair, h, hc, w1, w2, nc2, nc0, Prod.mk.injEq, and_true, true_and, Int.reduceLT, Int.reduceLE, Int.toNat_natCast, imp_false', imp_true', and_true, true_and, List.length_cons, List.length_nil, Int.toNat_zero, Int.toNat_one, Nat.reduceAdd, Nat.reduceLT, List.getElem?_cons_zero, List.getElem?_cons_succ, Option.getD_some]
  have hdiff : (chk s).2 = 0 → (chk t).2 = 0 → diffF s t = ((hdF s t, s.size - tlF s t, t.extract (hdF s t).toNat (t.size - tlF s t).toNat), 0) := diff_ok
  obtain ⟨b0, b1, b2⟩ := hdF_le s t
  obtain ⟨c0, c1, c2⟩ := tlF_le s t
  obtain ⟨m, hmm⟩ : ∃ m : Nat, m = min s.size t.size := ⟨_, rfl⟩
  have hF : hdN s t m m = hdF s t := by rw [hmm]; rfl
  obtain ⟨M, hM⟩ : ∃ M : Nat, M = min (s.size - (hdF s t).toNat) (t.size - (hdF s t).toNat) := ⟨_, rfl⟩
  have tF : tlN (s.extract (hdF s t).toNat s.size) (t.extract (hdF s t).toNat t.size) M M = tlF s t := by
    rw [tlN_rest s t _ M (by omega) (by omega) M (Nat.le_refl _), hM]; rfl
  generalize hdF s t = H at hdiff b0 b1 b2 c1 c2 hF hM tF
  generalize tlF s t = T at hdiff c0 c1 c2 tF
  have hk1 : min (s.size : Int) (t.size : Int) = (m : Int) := by omega
  simp only [hk1]
  refine ⟨fun hs => ?_, fun hs => ⟨fun ht => ?_, fun ht => ?_⟩⟩
  · rw [diff_e1 hs]; exact ⟨rfl, rfl⟩
  · rw [diff_e2 hs ht]; exact ⟨rfl, rfl⟩
  have z1 := chk_small hs
  have z2 := chk_small ht
  have hdiff := hdiff hs ht
  refine ⟨(I31_hd s t m 0 m rfl).2 ⟨Int.le_refl 0, by omega, by rw [show ((m : Int) - 0).toNat = m by omega]⟩, ?_⟩
  rintro ⟨i, _⟩ hI
  obtain ⟨i0, i1, i2⟩ := (I31_hd s t m i m rfl).1 hI
  clear hI
  rw [hF] at i2
  simp only
  have ewi : IntKind.i64.wrap (i + 1) = i + 1 := wrap_i64 (by omega) (by omega)
  simp only [ewi]
  have hres : ∀ j : Int, j = T → (0 ≤ (t.size : Int) - H.toNat - j ∧ (t.size : Int) - H.toNat - j ≤ (t.size : Int) - H.toNat) ∧ (H, (s.size : Int) - j, (t.extract H.toNat t.size).extract 0 ((t.size : Int) - H.toNat - j).toNat) = (diffF s t).1 ∧ 0 = (diffF s t).2 := fun j hj => by
    subst hj
    rw [hdiff, ext_ext2 t _ _ (by omega), show H.toNat + ((t.size : Int) - H.toNat - j).toNat = ((t.size : Int) - j).toNat by omega]
    exact ⟨⟨by omega, by omega⟩, rfl, rfl⟩
  clear hdiff
  refine ⟨fun hlt1 => ⟨⟨i0, by omega⟩, ⟨i0, by omega⟩, fun heq => ?_, fun hne => ⟨⟨i0, by omega, Int.le_refl _⟩, ⟨i0, by omega, Int.le_refl _⟩, ?_⟩⟩, fun hge => ⟨⟨i0, by omega, Int.le_refl _⟩, ⟨i0, by omega, Int.le_refl _⟩, ?_⟩⟩
  · have hst := hdN_step s t m i i0 (by omega)
    rw [if_pos heq, i2] at hst
    exact ⟨(I31_hd s t m (i + 1) m rfl).2 ⟨by omega, by omega, by rw [hF]; exact hst.symm⟩, by show ((m : Int) - (i + 1)).toNat < ((m : Int) - i).toNat; omega⟩
  all_goals
    have hi : i = H := by
      first
        | (have hst := hdN_step s t m i i0 (by omega); rw [if_neg hne, i2] at hst; exact hst.symm)
        | (rw [hdN_end s t m i (by omega)] at i2; omega)
    subst hi
    clear i2 hF
    have q1 := ext_size s i.toNat s.size
    have q2 := ext_size t i.toNat t.size
    have hk2 : min ((s.extract i.toNat s.size).size : Int) ((t.extract i.toNat t.size).size : Int) = (M : Int) := by omega
    have hBs : ((t.extract i.toNat t.size).size : Int) = (t.size : Int) - i.toNat := by omega
    simp only [hk2]
    generalize hA : s.extract i.toNat s.size = A at tF q1 hk2 ⊢
    generalize hB : t.extract i.toNat t.size = B at tF q2 hk2 hres hBs ⊢
    refine ⟨(I31_tl A B M 0 M rfl).2 ⟨Int.le_refl 0, by omega, by rw [show ((M : Int) - 0).toNat = M by omega]⟩, ?_⟩
    rintro ⟨j, _⟩ hJ
    obtain ⟨j0, j1, j2⟩ := (I31_tl A B M j M rfl).1 hJ
    clear hJ
    rw [tF] at j2
    simp only
    have e2 : IntKind.i64.wrap ((A.size : Int) - 1) = (A.size : Int) - 1 := wrap_i64 (by omega) (by omega)
    have e3 : IntKind.i64.wrap ((B.size : Int) - 1) = (B.size : Int) - 1 := wrap_i64 (by omega) (by omega)
    have e4 : IntKind.i64.wrap ((A.size : Int) - 1 - j) = (A.size : Int) - 1 - j := wrap_i64 (by omega) (by omega)
    have e5 : IntKind.i64.wrap ((B.size : Int) - 1 - j) = (B.size : Int) - 1 - j := wrap_i64 (by omega) (by omega)
    have e6 : IntKind.i64.wrap ((s.size : Int) - j) = (s.size : Int) - j := wrap_i64 (by omega) (by omega)
    have e7 : IntKind.i64.wrap ((B.size : Int) - j) = (B.size : Int) - j := wrap_i64 (by omega) (by omega)
    have e8 : IntKind.i64.wrap (j + 1) = j + 1 := wrap_i64 (by omega) (by omega)
    simp only [e2, e3, e4, e5, e6, e7, e8]
    clear e2 e3 e4 e5 e6 e7 e8
    refine ⟨fun l1 => ⟨⟨by omega, by omega⟩, ⟨by omega, by omega⟩, fun heq2 => ?_, fun hne2 => ?_⟩, fun g1 => ?_⟩
    · have hst := tlN_step A B M j j0 (by omega)
      rw [if_pos heq2, j2] at hst
      exact ⟨(I31_tl A B M (j + 1) M rfl).2 ⟨by omega, by omega, by rw [tF]; exact hst.symm⟩, by show ((M : Int) - (j + 1)).toNat < ((M : Int) - j).toNat; omega⟩
    · have hst := tlN_step A B M j j0 (by omega)
      rw [if_neg hne2, j2] at hst
      obtain ⟨r1, r2⟩ := hres j hst.symm
      rw [← hBs] at r1 r2
      exact ⟨r1, r2⟩
    · rw [tlN_end A B M j (by omega)] at j2
      obtain ⟨r1, r2⟩ := hres j (by omega)
      rw [← hBs] at r1 r2
      exact ⟨r1, r2⟩
end Go.Proofs.Tryd
set_option autoImplicit false
set_option linter.all false
namespace Go.Proofs.Tryd
open Go Go.VM
set_option maxRecDepth 100000
def a33 (L : Lv) (I : Ds [It] → Prop) (mu : Ds [It] → Nat) (J : Ds [It] → Prop) (nu : Ds [It] → Nat) : Nat → LAnn
  | 0 => anH L [3, 4, 7, 8, 9] [] [.b 4 0 It] I mu
  | 2 => anH L [3, 4, 7, 8, 9, 10] [] [.b 4 1 It] J nu
  | _ => .no
def n33 (L : Lv) (F : LexF) (I : Ds [It] → Prop) (mu : Ds [It] → Nat) (J : Ds [It] → Prop) (nu : Ds [It] → Nat) (s : ByteArray) (x : Ed)  : VC :=
 VC.obl True
 (VC.br (Lv.cmp L BinOp.neq (Prod.snd (Prod.snd (LexF.scan F s))) 0)
 (VC.ok
 (((0, 0, []), Prod.fst (Prod.snd (LexF.scan F s)), Prod.snd (Prod.snd (LexF.scan F s)), ()) =
 (Prod.fst (LexF.rescan F s x), Prod.fst (Prod.snd (LexF.rescan F s x)), Prod.snd (Prod.snd (LexF.rescan F s x)), ())))
 (VC.br (Lv.cmp L BinOp.lss (Prod.fst x) 0)
 (VC.ok (((0, 0, []), 0, 3, ()) = (Prod.fst (LexF.rescan F s x), Prod.fst (Prod.snd (LexF.rescan F s x)), Prod.snd (Prod.snd (LexF.rescan F s x)), ())))
 (VC.br (Lv.cmp L BinOp.gtr (Prod.fst x) (Prod.fst (Prod.snd x)))
 (VC.ok (((0, 0, []), 0, 3, ()) = (Prod.fst (LexF.rescan F s x), Prod.fst (Prod.snd (LexF.rescan F s x)), Prod.snd (Prod.snd (LexF.rescan F s x)), ())))
 (VC.br (Lv.cmp L BinOp.gtr (Prod.fst (Prod.snd x)) (Lv.cast L (Lv.slen L s)))
 (VC.ok (((0, 0, []), 0, 3, ()) = (Prod.fst (LexF.rescan F s x), Prod.fst (Prod.snd (LexF.rescan F s x)), Prod.snd (Prod.snd (LexF.rescan F s x)), ())))
 (VC.obl (Lv.le3 L (Lv.cast L 0) (Prod.fst x) (Lv.slen L s))
 (VC.obl (Lv.catOk L (Lv.ext L s (Lv.toN L (Lv.cast L 0)) (Lv.toN L (Prod.fst x))) (Prod.snd (Prod.snd x)))
 (VC.obl (Lv.le3 L (Prod.fst (Prod.snd x)) (Lv.cast L (Lv.slen L s)) (Lv.slen L s))
 (VC.obl
 (Lv.catOk L (Lv.scat L (Lv.ext L s (Lv.toN L (Lv.cast L 0)) (Lv.toN L (Prod.fst x))) (Prod.snd (Prod.snd x)))
 (Lv.ext L s (Lv.toN L (Prod.fst (Prod.snd x))) (Lv.toN L (Lv.cast L (Lv.slen L s)))))
 (VC.obl True
 (VC.br
 (Lv.cmp L BinOp.neq
 (Prod.snd
 (Prod.snd
 (LexF.scan F
 (Lv.scat L (Lv.scat L (Lv.ext L s (Lv.toN L (Lv.cast L 0)) (Lv.toN L (Prod.fst x))) (Prod.snd (Prod.snd x)))
 (Lv.ext L s (Lv.toN L (Prod.fst (Prod.snd x))) (Lv.toN L (Lv.cast L (Lv.slen L s))))))))
 0)
 (VC.ok
 (((0, 0, []),
 Prod.fst
 (Prod.snd
 (LexF.scan F
 (Lv.scat L (Lv.scat L (Lv.ext L s (Lv.toN L (Lv.cast L 0)) (Lv.toN L (Prod.fst x))) (Prod.snd (Prod.snd x)))
 (Lv.ext L s (Lv.toN L (Prod.fst (Prod.snd x))) (Lv.toN L (Lv.cast L (Lv.slen L s))))))),
 Prod.snd
 (Prod.snd
 (LexF.scan F
 (Lv.scat L (Lv.scat L (Lv.ext L s (Lv.toN L (Lv.cast L 0)) (Lv.toN L (Prod.fst x))) (Prod.snd (Prod.snd x)))
 (Lv.ext L s (Lv.toN L (Prod.fst (Prod.snd x))) (Lv.toN L (Lv.cast L (Lv.slen L s))))))),
 ()) =
 (Prod.fst (LexF.rescan F s x), Prod.fst (Prod.snd (LexF.rescan F s x)), Prod.snd (Prod.snd (LexF.rescan F s x)), ())))
 (VC.obl
 (St.mk 156
 [(3, V.c (C.ptr 1 0)), (4, V.c (C.ptr 2 0)), (7, V.c (C.sl Lt (Prod.fst (LexF.scan F s)))),
 (8,
 V.c
 (C.sl Lt
 (Prod.fst
 (LexF.scan F
 (Lv.scat L (Lv.scat L (Lv.ext L s (Lv.toN L (Lv.cast L 0)) (Lv.toN L (Prod.fst x))) (Prod.snd (Prod.snd x)))
 (Lv.ext L s (Lv.toN L (Prod.fst (Prod.snd x))) (Lv.toN L (Lv.cast L (Lv.slen L s))))))))),
 (9,
 V.c
 (C.int IntKind.i64
 (Lv.ar L BinOp.sub IntKind.i64 (Lv.cast L (Lv.slen L (Prod.snd (Prod.snd x)))) (Lv.ar L BinOp.sub IntKind.i64 (Prod.fst (Prod.snd x)) (Prod.fst x)))))]
 [(0, Ob.amb), (1, Ob.box 35 [C.int IntKind.i64 (Prod.fst x), C.int IntKind.i64 (Prod.fst (Prod.snd x)), C.str (Prod.snd (Prod.snd x))]),
 (2, Ob.box 40 [C.int IntKind.i64 0, C.int IntKind.i64 0, C.nils])]
 3 =
 St.mk 156
 [(3, V.c (C.ptr 1 0)), (4, V.c (C.ptr 2 0)), (7, V.c (C.sl Lt (Prod.fst (LexF.scan F s)))),
 (8,
 V.c
 (C.sl Lt
 (Prod.fst
 (LexF.scan F
 (Lv.scat L (Lv.scat L (Lv.ext L s (Lv.toN L (Lv.cast L 0)) (Lv.toN L (Prod.fst x))) (Prod.snd (Prod.snd x)))
 (Lv.ext L s (Lv.toN L (Prod.fst (Prod.snd x))) (Lv.toN L (Lv.cast L (Lv.slen L s))))))))),
 (9,
 V.c
 (C.int IntKind.i64
 (Lv.ar L BinOp.sub IntKind.i64 (Lv.cast L (Lv.slen L (Prod.snd (Prod.snd x)))) (Lv.ar L BinOp.sub IntKind.i64 (Prod.fst (Prod.snd x)) (Prod.fst x)))))]
 [(0, Ob.amb), (1, Ob.box 35 [C.int IntKind.i64 (Prod.fst x), C.int IntKind.i64 (Prod.fst (Prod.snd x)), C.str (Prod.snd (Prod.snd x))]),
 (2, Ob.box 40 [C.int IntKind.i64 0, C.int IntKind.i64 0, C.nils])]
 3)
 (VC.obl (I (0, ()))
 (VC.all (Int × Unit) fun (x_1 : Int × Unit) =>
 VC.imp (I x_1)
 (VC.br
 (Lv.cmp L BinOp.lss (Prod.fst x_1)
 (Lv.mn L (Lv.cast L (Lv.llen L Lt (Prod.fst (LexF.scan F s))))
 (Lv.cast L
 (Lv.llen L Lt
 (Prod.fst
 (LexF.scan F
 (Lv.scat L (Lv.scat L (Lv.ext L s (Lv.toN L (Lv.cast L 0)) (Lv.toN L (Prod.fst x))) (Prod.snd (Prod.snd x)))
 (Lv.ext L s (Lv.toN L (Prod.fst (Prod.snd x))) (Lv.toN L (Lv.cast L (Lv.slen L s)))))))))))
 (VC.obl (Lv.inR L (Prod.fst x_1) (Lv.llen L Lt (Prod.fst (LexF.scan F s))))
 (VC.br
 (Lv.cmp L BinOp.lss
 (Prod.snd (Prod.snd (Lv.get L Lt (Prod.fst (LexF.scan F s)) (Lv.toN L (Prod.fst x_1)))))
 (Prod.fst x))
 (VC.obl (Lv.inR L (Prod.fst x_1) (Lv.llen L Lt (Prod.fst (LexF.scan F s))))
 (VC.obl
 (Lv.inR L (Prod.fst x_1)
 (Lv.llen L Lt
 (Prod.fst
 (LexF.scan F
 (Lv.scat L (Lv.scat L (Lv.ext L s (Lv.toN L (Lv.cast L 0)) (Lv.toN L (Prod.fst x))) (Prod.snd (Prod.snd x)))
 (Lv.ext L s (Lv.toN L (Prod.fst (Prod.snd x))) (Lv.toN L (Lv.cast L (Lv.slen L s)))))))))
 (VC.br
 (Lv.band L
 (Lv.cmp L BinOp.eql
 (Prod.fst (Lv.get L Lt (Prod.fst (LexF.scan F s)) (Lv.toN L (Prod.fst x_1))))
 (Prod.fst
 (Lv.get L Lt
 (Prod.fst
 (LexF.scan F
 (Lv.scat L (Lv.scat L (Lv.ext L s (Lv.toN L (Lv.cast L 0)) (Lv.toN L (Prod.fst x))) (Prod.snd (Prod.snd x)))
 (Lv.ext L s (Lv.toN L (Prod.fst (Prod.snd x))) (Lv.toN L (Lv.cast L (Lv.slen L s)))))))
 (Lv.toN L (Prod.fst x_1)))))
 (Lv.band L
 (Lv.scmp L BinOp.eql
 (Prod.fst
 (Prod.snd (Lv.get L Lt (Prod.fst (LexF.scan F s)) (Lv.toN L (Prod.fst x_1)))))
 (Prod.fst
 (Prod.snd
 (Lv.get L Lt
 (Prod.fst
 (LexF.scan F
 (Lv.scat L (Lv.scat L (Lv.ext L s (Lv.toN L (Lv.cast L 0)) (Lv.toN L (Prod.fst x))) (Prod.snd (Prod.snd x)))
 (Lv.ext L s (Lv.toN L (Prod.fst (Prod.snd x))) (Lv.toN L (Lv.cast L (Lv.slen L s)))))))
 (Lv.toN L (Prod.fst x_1))))))
 (Lv.band L
 (Lv.cmp L BinOp.eql
 (Prod.snd
 (Prod.snd (Lv.get L Lt (Prod.fst (LexF.scan F s)) (Lv.toN L (Prod.fst x_1)))))
 (Prod.snd
 (Prod.snd
 (Lv.get L Lt
 (Prod.fst
 (LexF.scan F
 (Lv.scat L (Lv.scat L (Lv.ext L s (Lv.toN L (Lv.cast L 0)) (Lv.toN L (Prod.fst x))) (Prod.snd (Prod.snd x)))
 (Lv.ext L s (Lv.toN L (Prod.fst (Prod.snd x))) (Lv.toN L (Lv.cast L (Lv.slen L s)))))))
 (Lv.toN L (Prod.fst x_1))))))
 true)))
 (VC.ok
 (St.mk 156
 [(3, V.c (C.ptr 1 0)), (4, V.c (C.ptr 2 0)),
 (7, V.c (C.sl Lt (Prod.fst (LexF.scan F s)))),
 (8,
 V.c
 (C.sl Lt
 (Prod.fst
 (LexF.scan F
 (Lv.scat L (Lv.scat L (Lv.ext L s (Lv.toN L (Lv.cast L 0)) (Lv.toN L (Prod.fst x))) (Prod.snd (Prod.snd x)))
 (Lv.ext L s (Lv.toN L (Prod.fst (Prod.snd x))) (Lv.toN L (Lv.cast L (Lv.slen L s))))))))),
 (9,
 V.c
 (C.int IntKind.i64
 (Lv.ar L BinOp.sub IntKind.i64 (Lv.cast L (Lv.slen L (Prod.snd (Prod.snd x))))
 (Lv.ar L BinOp.sub IntKind.i64 (Prod.fst (Prod.snd x)) (Prod.fst x)))))]
 [(0, Ob.amb), (1, Ob.box 35 [C.int IntKind.i64 (Prod.fst x), C.int IntKind.i64 (Prod.fst (Prod.snd x)), C.str (Prod.snd (Prod.snd x))]),
 (2, Ob.box 40 [C.int IntKind.i64 (Lv.ar L BinOp.add IntKind.i64 (Prod.fst x_1) 1), C.int IntKind.i64 0, C.nils])]
 3 =
 St.mk 156
 [(3, V.c (C.ptr 1 0)), (4, V.c (C.ptr 2 0)),
 (7, V.c (C.sl Lt (Prod.fst (LexF.scan F s)))),
 (8,
 V.c
 (C.sl Lt
 (Prod.fst
 (LexF.scan F
 (Lv.scat L (Lv.scat L (Lv.ext L s (Lv.toN L (Lv.cast L 0)) (Lv.toN L (Prod.fst x))) (Prod.snd (Prod.snd x)))
 (Lv.ext L s (Lv.toN L (Prod.fst (Prod.snd x))) (Lv.toN L (Lv.cast L (Lv.slen L s))))))))),
 (9,
 V.c
 (C.int IntKind.i64
 (Lv.ar L BinOp.sub IntKind.i64 (Lv.cast L (Lv.slen L (Prod.snd (Prod.snd x))))
 (Lv.ar L BinOp.sub IntKind.i64 (Prod.fst (Prod.snd x)) (Prod.fst x)))))]
 [(0, Ob.amb), (1, Ob.box 35 [C.int IntKind.i64 (Prod.fst x), C.int IntKind.i64 (Prod.fst (Prod.snd x)), C.str (Prod.snd (Prod.snd x))]),
 (2, Ob.box 40 [C.int IntKind.i64 (Lv.ar L BinOp.add IntKind.i64 (Prod.fst x_1) 1), C.int IntKind.i64 0, C.nils])]
 3 ∧
 I (Lv.ar L BinOp.add IntKind.i64 (Prod.fst x_1) 1, ()) ∧ mu (Lv.ar L BinOp.add IntKind.i64 (Prod.fst x_1) 1, ()) < mu x_1))
 (VC.obl
 (St.mk 156
 [(3, V.c (C.ptr 1 0)), (4, V.c (C.ptr 2 0)),
 (7, V.c (C.sl Lt (Prod.fst (LexF.scan F s)))),
 (8,
 V.c
 (C.sl Lt
 (Prod.fst
 (LexF.scan F
 (Lv.scat L (Lv.scat L (Lv.ext L s (Lv.toN L (Lv.cast L 0)) (Lv.toN L (Prod.fst x))) (Prod.snd (Prod.snd x)))
 (Lv.ext L s (Lv.toN L (Prod.fst (Prod.snd x))) (Lv.toN L (Lv.cast L (Lv.slen L s))))))))),
 (9,
 V.c
 (C.int IntKind.i64
 (Lv.ar L BinOp.sub IntKind.i64 (Lv.cast L (Lv.slen L (Prod.snd (Prod.snd x))))
 (Lv.ar L BinOp.sub IntKind.i64 (Prod.fst (Prod.snd x)) (Prod.fst x))))),
 (10, V.c (C.fn 69 [2]))]
 [(0, Ob.amb), (1, Ob.box 35 [C.int IntKind.i64 (Prod.fst x), C.int IntKind.i64 (Prod.fst (Prod.snd x)), C.str (Prod.snd (Prod.snd x))]),
 (2, Ob.box 40 [C.int IntKind.i64 (Prod.fst x_1), C.int IntKind.i64 0, C.nils])]
 3 =
 St.mk 156
 [(3, V.c (C.ptr 1 0)), (4, V.c (C.ptr 2 0)),
 (7, V.c (C.sl Lt (Prod.fst (LexF.scan F s)))),
 (8,
 V.c
 (C.sl Lt
 (Prod.fst
 (LexF.scan F
 (Lv.scat L (Lv.scat L (Lv.ext L s (Lv.toN L (Lv.cast L 0)) (Lv.toN L (Prod.fst x))) (Prod.snd (Prod.snd x)))
 (Lv.ext L s (Lv.toN L (Prod.fst (Prod.snd x))) (Lv.toN L (Lv.cast L (Lv.slen L s))))))))),
 (9,
 V.c
 (C.int IntKind.i64
 (Lv.ar L BinOp.sub IntKind.i64 (Lv.cast L (Lv.slen L (Prod.snd (Prod.snd x))))
 (Lv.ar L BinOp.sub IntKind.i64 (Prod.fst (Prod.snd x)) (Prod.fst x))))),
 (10, V.c (C.fn 69 [2]))]
 [(0, Ob.amb), (1, Ob.box 35 [C.int IntKind.i64 (Prod.fst x), C.int IntKind.i64 (Prod.fst (Prod.snd x)), C.str (Prod.snd (Prod.snd x))]),
 (2, Ob.box 40 [C.int IntKind.i64 (Prod.fst x_1), C.int IntKind.i64 0, C.nils])]
 3)
 (VC.obl (J (0, ()))
 (VC.all (Int × Unit) fun (x_2 : Int × Unit) =>
 VC.imp (J x_2)
 (VC.br
 (Lv.cmp L BinOp.lss (Prod.fst x_2)
 (Lv.ar L BinOp.sub IntKind.i64
 (Lv.mn L (Lv.cast L (Lv.llen L Lt (Prod.fst (LexF.scan F s))))
 (Lv.cast L
 (Lv.llen L Lt
 (Prod.fst
 (LexF.scan F
 (Lv.scat L (Lv.scat L (Lv.ext L s (Lv.toN L (Lv.cast L 0)) (Lv.toN L (Prod.fst x))) (Prod.snd (Prod.snd x)))
 (Lv.ext L s (Lv.toN L (Prod.fst (Prod.snd x))) (Lv.toN L (Lv.cast L (Lv.slen L s))))))))))
 (Prod.fst x_1)))
 (VC.obl
 (Lv.inR L
 (Lv.ar L BinOp.sub IntKind.i64
 (Lv.ar L BinOp.sub IntKind.i64
 (Lv.cast L (Lv.llen L Lt (Prod.fst (LexF.scan F s)))) 1)
 (Prod.fst x_2))
 (Lv.llen L Lt (Prod.fst (LexF.scan F s))))
 (VC.br
 (Lv.cmp L BinOp.geq
 (Prod.snd
 (Prod.snd
 (Lv.get L Lt (Prod.fst (LexF.scan F s))
 (Lv.toN L
 (Lv.ar L BinOp.sub IntKind.i64
 (Lv.ar L BinOp.sub IntKind.i64
 (Lv.cast L (Lv.llen L Lt (Prod.fst (LexF.scan F s)))) 1)
 (Prod.fst x_2))))))
 (Prod.fst (Prod.snd x)))
 (VC.obl
 (Lv.inR L
 (Lv.ar L BinOp.sub IntKind.i64
 (Lv.ar L BinOp.sub IntKind.i64
 (Lv.cast L (Lv.llen L Lt (Prod.fst (LexF.scan F s)))) 1)
 (Prod.fst x_2))
 (Lv.llen L Lt (Prod.fst (LexF.scan F s))))
 (VC.obl
 (Lv.inR L
 (Lv.ar L BinOp.sub IntKind.i64
 (Lv.ar L BinOp.sub IntKind.i64
 (Lv.cast L
 (Lv.llen L Lt
 (Prod.fst
 (LexF.scan F
 (Lv.scat L (Lv.scat L (Lv.ext L s (Lv.toN L (Lv.cast L 0)) (Lv.toN L (Prod.fst x))) (Prod.snd (Prod.snd x)))
 (Lv.ext L s (Lv.toN L (Prod.fst (Prod.snd x))) (Lv.toN L (Lv.cast L (Lv.slen L s)))))))))
 1)
 (Prod.fst x_2))
 (Lv.llen L Lt
 (Prod.fst
 (LexF.scan F
 (Lv.scat L (Lv.scat L (Lv.ext L s (Lv.toN L (Lv.cast L 0)) (Lv.toN L (Prod.fst x))) (Prod.snd (Prod.snd x)))
 (Lv.ext L s (Lv.toN L (Prod.fst (Prod.snd x))) (Lv.toN L (Lv.cast L (Lv.slen L s)))))))))
 (VC.obl True
 (VC.br
 (LexF.isSame F
 (Prod.fst
 (Lv.get L Lt (Prod.fst (LexF.scan F s))
 (Lv.toN L
 (Lv.ar L BinOp.sub IntKind.i64
 (Lv.ar L BinOp.sub IntKind.i64
 (Lv.cast L (Lv.llen L Lt (Prod.fst (LexF.scan F s)))) 1)
 (Prod.fst x_2)))),
 Prod.fst
 (Prod.snd
 (Lv.get L Lt (Prod.fst (LexF.scan F s))
 (Lv.toN L
 (Lv.ar L BinOp.sub IntKind.i64
 (Lv.ar L BinOp.sub IntKind.i64
 (Lv.cast L (Lv.llen L Lt (Prod.fst (LexF.scan F s))))
 1)
 (Prod.fst x_2))))),
 Prod.snd
 (Prod.snd
 (Lv.get L Lt (Prod.fst (LexF.scan F s))
 (Lv.toN L
 (Lv.ar L BinOp.sub IntKind.i64
 (Lv.ar L BinOp.sub IntKind.i64
 (Lv.cast L (Lv.llen L Lt (Prod.fst (LexF.scan F s))))
 1)
 (Prod.fst x_2))))))
 (Prod.fst
 (Lv.get L Lt
 (Prod.fst
 (LexF.scan F
 (Lv.scat L (Lv.scat L (Lv.ext L s (Lv.toN L (Lv.cast L 0)) (Lv.toN L (Prod.fst x))) (Prod.snd (Prod.snd x)))
 (Lv.ext L s (Lv.toN L (Prod.fst (Prod.snd x))) (Lv.toN L (Lv.cast L (Lv.slen L s)))))))
 (Lv.toN L
 (Lv.ar L BinOp.sub IntKind.i64
 (Lv.ar L BinOp.sub IntKind.i64
 (Lv.cast L
 (Lv.llen L Lt
 (Prod.fst
 (LexF.scan F
 (Lv.scat L (Lv.scat L (Lv.ext L s (Lv.toN L (Lv.cast L 0)) (Lv.toN L (Prod.fst x))) (Prod.snd (Prod.snd x)))
 (Lv.ext L s (Lv.toN L (Prod.fst (Prod.snd x))) (Lv.toN L (Lv.cast L (Lv.slen L s)))))))))
 1)
 (Prod.fst x_2)))),
 Prod.fst
 (Prod.snd
 (Lv.get L Lt
 (Prod.fst
 (LexF.scan F
 (Lv.scat L (Lv.scat L (Lv.ext L s (Lv.toN L (Lv.cast L 0)) (Lv.toN L (Prod.fst x))) (Prod.snd (Prod.snd x)))
 (Lv.ext L s (Lv.toN L (Prod.fst (Prod.snd x))) (Lv.toN L (Lv.cast L (Lv.slen L s)))))))
 (Lv.toN L
 (Lv.ar L BinOp.sub IntKind.i64
 (Lv.ar L BinOp.sub IntKind.i64
 (Lv.cast L
 (Lv.llen L Lt
 (Prod.fst
 (LexF.scan F
 (Lv.scat L (Lv.scat L (Lv.ext L s (Lv.toN L (Lv.cast L 0)) (Lv.toN L (Prod.fst x))) (Prod.snd (Prod.snd x)))
 (Lv.ext L s (Lv.toN L (Prod.fst (Prod.snd x))) (Lv.toN L (Lv.cast L (Lv.slen L s)))))))))
 1)
 (Prod.fst x_2))))),
 Prod.snd
 (Prod.snd
 (Lv.get L Lt
 (Prod.fst
 (LexF.scan F
 (Lv.scat L (Lv.scat L (Lv.ext L s (Lv.toN L (Lv.cast L 0)) (Lv.toN L (Prod.fst x))) (Prod.snd (Prod.snd x)))
 (Lv.ext L s (Lv.toN L (Prod.fst (Prod.snd x))) (Lv.toN L (Lv.cast L (Lv.slen L s)))))))
 (Lv.toN L
 (Lv.ar L BinOp.sub IntKind.i64
 (Lv.ar L BinOp.sub IntKind.i64
 (Lv.cast L
 (Lv.llen L Lt
 (Prod.fst
 (LexF.scan F
 (Lv.scat L (Lv.scat L (Lv.ext L s (Lv.toN L (Lv.cast L 0)) (Lv.toN L (Prod.fst x))) (Prod.snd (Prod.snd x)))
 (Lv.ext L s (Lv.toN L (Prod.fst (Prod.snd x))) (Lv.toN L (Lv.cast L (Lv.slen L s)))))))))
 1)
 (Prod.fst x_2))))))
 (Lv.ar L BinOp.sub IntKind.i64 (Lv.cast L (Lv.slen L (Prod.snd (Prod.snd x))))
 (Lv.ar L BinOp.sub IntKind.i64 (Prod.fst (Prod.snd x)) (Prod.fst x))))
 (VC.ok
 (St.mk 156
 [(3, V.c (C.ptr 1 0)), (4, V.c (C.ptr 2 0)),
 (7, V.c (C.sl Lt (Prod.fst (LexF.scan F s)))),
 (8,
 V.c
 (C.sl Lt
 (Prod.fst
 (LexF.scan F
 (Lv.scat L (Lv.scat L (Lv.ext L s (Lv.toN L (Lv.cast L 0)) (Lv.toN L (Prod.fst x))) (Prod.snd (Prod.snd x)))
 (Lv.ext L s (Lv.toN L (Prod.fst (Prod.snd x))) (Lv.toN L (Lv.cast L (Lv.slen L s))))))))),
 (9,
 V.c
 (C.int IntKind.i64
 (Lv.ar L BinOp.sub IntKind.i64 (Lv.cast L (Lv.slen L (Prod.snd (Prod.snd x))))
 (Lv.ar L BinOp.sub IntKind.i64 (Prod.fst (Prod.snd x)) (Prod.fst x))))),
 (10, V.c (C.fn 69 [2]))]
 [(0, Ob.amb),
 (1, Ob.box 35 [C.int IntKind.i64 (Prod.fst x), C.int IntKind.i64 (Prod.fst (Prod.snd x)), C.str (Prod.snd (Prod.snd x))]),
 (2, Ob.box 40 [C.int IntKind.i64 (Prod.fst x_1), C.int IntKind.i64 (Lv.ar L BinOp.add IntKind.i64 (Prod.fst x_2) 1), C.nils])]
 3 =
 St.mk 156
 [(3, V.c (C.ptr 1 0)), (4, V.c (C.ptr 2 0)),
 (7, V.c (C.sl Lt (Prod.fst (LexF.scan F s)))),
 (8,
 V.c
 (C.sl Lt
 (Prod.fst
 (LexF.scan F
 (Lv.scat L (Lv.scat L (Lv.ext L s (Lv.toN L (Lv.cast L 0)) (Lv.toN L (Prod.fst x))) (Prod.snd (Prod.snd x)))
 (Lv.ext L s (Lv.toN L (Prod.fst (Prod.snd x))) (Lv.toN L (Lv.cast L (Lv.slen L s))))))))),
 (9,
 V.c
 (C.int IntKind.i64
 (Lv.ar L BinOp.sub IntKind.i64 (Lv.cast L (Lv.slen L (Prod.snd (Prod.snd x))))
 (Lv.ar L BinOp.sub IntKind.i64 (Prod.fst (Prod.snd x)) (Prod.fst x))))),
 (10, V.c (C.fn 69 [2]))]
 [(0, Ob.amb),
 (1, Ob.box 35 [C.int IntKind.i64 (Prod.fst x), C.int IntKind.i64 (Prod.fst (Prod.snd x)), C.str (Prod.snd (Prod.snd x))]),
 (2, Ob.box 40 [C.int IntKind.i64 (Prod.fst x_1), C.int IntKind.i64 (Lv.ar L BinOp.add IntKind.i64 (Prod.fst x_2) 1), C.nils])]
 3 ∧
 J (Lv.ar L BinOp.add IntKind.i64 (Prod.fst x_2) 1, ()) ∧
 nu (Lv.ar L BinOp.add IntKind.i64 (Prod.fst x_2) 1, ()) < nu x_2))
 (VC.obl
 (Lv.le3 L (Prod.fst x_1)
 (Lv.ar L BinOp.sub IntKind.i64
 (Lv.cast L
 (Lv.llen L Lt
 (Prod.fst
 (LexF.scan F
 (Lv.scat L (Lv.scat L (Lv.ext L s (Lv.toN L (Lv.cast L 0)) (Lv.toN L (Prod.fst x))) (Prod.snd (Prod.snd x)))
 (Lv.ext L s (Lv.toN L (Prod.fst (Prod.snd x))) (Lv.toN L (Lv.cast L (Lv.slen L s)))))))))
 (Prod.fst x_2))
 (Lv.llen L Lt
 (Prod.fst
 (LexF.scan F
 (Lv.scat L (Lv.scat L (Lv.ext L s (Lv.toN L (Lv.cast L 0)) (Lv.toN L (Prod.fst x))) (Prod.snd (Prod.snd x)))
 (Lv.ext L s (Lv.toN L (Prod.fst (Prod.snd x))) (Lv.toN L (Lv.cast L (Lv.slen L s)))))))))
 (VC.obl
 (Lv.room L
 (Lv.add L (Lv.llen L Lt [])
 (Lv.llen L Lt
 (Lv.drop L Lt
 (Lv.take L Lt
 (Prod.fst
 (LexF.scan F
 (Lv.scat L (Lv.scat L (Lv.ext L s (Lv.toN L (Lv.cast L 0)) (Lv.toN L (Prod.fst x))) (Prod.snd (Prod.snd x)))
 (Lv.ext L s (Lv.toN L (Prod.fst (Prod.snd x))) (Lv.toN L (Lv.cast L (Lv.slen L s)))))))
 (Lv.toN L
 (Lv.ar L BinOp.sub IntKind.i64
 (Lv.cast L
 (Lv.llen L Lt
 (Prod.fst
 (LexF.scan F
 (Lv.scat L (Lv.scat L (Lv.ext L s (Lv.toN L (Lv.cast L 0)) (Lv.toN L (Prod.fst x))) (Prod.snd (Prod.snd x)))
 (Lv.ext L s (Lv.toN L (Prod.fst (Prod.snd x))) (Lv.toN L (Lv.cast L (Lv.slen L s)))))))))
 (Prod.fst x_2))))
 (Lv.toN L (Prod.fst x_1)))))
 32)
 (VC.ok
 (((Prod.fst x_1, Prod.fst x_2,
 Lv.take L Lt
 (Lv.app L Lt []
 (Lv.drop L Lt
 (Lv.take L Lt
 (Prod.fst
 (LexF.scan F
 (Lv.scat L (Lv.scat L (Lv.ext L s (Lv.toN L (Lv.cast L 0)) (Lv.toN L (Prod.fst x))) (Prod.snd (Prod.snd x)))
 (Lv.ext L s (Lv.toN L (Prod.fst (Prod.snd x))) (Lv.toN L (Lv.cast L (Lv.slen L s)))))))
 (Lv.toN L
 (Lv.ar L BinOp.sub IntKind.i64
 (Lv.cast L
 (Lv.llen L Lt
 (Prod.fst
 (LexF.scan F
 (Lv.scat L
 (Lv.scat L (Lv.ext L s (Lv.toN L (Lv.cast L 0)) (Lv.toN L (Prod.fst x))) (Prod.snd (Prod.snd x)))
 (Lv.ext L s (Lv.toN L (Prod.fst (Prod.snd x))) (Lv.toN L (Lv.cast L (Lv.slen L s)))))))))
 (Prod.fst x_2))))
 (Lv.toN L (Prod.fst x_1))))
 (Lv.add L (Lv.llen L Lt [])
 (Lv.llen L Lt
 (Lv.drop L Lt
 (Lv.take L Lt
 (Prod.fst
 (LexF.scan F
 (Lv.scat L (Lv.scat L (Lv.ext L s (Lv.toN L (Lv.cast L 0)) (Lv.toN L (Prod.fst x))) (Prod.snd (Prod.snd x)))
 (Lv.ext L s (Lv.toN L (Prod.fst (Prod.snd x))) (Lv.toN L (Lv.cast L (Lv.slen L s)))))))
 (Lv.toN L
 (Lv.ar L BinOp.sub IntKind.i64
 (Lv.cast L
 (Lv.llen L Lt
 (Prod.fst
 (LexF.scan F
 (Lv.scat L
 (Lv.scat L (Lv.ext L s (Lv.toN L (Lv.cast L 0)) (Lv.toN L (Prod.fst x))) (Prod.snd (Prod.snd x)))
 (Lv.ext L s (Lv.toN L (Prod.fst (Prod.snd x))) (Lv.toN L (Lv.cast L (Lv.slen L s)))))))))
 (Prod.fst x_2))))
 (Lv.toN L (Prod.fst x_1)))))),
 0, 0, ()) =
 (Prod.fst (LexF.rescan F s x), Prod.fst (Prod.snd (LexF.rescan F s x)), Prod.snd (Prod.snd (LexF.rescan F s x)),
 ())))))))))
 (VC.obl
 (Lv.le3 L (Prod.fst x_1)
 (Lv.ar L BinOp.sub IntKind.i64
 (Lv.cast L
 (Lv.llen L Lt
 (Prod.fst
 (LexF.scan F
 (Lv.scat L (Lv.scat L (Lv.ext L s (Lv.toN L (Lv.cast L 0)) (Lv.toN L (Prod.fst x))) (Prod.snd (Prod.snd x)))
 (Lv.ext L s (Lv.toN L (Prod.fst (Prod.snd x))) (Lv.toN L (Lv.cast L (Lv.slen L s)))))))))
 (Prod.fst x_2))
 (Lv.llen L Lt
 (Prod.fst
 (LexF.scan F
 (Lv.scat L (Lv.scat L (Lv.ext L s (Lv.toN L (Lv.cast L 0)) (Lv.toN L (Prod.fst x))) (Prod.snd (Prod.snd x)))
 (Lv.ext L s (Lv.toN L (Prod.fst (Prod.snd x))) (Lv.toN L (Lv.cast L (Lv.slen L s)))))))))
 (VC.obl
 (Lv.room L
 (Lv.add L (Lv.llen L Lt [])
 (Lv.llen L Lt
 (Lv.drop L Lt
 (Lv.take L Lt
 (Prod.fst
 (LexF.scan F
 (Lv.scat L (Lv.scat L (Lv.ext L s (Lv.toN L (Lv.cast L 0)) (Lv.toN L (Prod.fst x))) (Prod.snd (Prod.snd x)))
 (Lv.ext L s (Lv.toN L (Prod.fst (Prod.snd x))) (Lv.toN L (Lv.cast L (Lv.slen L s)))))))
 (Lv.toN L
 (Lv.ar L BinOp.sub IntKind.i64
 (Lv.cast L
 (Lv.llen L Lt
 (Prod.fst
 (LexF.scan F
 (Lv.scat L (Lv.scat L (Lv.ext L s (Lv.toN L (Lv.cast L 0)) (Lv.toN L (Prod.fst x))) (Prod.snd (Prod.snd x)))
 (Lv.ext L s (Lv.toN L (Prod.fst (Prod.snd x))) (Lv.toN L (Lv.cast L (Lv.slen L s)))))))))
 (Prod.fst x_2))))
 (Lv.toN L (Prod.fst x_1)))))
 32)
 (VC.ok
 (((Prod.fst x_1, Prod.fst x_2,
 Lv.take L Lt
 (Lv.app L Lt []
 (Lv.drop L Lt
 (Lv.take L Lt
 (Prod.fst
 (LexF.scan F
 (Lv.scat L (Lv.scat L (Lv.ext L s (Lv.toN L (Lv.cast L 0)) (Lv.toN L (Prod.fst x))) (Prod.snd (Prod.snd x)))
 (Lv.ext L s (Lv.toN L (Prod.fst (Prod.snd x))) (Lv.toN L (Lv.cast L (Lv.slen L s)))))))
 (Lv.toN L
 (Lv.ar L BinOp.sub IntKind.i64
 (Lv.cast L
 (Lv.llen L Lt
 (Prod.fst
 (LexF.scan F
 (Lv.scat L (Lv.scat L (Lv.ext L s (Lv.toN L (Lv.cast L 0)) (Lv.toN L (Prod.fst x))) (Prod.snd (Prod.snd x)))
 (Lv.ext L s (Lv.toN L (Prod.fst (Prod.snd x))) (Lv.toN L (Lv.cast L (Lv.slen L s)))))))))
 (Prod.fst x_2))))
 (Lv.toN L (Prod.fst x_1))))
 (Lv.add L (Lv.llen L Lt [])
 (Lv.llen L Lt
 (Lv.drop L Lt
 (Lv.take L Lt
 (Prod.fst
 (LexF.scan F
 (Lv.scat L (Lv.scat L (Lv.ext L s (Lv.toN L (Lv.cast L 0)) (Lv.toN L (Prod.fst x))) (Prod.snd (Prod.snd x)))
 (Lv.ext L s (Lv.toN L (Prod.fst (Prod.snd x))) (Lv.toN L (Lv.cast L (Lv.slen L s)))))))
 (Lv.toN L
 (Lv.ar L BinOp.sub IntKind.i64
 (Lv.cast L
 (Lv.llen L Lt
 (Prod.fst
 (LexF.scan F
 (Lv.scat L (Lv.scat L (Lv.ext L s (Lv.toN L (Lv.cast L 0)) (Lv.toN L (Prod.fst x))) (Prod.snd (Prod.snd x)))
 (Lv.ext L s (Lv.toN L (Prod.fst (Prod.snd x))) (Lv.toN L (Lv.cast L (Lv.slen L s)))))))))
 (Prod.fst x_2))))
 (Lv.toN L (Prod.fst x_1)))))),
 0, 0, ()) =
 (Prod.fst (LexF.rescan F s x), Prod.fst (Prod.snd (LexF.rescan F s x)), Prod.snd (Prod.snd (LexF.rescan F s x)), ())))))))
 (VC.obl
 (Lv.le3 L (Prod.fst x_1)
 (Lv.ar L BinOp.sub IntKind.i64
 (Lv.cast L
 (Lv.llen L Lt
 (Prod.fst
 (LexF.scan F
 (Lv.scat L (Lv.scat L (Lv.ext L s (Lv.toN L (Lv.cast L 0)) (Lv.toN L (Prod.fst x))) (Prod.snd (Prod.snd x)))
 (Lv.ext L s (Lv.toN L (Prod.fst (Prod.snd x))) (Lv.toN L (Lv.cast L (Lv.slen L s)))))))))
 (Prod.fst x_2))
 (Lv.llen L Lt
 (Prod.fst
 (LexF.scan F
 (Lv.scat L (Lv.scat L (Lv.ext L s (Lv.toN L (Lv.cast L 0)) (Lv.toN L (Prod.fst x))) (Prod.snd (Prod.snd x)))
 (Lv.ext L s (Lv.toN L (Prod.fst (Prod.snd x))) (Lv.toN L (Lv.cast L (Lv.slen L s)))))))))
 (VC.obl
 (Lv.room L
 (Lv.add L (Lv.llen L Lt [])
 (Lv.llen L Lt
 (Lv.drop L Lt
 (Lv.take L Lt
 (Prod.fst
 (LexF.scan F
 (Lv.scat L (Lv.scat L (Lv.ext L s (Lv.toN L (Lv.cast L 0)) (Lv.toN L (Prod.fst x))) (Prod.snd (Prod.snd x)))
 (Lv.ext L s (Lv.toN L (Prod.fst (Prod.snd x))) (Lv.toN L (Lv.cast L (Lv.slen L s)))))))
 (Lv.toN L
 (Lv.ar L BinOp.sub IntKind.i64
 (Lv.cast L
 (Lv.llen L Lt
 (Prod.fst
 (LexF.scan F
 (Lv.scat L (Lv.scat L (Lv.ext L s (Lv.toN L (Lv.cast L 0)) (Lv.toN L (Prod.fst x))) (Prod.snd (Prod.snd x)))
 (Lv.ext L s (Lv.toN L (Prod.fst (Prod.snd x))) (Lv.toN L (Lv.cast L (Lv.slen L s)))))))))
 (Prod.fst x_2))))
 (Lv.toN L (Prod.fst x_1)))))
 32)
 (VC.ok
 (((Prod.fst x_1, Prod.fst x_2,
 Lv.take L Lt
 (Lv.app L Lt []
 (Lv.drop L Lt
 (Lv.take L Lt
 (Prod.fst
 (LexF.scan F
 (Lv.scat L (Lv.scat L (Lv.ext L s (Lv.toN L (Lv.cast L 0)) (Lv.toN L (Prod.fst x))) (Prod.snd (Prod.snd x)))
 (Lv.ext L s (Lv.toN L (Prod.fst (Prod.snd x))) (Lv.toN L (Lv.cast L (Lv.slen L s)))))))
 (Lv.toN L
 (Lv.ar L BinOp.sub IntKind.i64
 (Lv.cast L
 (Lv.llen L Lt
 (Prod.fst
 (LexF.scan F
 (Lv.scat L (Lv.scat L (Lv.ext L s (Lv.toN L (Lv.cast L 0)) (Lv.toN L (Prod.fst x))) (Prod.snd (Prod.snd x)))
 (Lv.ext L s (Lv.toN L (Prod.fst (Prod.snd x))) (Lv.toN L (Lv.cast L (Lv.slen L s)))))))))
 (Prod.fst x_2))))
 (Lv.toN L (Prod.fst x_1))))
 (Lv.add L (Lv.llen L Lt [])
 (Lv.llen L Lt
 (Lv.drop L Lt
 (Lv.take L Lt
 (Prod.fst
 (LexF.scan F
 (Lv.scat L (Lv.scat L (Lv.ext L s (Lv.toN L (Lv.cast L 0)) (Lv.toN L (Prod.fst x))) (Prod.snd (Prod.snd x)))
 (Lv.ext L s (Lv.toN L (Prod.fst (Prod.snd x))) (Lv.toN L (Lv.cast L (Lv.slen L s)))))))
 (Lv.toN L
 (Lv.ar L BinOp.sub IntKind.i64
 (Lv.cast L
 (Lv.llen L Lt
 (Prod.fst
 (LexF.scan F
 (Lv.scat L (Lv.scat L (Lv.ext L s (Lv.toN L (Lv.cast L 0)) (Lv.toN L (Prod.fst x))) (Prod.snd (Prod.snd x)))
 (Lv.ext L s (Lv.toN L (Prod.fst (Prod.snd x))) (Lv.toN L (Lv.cast L (Lv.slen L s)))))))))
 (Prod.fst x_2))))
 (Lv.toN L (Prod.fst x_1)))))),
 0, 0, ()) =
 (Prod.fst (LexF.rescan F s x), Prod.fst (Prod.snd (LexF.rescan F s x)), Prod.snd (Prod.snd (LexF.rescan F s x)), ()))))))))))))
 (VC.obl
 (St.mk 156
 [(3, V.c (C.ptr 1 0)), (4, V.c (C.ptr 2 0)), (7, V.c (C.sl Lt (Prod.fst (LexF.scan F s)))),
 (8,
 V.c
 (C.sl Lt
 (Prod.fst
 (LexF.scan F
 (Lv.scat L (Lv.scat L (Lv.ext L s (Lv.toN L (Lv.cast L 0)) (Lv.toN L (Prod.fst x))) (Prod.snd (Prod.snd x)))
 (Lv.ext L s (Lv.toN L (Prod.fst (Prod.snd x))) (Lv.toN L (Lv.cast L (Lv.slen L s))))))))),
 (9,
 V.c
 (C.int IntKind.i64
 (Lv.ar L BinOp.sub IntKind.i64 (Lv.cast L (Lv.slen L (Prod.snd (Prod.snd x))))
 (Lv.ar L BinOp.sub IntKind.i64 (Prod.fst (Prod.snd x)) (Prod.fst x))))),
 (10, V.c (C.fn 69 [2]))]
 [(0, Ob.amb), (1, Ob.box 35 [C.int IntKind.i64 (Prod.fst x), C.int IntKind.i64 (Prod.fst (Prod.snd x)), C.str (Prod.snd (Prod.snd x))]),
 (2, Ob.box 40 [C.int IntKind.i64 (Prod.fst x_1), C.int IntKind.i64 0, C.nils])]
 3 =
 St.mk 156
 [(3, V.c (C.ptr 1 0)), (4, V.c (C.ptr 2 0)), (7, V.c (C.sl Lt (Prod.fst (LexF.scan F s)))),
 (8,
 V.c
 (C.sl Lt
 (Prod.fst
 (LexF.scan F
 (Lv.scat L (Lv.scat L (Lv.ext L s (Lv.toN L (Lv.cast L 0)) (Lv.toN L (Prod.fst x))) (Prod.snd (Prod.snd x)))
 (Lv.ext L s (Lv.toN L (Prod.fst (Prod.snd x))) (Lv.toN L (Lv.cast L (Lv.slen L s))))))))),
 (9,
 V.c
 (C.int IntKind.i64
 (Lv.ar L BinOp.sub IntKind.i64 (Lv.cast L (Lv.slen L (Prod.snd (Prod.snd x))))
 (Lv.ar L BinOp.sub IntKind.i64 (Prod.fst (Prod.snd x)) (Prod.fst x))))),
 (10, V.c (C.fn 69 [2]))]
 [(0, Ob.amb), (1, Ob.box 35 [C.int IntKind.i64 (Prod.fst x), C.int IntKind.i64 (Prod.fst (Prod.snd x)), C.str (Prod.snd (Prod.snd x))]),
 (2, Ob.box 40 [C.int IntKind.i64 (Prod.fst x_1), C.int IntKind.i64 0, C.nils])]
 3)
 (VC.obl (J (0, ()))
 (VC.all (Int × Unit) fun (x_2 : Int × Unit) =>
 VC.imp (J x_2)
 (VC.br
 (Lv.cmp L BinOp.lss (Prod.fst x_2)
 (Lv.ar L BinOp.sub IntKind.i64
 (Lv.mn L (Lv.cast L (Lv.llen L Lt (Prod.fst (LexF.scan F s))))
 (Lv.cast L
 (Lv.llen L Lt
 (Prod.fst
 (LexF.scan F
 (Lv.scat L (Lv.scat L (Lv.ext L s (Lv.toN L (Lv.cast L 0)) (Lv.toN L (Prod.fst x))) (Prod.snd (Prod.snd x)))
 (Lv.ext L s (Lv.toN L (Prod.fst (Prod.snd x))) (Lv.toN L (Lv.cast L (Lv.slen L s))))))))))
 (Prod.fst x_1)))
 (VC.obl
 (Lv.inR L
 (Lv.ar L BinOp.sub IntKind.i64
 (Lv.ar L BinOp.sub IntKind.i64
 (Lv.cast L (Lv.llen L Lt (Prod.fst (LexF.scan F s)))) 1)
 (Prod.fst x_2))
 (Lv.llen L Lt (Prod.fst (LexF.scan F s))))
 (VC.br
 (Lv.cmp L BinOp.geq
 (Prod.snd
 (Prod.snd
 (Lv.get L Lt (Prod.fst (LexF.scan F s))
 (Lv.toN L
 (Lv.ar L BinOp.sub IntKind.i64
 (Lv.ar L BinOp.sub IntKind.i64
 (Lv.cast L (Lv.llen L Lt (Prod.fst (LexF.scan F s)))) 1)
 (Prod.fst x_2))))))
 (Prod.fst (Prod.snd x)))
 (VC.obl
 (Lv.inR L
 (Lv.ar L BinOp.sub IntKind.i64
 (Lv.ar L BinOp.sub IntKind.i64
 (Lv.cast L (Lv.llen L Lt (Prod.fst (LexF.scan F s)))) 1)
 (Prod.fst x_2))
 (Lv.llen L Lt (Prod.fst (LexF.scan F s))))
 (VC.obl
 (Lv.inR L
 (Lv.ar L BinOp.sub IntKind.i64
 (Lv.ar L BinOp.sub IntKind.i64
 (Lv.cast L
 (Lv.llen L Lt
 (Prod.fst
 (LexF.scan F
 (Lv.scat L (Lv.scat L (Lv.ext L s (Lv.toN L (Lv.cast L 0)) (Lv.toN L (Prod.fst x))) (Prod.snd (Prod.snd x)))
 (Lv.ext L s (Lv.toN L (Prod.fst (Prod.snd x))) (Lv.toN L (Lv.cast L (Lv.slen L s)))))))))
 1)
 (Prod.fst x_2))
 (Lv.llen L Lt
 (Prod.fst
 (LexF.scan F
 (Lv.scat L (Lv.scat L (Lv.ext L s (Lv.toN L (Lv.cast L 0)) (Lv.toN L (Prod.fst x))) (Prod.snd (Prod.snd x)))
 (Lv.ext L s (Lv.toN L (Prod.fst (Prod.snd x))) (Lv.toN L (Lv.cast L (Lv.slen L s)))))))))
 (VC.obl True
 (VC.br
 (LexF.isSame F
 (Prod.fst
 (Lv.get L Lt (Prod.fst (LexF.scan F s))
 (Lv.toN L
 (Lv.ar L BinOp.sub IntKind.i64
 (Lv.ar L BinOp.sub IntKind.i64
 (Lv.cast L (Lv.llen L Lt (Prod.fst (LexF.scan F s)))) 1)
 (Prod.fst x_2)))),
 Prod.fst
 (Prod.snd
 (Lv.get L Lt (Prod.fst (LexF.scan F s))
 (Lv.toN L
 (Lv.ar L BinOp.sub IntKind.i64
 (Lv.ar L BinOp.sub IntKind.i64
 (Lv.cast L (Lv.llen L Lt (Prod.fst (LexF.scan F s)))) 1)
 (Prod.fst x_2))))),
 Prod.snd
 (Prod.snd
 (Lv.get L Lt (Prod.fst (LexF.scan F s))
 (Lv.toN L
 (Lv.ar L BinOp.sub IntKind.i64
 (Lv.ar L BinOp.sub IntKind.i64
 (Lv.cast L (Lv.llen L Lt (Prod.fst (LexF.scan F s)))) 1)
 (Prod.fst x_2))))))
 (Prod.fst
 (Lv.get L Lt
 (Prod.fst
 (LexF.scan F
 (Lv.scat L (Lv.scat L (Lv.ext L s (Lv.toN L (Lv.cast L 0)) (Lv.toN L (Prod.fst x))) (Prod.snd (Prod.snd x)))
 (Lv.ext L s (Lv.toN L (Prod.fst (Prod.snd x))) (Lv.toN L (Lv.cast L (Lv.slen L s)))))))
 (Lv.toN L
 (Lv.ar L BinOp.sub IntKind.i64
 (Lv.ar L BinOp.sub IntKind.i64
 (Lv.cast L
 (Lv.llen L Lt
 (Prod.fst
 (LexF.scan F
 (Lv.scat L (Lv.scat L (Lv.ext L s (Lv.toN L (Lv.cast L 0)) (Lv.toN L (Prod.fst x))) (Prod.snd (Prod.snd x)))
 (Lv.ext L s (Lv.toN L (Prod.fst (Prod.snd x))) (Lv.toN L (Lv.cast L (Lv.slen L s)))))))))
 1)
 (Prod.fst x_2)))),
 Prod.fst
 (Prod.snd
 (Lv.get L Lt
 (Prod.fst
 (LexF.scan F
 (Lv.scat L (Lv.scat L (Lv.ext L s (Lv.toN L (Lv.cast L 0)) (Lv.toN L (Prod.fst x))) (Prod.snd (Prod.snd x)))
 (Lv.ext L s (Lv.toN L (Prod.fst (Prod.snd x))) (Lv.toN L (Lv.cast L (Lv.slen L s)))))))
 (Lv.toN L
 (Lv.ar L BinOp.sub IntKind.i64
 (Lv.ar L BinOp.sub IntKind.i64
 (Lv.cast L
 (Lv.llen L Lt
 (Prod.fst
 (LexF.scan F
 (Lv.scat L (Lv.scat L (Lv.ext L s (Lv.toN L (Lv.cast L 0)) (Lv.toN L (Prod.fst x))) (Prod.snd (Prod.snd x)))
 (Lv.ext L s (Lv.toN L (Prod.fst (Prod.snd x))) (Lv.toN L (Lv.cast L (Lv.slen L s)))))))))
 1)
 (Prod.fst x_2))))),
 Prod.snd
 (Prod.snd
 (Lv.get L Lt
 (Prod.fst
 (LexF.scan F
 (Lv.scat L (Lv.scat L (Lv.ext L s (Lv.toN L (Lv.cast L 0)) (Lv.toN L (Prod.fst x))) (Prod.snd (Prod.snd x)))
 (Lv.ext L s (Lv.toN L (Prod.fst (Prod.snd x))) (Lv.toN L (Lv.cast L (Lv.slen L s)))))))
 (Lv.toN L
 (Lv.ar L BinOp.sub IntKind.i64
 (Lv.ar L BinOp.sub IntKind.i64
 (Lv.cast L
 (Lv.llen L Lt
 (Prod.fst
 (LexF.scan F
 (Lv.scat L (Lv.scat L (Lv.ext L s (Lv.toN L (Lv.cast L 0)) (Lv.toN L (Prod.fst x))) (Prod.snd (Prod.snd x)))
 (Lv.ext L s (Lv.toN L (Prod.fst (Prod.snd x))) (Lv.toN L (Lv.cast L (Lv.slen L s)))))))))
 1)
 (Prod.fst x_2))))))
 (Lv.ar L BinOp.sub IntKind.i64 (Lv.cast L (Lv.slen L (Prod.snd (Prod.snd x))))
 (Lv.ar L BinOp.sub IntKind.i64 (Prod.fst (Prod.snd x)) (Prod.fst x))))
 (VC.ok
 (St.mk 156
 [(3, V.c (C.ptr 1 0)), (4, V.c (C.ptr 2 0)),
 (7, V.c (C.sl Lt (Prod.fst (LexF.scan F s)))),
 (8,
 V.c
 (C.sl Lt
 (Prod.fst
 (LexF.scan F
 (Lv.scat L (Lv.scat L (Lv.ext L s (Lv.toN L (Lv.cast L 0)) (Lv.toN L (Prod.fst x))) (Prod.snd (Prod.snd x)))
 (Lv.ext L s (Lv.toN L (Prod.fst (Prod.snd x))) (Lv.toN L (Lv.cast L (Lv.slen L s))))))))),
 (9,
 V.c
 (C.int IntKind.i64
 (Lv.ar L BinOp.sub IntKind.i64 (Lv.cast L (Lv.slen L (Prod.snd (Prod.snd x))))
 (Lv.ar L BinOp.sub IntKind.i64 (Prod.fst (Prod.snd x)) (Prod.fst x))))),
 (10, V.c (C.fn 69 [2]))]
 [(0, Ob.amb),
 (1, Ob.box 35 [C.int IntKind.i64 (Prod.fst x), C.int IntKind.i64 (Prod.fst (Prod.snd x)), C.str (Prod.snd (Prod.snd x))]),
 (2, Ob.box 40 [C.int IntKind.i64 (Prod.fst x_1), C.int IntKind.i64 (Lv.ar L BinOp.add IntKind.i64 (Prod.fst x_2) 1), C.nils])]
 3 =
 St.mk 156
 [(3, V.c (C.ptr 1 0)), (4, V.c (C.ptr 2 0)),
 (7, V.c (C.sl Lt (Prod.fst (LexF.scan F s)))),
 (8,
 V.c
 (C.sl Lt
 (Prod.fst
 (LexF.scan F
 (Lv.scat L (Lv.scat L (Lv.ext L s (Lv.toN L (Lv.cast L 0)) (Lv.toN L (Prod.fst x))) (Prod.snd (Prod.snd x)))
 (Lv.ext L s (Lv.toN L (Prod.fst (Prod.snd x))) (Lv.toN L (Lv.cast L (Lv.slen L s))))))))),
 (9,
 V.c
 (C.int IntKind.i64
 (Lv.ar L BinOp.sub IntKind.i64 (Lv.cast L (Lv.slen L (Prod.snd (Prod.snd x))))
 (Lv.ar L BinOp.sub IntKind.i64 (Prod.fst (Prod.snd x)) (Prod.fst x))))),
 (10, V.c (C.fn 69 [2]))]
 [(0, Ob.amb),
 (1, Ob.box 35 [C.int IntKind.i64 (Prod.fst x), C.int IntKind.i64 (Prod.fst (Prod.snd x)), C.str (Prod.snd (Prod.snd x))]),
 (2, Ob.box 40 [C.int IntKind.i64 (Prod.fst x_1), C.int IntKind.i64 (Lv.ar L BinOp.add IntKind.i64 (Prod.fst x_2) 1), C.nils])]
 3 ∧
 J (Lv.ar L BinOp.add IntKind.i64 (Prod.fst x_2) 1, ()) ∧
 nu (Lv.ar L BinOp.add IntKind.i64 (Prod.fst x_2) 1, ()) < nu x_2))
 (VC.obl
 (Lv.le3 L (Prod.fst x_1)
 (Lv.ar L BinOp.sub IntKind.i64
 (Lv.cast L
 (Lv.llen L Lt
 (Prod.fst
 (LexF.scan F
 (Lv.scat L (Lv.scat L (Lv.ext L s (Lv.toN L (Lv.cast L 0)) (Lv.toN L (Prod.fst x))) (Prod.snd (Prod.snd x)))
 (Lv.ext L s (Lv.toN L (Prod.fst (Prod.snd x))) (Lv.toN L (Lv.cast L (Lv.slen L s)))))))))
 (Prod.fst x_2))
 (Lv.llen L Lt
 (Prod.fst
 (LexF.scan F
 (Lv.scat L (Lv.scat L (Lv.ext L s (Lv.toN L (Lv.cast L 0)) (Lv.toN L (Prod.fst x))) (Prod.snd (Prod.snd x)))
 (Lv.ext L s (Lv.toN L (Prod.fst (Prod.snd x))) (Lv.toN L (Lv.cast L (Lv.slen L s)))))))))
 (VC.obl
 (Lv.room L
 (Lv.add L (Lv.llen L Lt [])
 (Lv.llen L Lt
 (Lv.drop L Lt
 (Lv.take L Lt
 (Prod.fst
 (LexF.scan F
 (Lv.scat L (Lv.scat L (Lv.ext L s (Lv.toN L (Lv.cast L 0)) (Lv.toN L (Prod.fst x))) (Prod.snd (Prod.snd x)))
 (Lv.ext L s (Lv.toN L (Prod.fst (Prod.snd x))) (Lv.toN L (Lv.cast L (Lv.slen L s)))))))
 (Lv.toN L
 (Lv.ar L BinOp.sub IntKind.i64
 (Lv.cast L
 (Lv.llen L Lt
 (Prod.fst
 (LexF.scan F
 (Lv.scat L (Lv.scat L (Lv.ext L s (Lv.toN L (Lv.cast L 0)) (Lv.toN L (Prod.fst x))) (Prod.snd (Prod.snd x)))
 (Lv.ext L s (Lv.toN L (Prod.fst (Prod.snd x))) (Lv.toN L (Lv.cast L (Lv.slen L s)))))))))
 (Prod.fst x_2))))
 (Lv.toN L (Prod.fst x_1)))))
 32)
 (VC.ok
 (((Prod.fst x_1, Prod.fst x_2,
 Lv.take L Lt
 (Lv.app L Lt []
 (Lv.drop L Lt
 (Lv.take L Lt
 (Prod.fst
 (LexF.scan F
 (Lv.scat L (Lv.scat L (Lv.ext L s (Lv.toN L (Lv.cast L 0)) (Lv.toN L (Prod.fst x))) (Prod.snd (Prod.snd x)))
 (Lv.ext L s (Lv.toN L (Prod.fst (Prod.snd x))) (Lv.toN L (Lv.cast L (Lv.slen L s)))))))
 (Lv.toN L
 (Lv.ar L BinOp.sub IntKind.i64
 (Lv.cast L
 (Lv.llen L Lt
 (Prod.fst
 (LexF.scan F
 (Lv.scat L (Lv.scat L (Lv.ext L s (Lv.toN L (Lv.cast L 0)) (Lv.toN L (Prod.fst x))) (Prod.snd (Prod.snd x)))
 (Lv.ext L s (Lv.toN L (Prod.fst (Prod.snd x))) (Lv.toN L (Lv.cast L (Lv.slen L s)))))))))
 (Prod.fst x_2))))
 (Lv.toN L (Prod.fst x_1))))
 (Lv.add L (Lv.llen L Lt [])
 (Lv.llen L Lt
 (Lv.drop L Lt
 (Lv.take L Lt
 (Prod.fst
 (LexF.scan F
 (Lv.scat L (Lv.scat L (Lv.ext L s (Lv.toN L (Lv.cast L 0)) (Lv.toN L (Prod.fst x))) (Prod.snd (Prod.snd x)))
 (Lv.ext L s (Lv.toN L (Prod.fst (Prod.snd x))) (Lv.toN L (Lv.cast L (Lv.slen L s)))))))
 (Lv.toN L
 (Lv.ar L BinOp.sub IntKind.i64
 (Lv.cast L
 (Lv.llen L Lt
 (Prod.fst
 (LexF.scan F
 (Lv.scat L (Lv.scat L (Lv.ext L s (Lv.toN L (Lv.cast L 0)) (Lv.toN L (Prod.fst x))) (Prod.snd (Prod.snd x)))
 (Lv.ext L s (Lv.toN L (Prod.fst (Prod.snd x))) (Lv.toN L (Lv.cast L (Lv.slen L s)))))))))
 (Prod.fst x_2))))
 (Lv.toN L (Prod.fst x_1)))))),
 0, 0, ()) =
 (Prod.fst (LexF.rescan F s x), Prod.fst (Prod.snd (LexF.rescan F s x)), Prod.snd (Prod.snd (LexF.rescan F s x)), ())))))))))
 (VC.obl
 (Lv.le3 L (Prod.fst x_1)
 (Lv.ar L BinOp.sub IntKind.i64
 (Lv.cast L
 (Lv.llen L Lt
 (Prod.fst
 (LexF.scan F
 (Lv.scat L (Lv.scat L (Lv.ext L s (Lv.toN L (Lv.cast L 0)) (Lv.toN L (Prod.fst x))) (Prod.snd (Prod.snd x)))
 (Lv.ext L s (Lv.toN L (Prod.fst (Prod.snd x))) (Lv.toN L (Lv.cast L (Lv.slen L s)))))))))
 (Prod.fst x_2))
 (Lv.llen L Lt
 (Prod.fst
 (LexF.scan F
 (Lv.scat L (Lv.scat L (Lv.ext L s (Lv.toN L (Lv.cast L 0)) (Lv.toN L (Prod.fst x))) (Prod.snd (Prod.snd x)))
 (Lv.ext L s (Lv.toN L (Prod.fst (Prod.snd x))) (Lv.toN L (Lv.cast L (Lv.slen L s)))))))))
 (VC.obl
 (Lv.room L
 (Lv.add L (Lv.llen L Lt [])
 (Lv.llen L Lt
 (Lv.drop L Lt
 (Lv.take L Lt
 (Prod.fst
 (LexF.scan F
 (Lv.scat L (Lv.scat L (Lv.ext L s (Lv.toN L (Lv.cast L 0)) (Lv.toN L (Prod.fst x))) (Prod.snd (Prod.snd x)))
 (Lv.ext L s (Lv.toN L (Prod.fst (Prod.snd x))) (Lv.toN L (Lv.cast L (Lv.slen L s)))))))
 (Lv.toN L
 (Lv.ar L BinOp.sub IntKind.i64
 (Lv.cast L
 (Lv.llen L Lt
 (Prod.fst
 (LexF.scan F
 (Lv.scat L (Lv.scat L (Lv.ext L s (Lv.toN L (Lv.cast L 0)) (Lv.toN L (Prod.fst x))) (Prod.snd (Prod.snd x)))
 (Lv.ext L s (Lv.toN L (Prod.fst (Prod.snd x))) (Lv.toN L (Lv.cast L (Lv.slen L s)))))))))
 (Prod.fst x_2))))
 (Lv.toN L (Prod.fst x_1)))))
 32)
 (VC.ok
 (((Prod.fst x_1, Prod.fst x_2,
 Lv.take L Lt
 (Lv.app L Lt []
 (Lv.drop L Lt
 (Lv.take L Lt
 (Prod.fst
 (LexF.scan F
 (Lv.scat L (Lv.scat L (Lv.ext L s (Lv.toN L (Lv.cast L 0)) (Lv.toN L (Prod.fst x))) (Prod.snd (Prod.snd x)))
 (Lv.ext L s (Lv.toN L (Prod.fst (Prod.snd x))) (Lv.toN L (Lv.cast L (Lv.slen L s)))))))
 (Lv.toN L
 (Lv.ar L BinOp.sub IntKind.i64
 (Lv.cast L
 (Lv.llen L Lt
 (Prod.fst
 (LexF.scan F
 (Lv.scat L (Lv.scat L (Lv.ext L s (Lv.toN L (Lv.cast L 0)) (Lv.toN L (Prod.fst x))) (Prod.snd (Prod.snd x)))
 (Lv.ext L s (Lv.toN L (Prod.fst (Prod.snd x))) (Lv.toN L (Lv.cast L (Lv.slen L s)))))))))
 (Prod.fst x_2))))
 (Lv.toN L (Prod.fst x_1))))
 (Lv.add L (Lv.llen L Lt [])
 (Lv.llen L Lt
 (Lv.drop L Lt
 (Lv.take L Lt
 (Prod.fst
 (LexF.scan F
 (Lv.scat L (Lv.scat L (Lv.ext L s (Lv.toN L (Lv.cast L 0)) (Lv.toN L (Prod.fst x))) (Prod.snd (Prod.snd x)))
 (Lv.ext L s (Lv.toN L (Prod.fst (Prod.snd x))) (Lv.toN L (Lv.cast L (Lv.slen L s)))))))
 (Lv.toN L
 (Lv.ar L BinOp.sub IntKind.i64
 (Lv.cast L
 (Lv.llen L Lt
 (Prod.fst
 (LexF.scan F
 (Lv.scat L (Lv.scat L (Lv.ext L s (Lv.toN L (Lv.cast L 0)) (Lv.toN L (Prod.fst x))) (Prod.snd (Prod.snd x)))
 (Lv.ext L s (Lv.toN L (Prod.fst (Prod.snd x))) (Lv.toN L (Lv.cast L (Lv.slen L s)))))))))
 (Prod.fst x_2))))
 (Lv.toN L (Prod.fst x_1)))))),
 0, 0, ()) =
 (Prod.fst (LexF.rescan F s x), Prod.fst (Prod.snd (LexF.rescan F s x)), Prod.snd (Prod.snd (LexF.rescan F s x)), ())))))))
 (VC.obl
 (Lv.le3 L (Prod.fst x_1)
 (Lv.ar L BinOp.sub IntKind.i64
 (Lv.cast L
 (Lv.llen L Lt
 (Prod.fst
 (LexF.scan F
 (Lv.scat L (Lv.scat L (Lv.ext L s (Lv.toN L (Lv.cast L 0)) (Lv.toN L (Prod.fst x))) (Prod.snd (Prod.snd x)))
 (Lv.ext L s (Lv.toN L (Prod.fst (Prod.snd x))) (Lv.toN L (Lv.cast L (Lv.slen L s)))))))))
 (Prod.fst x_2))
 (Lv.llen L Lt
 (Prod.fst
 (LexF.scan F
 (Lv.scat L (Lv.scat L (Lv.ext L s (Lv.toN L (Lv.cast L 0)) (Lv.toN L (Prod.fst x))) (Prod.snd (Prod.snd x)))
 (Lv.ext L s (Lv.toN L (Prod.fst (Prod.snd x))) (Lv.toN L (Lv.cast L (Lv.slen L s)))))))))
 (VC.obl
 (Lv.room L
 (Lv.add L (Lv.llen L Lt [])
 (Lv.llen L Lt
 (Lv.drop L Lt
 (Lv.take L Lt
 (Prod.fst
 (LexF.scan F
 (Lv.scat L (Lv.scat L (Lv.ext L s (Lv.toN L (Lv.cast L 0)) (Lv.toN L (Prod.fst x))) (Prod.snd (Prod.snd x)))
 (Lv.ext L s (Lv.toN L (Prod.fst (Prod.snd x))) (Lv.toN L (Lv.cast L (Lv.slen L s)))))))
 (Lv.toN L
 (Lv.ar L BinOp.sub IntKind.i64
 (Lv.cast L
 (Lv.llen L Lt
 (Prod.fst
 (LexF.scan F
 (Lv.scat L (Lv.scat L (Lv.ext L s (Lv.toN L (Lv.cast L 0)) (Lv.toN L (Prod.fst x))) (Prod.snd (Prod.snd x)))
 (Lv.ext L s (Lv.toN L (Prod.fst (Prod.snd x))) (Lv.toN L (Lv.cast L (Lv.slen L s)))))))))
 (Prod.fst x_2))))
 (Lv.toN L (Prod.fst x_1)))))
 32)
 (VC.ok
 (((Prod.fst x_1, Prod.fst x_2,
 Lv.take L Lt
 (Lv.app L Lt []
 (Lv.drop L Lt
 (Lv.take L Lt
 (Prod.fst
 (LexF.scan F
 (Lv.scat L (Lv.scat L (Lv.ext L s (Lv.toN L (Lv.cast L 0)) (Lv.toN L (Prod.fst x))) (Prod.snd (Prod.snd x)))
 (Lv.ext L s (Lv.toN L (Prod.fst (Prod.snd x))) (Lv.toN L (Lv.cast L (Lv.slen L s)))))))
 (Lv.toN L
 (Lv.ar L BinOp.sub IntKind.i64
 (Lv.cast L
 (Lv.llen L Lt
 (Prod.fst
 (LexF.scan F
 (Lv.scat L (Lv.scat L (Lv.ext L s (Lv.toN L (Lv.cast L 0)) (Lv.toN L (Prod.fst x))) (Prod.snd (Prod.snd x)))
 (Lv.ext L s (Lv.toN L (Prod.fst (Prod.snd x))) (Lv.toN L (Lv.cast L (Lv.slen L s)))))))))
 (Prod.fst x_2))))
 (Lv.toN L (Prod.fst x_1))))
 (Lv.add L (Lv.llen L Lt [])
 (Lv.llen L Lt
 (Lv.drop L Lt
 (Lv.take L Lt
 (Prod.fst
 (LexF.scan F
 (Lv.scat L (Lv.scat L (Lv.ext L s (Lv.toN L (Lv.cast L 0)) (Lv.toN L (Prod.fst x))) (Prod.snd (Prod.snd x)))
 (Lv.ext L s (Lv.toN L (Prod.fst (Prod.snd x))) (Lv.toN L (Lv.cast L (Lv.slen L s)))))))
 (Lv.toN L
 (Lv.ar L BinOp.sub IntKind.i64
 (Lv.cast L
 (Lv.llen L Lt
 (Prod.fst
 (LexF.scan F
 (Lv.scat L (Lv.scat L (Lv.ext L s (Lv.toN L (Lv.cast L 0)) (Lv.toN L (Prod.fst x))) (Prod.snd (Prod.snd x)))
 (Lv.ext L s (Lv.toN L (Prod.fst (Prod.snd x))) (Lv.toN L (Lv.cast L (Lv.slen L s)))))))))
 (Prod.fst x_2))))
 (Lv.toN L (Prod.fst x_1)))))),
 0, 0, ()) =
 (Prod.fst (LexF.rescan F s x), Prod.fst (Prod.snd (LexF.rescan F s x)), Prod.snd (Prod.snd (LexF.rescan F s x)), ())))))))))))
 (VC.obl
 (St.mk 156
 [(3, V.c (C.ptr 1 0)), (4, V.c (C.ptr 2 0)), (7, V.c (C.sl Lt (Prod.fst (LexF.scan F s)))),
 (8,
 V.c
 (C.sl Lt
 (Prod.fst
 (LexF.scan F
 (Lv.scat L (Lv.scat L (Lv.ext L s (Lv.toN L (Lv.cast L 0)) (Lv.toN L (Prod.fst x))) (Prod.snd (Prod.snd x)))
 (Lv.ext L s (Lv.toN L (Prod.fst (Prod.snd x))) (Lv.toN L (Lv.cast L (Lv.slen L s))))))))),
 (9,
 V.c
 (C.int IntKind.i64
 (Lv.ar L BinOp.sub IntKind.i64 (Lv.cast L (Lv.slen L (Prod.snd (Prod.snd x)))) (Lv.ar L BinOp.sub IntKind.i64 (Prod.fst (Prod.snd x)) (Prod.fst x))))),
 (10, V.c (C.fn 69 [2]))]
 [(0, Ob.amb), (1, Ob.box 35 [C.int IntKind.i64 (Prod.fst x), C.int IntKind.i64 (Prod.fst (Prod.snd x)), C.str (Prod.snd (Prod.snd x))]),
 (2, Ob.box 40 [C.int IntKind.i64 (Prod.fst x_1), C.int IntKind.i64 0, C.nils])]
 3 =
 St.mk 156
 [(3, V.c (C.ptr 1 0)), (4, V.c (C.ptr 2 0)), (7, V.c (C.sl Lt (Prod.fst (LexF.scan F s)))),
 (8,
 V.c
 (C.sl Lt
 (Prod.fst
 (LexF.scan F
 (Lv.scat L (Lv.scat L (Lv.ext L s (Lv.toN L (Lv.cast L 0)) (Lv.toN L (Prod.fst x))) (Prod.snd (Prod.snd x)))
 (Lv.ext L s (Lv.toN L (Prod.fst (Prod.snd x))) (Lv.toN L (Lv.cast L (Lv.slen L s))))))))),
 (9,
 V.c
 (C.int IntKind.i64
 (Lv.ar L BinOp.sub IntKind.i64 (Lv.cast L (Lv.slen L (Prod.snd (Prod.snd x)))) (Lv.ar L BinOp.sub IntKind.i64 (Prod.fst (Prod.snd x)) (Prod.fst x))))),
 (10, V.c (C.fn 69 [2]))]
 [(0, Ob.amb), (1, Ob.box 35 [C.int IntKind.i64 (Prod.fst x), C.int IntKind.i64 (Prod.fst (Prod.snd x)), C.str (Prod.snd (Prod.snd x))]),
 (2, Ob.box 40 [C.int IntKind.i64 (Prod.fst x_1), C.int IntKind.i64 0, C.nils])]
 3)
 (VC.obl (J (0, ()))
 (VC.all (Int × Unit) fun (x_2 : Int × Unit) =>
 VC.imp (J x_2)
 (VC.br
 (Lv.cmp L BinOp.lss (Prod.fst x_2)
 (Lv.ar L BinOp.sub IntKind.i64
 (Lv.mn L (Lv.cast L (Lv.llen L Lt (Prod.fst (LexF.scan F s))))
 (Lv.cast L
 (Lv.llen L Lt
 (Prod.fst
 (LexF.scan F
 (Lv.scat L (Lv.scat L (Lv.ext L s (Lv.toN L (Lv.cast L 0)) (Lv.toN L (Prod.fst x))) (Prod.snd (Prod.snd x)))
 (Lv.ext L s (Lv.toN L (Prod.fst (Prod.snd x))) (Lv.toN L (Lv.cast L (Lv.slen L s))))))))))
 (Prod.fst x_1)))
 (VC.obl
 (Lv.inR L
 (Lv.ar L BinOp.sub IntKind.i64
 (Lv.ar L BinOp.sub IntKind.i64 (Lv.cast L (Lv.llen L Lt (Prod.fst (LexF.scan F s)))) 1)
 (Prod.fst x_2))
 (Lv.llen L Lt (Prod.fst (LexF.scan F s))))
 (VC.br
 (Lv.cmp L BinOp.geq
 (Prod.snd
 (Prod.snd
 (Lv.get L Lt (Prod.fst (LexF.scan F s))
 (Lv.toN L
 (Lv.ar L BinOp.sub IntKind.i64
 (Lv.ar L BinOp.sub IntKind.i64
 (Lv.cast L (Lv.llen L Lt (Prod.fst (LexF.scan F s)))) 1)
 (Prod.fst x_2))))))
 (Prod.fst (Prod.snd x)))
 (VC.obl
 (Lv.inR L
 (Lv.ar L BinOp.sub IntKind.i64
 (Lv.ar L BinOp.sub IntKind.i64
 (Lv.cast L (Lv.llen L Lt (Prod.fst (LexF.scan F s)))) 1)
 (Prod.fst x_2))
 (Lv.llen L Lt (Prod.fst (LexF.scan F s))))
 (VC.obl
 (Lv.inR L
 (Lv.ar L BinOp.sub IntKind.i64
 (Lv.ar L BinOp.sub IntKind.i64
 (Lv.cast L
 (Lv.llen L Lt
 (Prod.fst
 (LexF.scan F
 (Lv.scat L (Lv.scat L (Lv.ext L s (Lv.toN L (Lv.cast L 0)) (Lv.toN L (Prod.fst x))) (Prod.snd (Prod.snd x)))
 (Lv.ext L s (Lv.toN L (Prod.fst (Prod.snd x))) (Lv.toN L (Lv.cast L (Lv.slen L s)))))))))
 1)
 (Prod.fst x_2))
 (Lv.llen L Lt
 (Prod.fst
 (LexF.scan F
 (Lv.scat L (Lv.scat L (Lv.ext L s (Lv.toN L (Lv.cast L 0)) (Lv.toN L (Prod.fst x))) (Prod.snd (Prod.snd x)))
 (Lv.ext L s (Lv.toN L (Prod.fst (Prod.snd x))) (Lv.toN L (Lv.cast L (Lv.slen L s)))))))))
 (VC.obl True
 (VC.br
 (LexF.isSame F
 (Prod.fst
 (Lv.get L Lt (Prod.fst (LexF.scan F s))
 (Lv.toN L
 (Lv.ar L BinOp.sub IntKind.i64
 (Lv.ar L BinOp.sub IntKind.i64
 (Lv.cast L (Lv.llen L Lt (Prod.fst (LexF.scan F s)))) 1)
 (Prod.fst x_2)))),
 Prod.fst
 (Prod.snd
 (Lv.get L Lt (Prod.fst (LexF.scan F s))
 (Lv.toN L
 (Lv.ar L BinOp.sub IntKind.i64
 (Lv.ar L BinOp.sub IntKind.i64
 (Lv.cast L (Lv.llen L Lt (Prod.fst (LexF.scan F s)))) 1)
 (Prod.fst x_2))))),
 Prod.snd
 (Prod.snd
 (Lv.get L Lt (Prod.fst (LexF.scan F s))
 (Lv.toN L
 (Lv.ar L BinOp.sub IntKind.i64
 (Lv.ar L BinOp.sub IntKind.i64
 (Lv.cast L (Lv.llen L Lt (Prod.fst (LexF.scan F s)))) 1)
 (Prod.fst x_2))))))
 (Prod.fst
 (Lv.get L Lt
 (Prod.fst
 (LexF.scan F
 (Lv.scat L (Lv.scat L (Lv.ext L s (Lv.toN L (Lv.cast L 0)) (Lv.toN L (Prod.fst x))) (Prod.snd (Prod.snd x)))
 (Lv.ext L s (Lv.toN L (Prod.fst (Prod.snd x))) (Lv.toN L (Lv.cast L (Lv.slen L s)))))))
 (Lv.toN L
 (Lv.ar L BinOp.sub IntKind.i64
 (Lv.ar L BinOp.sub IntKind.i64
 (Lv.cast L
 (Lv.llen L Lt
 (Prod.fst
 (LexF.scan F
 (Lv.scat L (Lv.scat L (Lv.ext L s (Lv.toN L (Lv.cast L 0)) (Lv.toN L (Prod.fst x))) (Prod.snd (Prod.snd x)))
 (Lv.ext L s (Lv.toN L (Prod.fst (Prod.snd x))) (Lv.toN L (Lv.cast L (Lv.slen L s)))))))))
 1)
 (Prod.fst x_2)))),
 Prod.fst
 (Prod.snd
 (Lv.get L Lt
 (Prod.fst
 (LexF.scan F
 (Lv.scat L (Lv.scat L (Lv.ext L s (Lv.toN L (Lv.cast L 0)) (Lv.toN L (Prod.fst x))) (Prod.snd (Prod.snd x)))
 (Lv.ext L s (Lv.toN L (Prod.fst (Prod.snd x))) (Lv.toN L (Lv.cast L (Lv.slen L s)))))))
 (Lv.toN L
 (Lv.ar L BinOp.sub IntKind.i64
 (Lv.ar L BinOp.sub IntKind.i64
 (Lv.cast L
 (Lv.llen L Lt
 (Prod.fst
 (LexF.scan F
 (Lv.scat L (Lv.scat L (Lv.ext L s (Lv.toN L (Lv.cast L 0)) (Lv.toN L (Prod.fst x))) (Prod.snd (Prod.snd x)))
 (Lv.ext L s (Lv.toN L (Prod.fst (Prod.snd x))) (Lv.toN L (Lv.cast L (Lv.slen L s)))))))))
 1)
 (Prod.fst x_2))))),
 Prod.snd
 (Prod.snd
 (Lv.get L Lt
 (Prod.fst
 (LexF.scan F
 (Lv.scat L (Lv.scat L (Lv.ext L s (Lv.toN L (Lv.cast L 0)) (Lv.toN L (Prod.fst x))) (Prod.snd (Prod.snd x)))
 (Lv.ext L s (Lv.toN L (Prod.fst (Prod.snd x))) (Lv.toN L (Lv.cast L (Lv.slen L s)))))))
 (Lv.toN L
 (Lv.ar L BinOp.sub IntKind.i64
 (Lv.ar L BinOp.sub IntKind.i64
 (Lv.cast L
 (Lv.llen L Lt
 (Prod.fst
 (LexF.scan F
 (Lv.scat L (Lv.scat L (Lv.ext L s (Lv.toN L (Lv.cast L 0)) (Lv.toN L (Prod.fst x))) (Prod.snd (Prod.snd x)))
 (Lv.ext L s (Lv.toN L (Prod.fst (Prod.snd x))) (Lv.toN L (Lv.cast L (Lv.slen L s)))))))))
 1)
 (Prod.fst x_2))))))
 (Lv.ar L BinOp.sub IntKind.i64 (Lv.cast L (Lv.slen L (Prod.snd (Prod.snd x))))
 (Lv.ar L BinOp.sub IntKind.i64 (Prod.fst (Prod.snd x)) (Prod.fst x))))
 (VC.ok
 (St.mk 156
 [(3, V.c (C.ptr 1 0)), (4, V.c (C.ptr 2 0)),
 (7, V.c (C.sl Lt (Prod.fst (LexF.scan F s)))),
 (8,
 V.c
 (C.sl Lt
 (Prod.fst
 (LexF.scan F
 (Lv.scat L (Lv.scat L (Lv.ext L s (Lv.toN L (Lv.cast L 0)) (Lv.toN L (Prod.fst x))) (Prod.snd (Prod.snd x)))
 (Lv.ext L s (Lv.toN L (Prod.fst (Prod.snd x))) (Lv.toN L (Lv.cast L (Lv.slen L s))))))))),
 (9,
 V.c
 (C.int IntKind.i64
 (Lv.ar L BinOp.sub IntKind.i64 (Lv.cast L (Lv.slen L (Prod.snd (Prod.snd x))))
 (Lv.ar L BinOp.sub IntKind.i64 (Prod.fst (Prod.snd x)) (Prod.fst x))))),
 (10, V.c (C.fn 69 [2]))]
 [(0, Ob.amb), (1, Ob.box 35 [C.int IntKind.i64 (Prod.fst x), C.int IntKind.i64 (Prod.fst (Prod.snd x)), C.str (Prod.snd (Prod.snd x))]),
 (2, Ob.box 40 [C.int IntKind.i64 (Prod.fst x_1), C.int IntKind.i64 (Lv.ar L BinOp.add IntKind.i64 (Prod.fst x_2) 1), C.nils])]
 3 =
 St.mk 156
 [(3, V.c (C.ptr 1 0)), (4, V.c (C.ptr 2 0)),
 (7, V.c (C.sl Lt (Prod.fst (LexF.scan F s)))),
 (8,
 V.c
 (C.sl Lt
 (Prod.fst
 (LexF.scan F
 (Lv.scat L (Lv.scat L (Lv.ext L s (Lv.toN L (Lv.cast L 0)) (Lv.toN L (Prod.fst x))) (Prod.snd (Prod.snd x)))
 (Lv.ext L s (Lv.toN L (Prod.fst (Prod.snd x))) (Lv.toN L (Lv.cast L (Lv.slen L s))))))))),
 (9,
 V.c
 (C.int IntKind.i64
 (Lv.ar L BinOp.sub IntKind.i64 (Lv.cast L (Lv.slen L (Prod.snd (Prod.snd x))))
 (Lv.ar L BinOp.sub IntKind.i64 (Prod.fst (Prod.snd x)) (Prod.fst x))))),
 (10, V.c (C.fn 69 [2]))]
 [(0, Ob.amb), (1, Ob.box 35 [C.int IntKind.i64 (Prod.fst x), C.int IntKind.i64 (Prod.fst (Prod.snd x)), C.str (Prod.snd (Prod.snd x))]),
 (2, Ob.box 40 [C.int IntKind.i64 (Prod.fst x_1), C.int IntKind.i64 (Lv.ar L BinOp.add IntKind.i64 (Prod.fst x_2) 1), C.nils])]
 3 ∧
 J (Lv.ar L BinOp.add IntKind.i64 (Prod.fst x_2) 1, ()) ∧ nu (Lv.ar L BinOp.add IntKind.i64 (Prod.fst x_2) 1, ()) < nu x_2))
 (VC.obl
 (Lv.le3 L (Prod.fst x_1)
 (Lv.ar L BinOp.sub IntKind.i64
 (Lv.cast L
 (Lv.llen L Lt
 (Prod.fst
 (LexF.scan F
 (Lv.scat L (Lv.scat L (Lv.ext L s (Lv.toN L (Lv.cast L 0)) (Lv.toN L (Prod.fst x))) (Prod.snd (Prod.snd x)))
 (Lv.ext L s (Lv.toN L (Prod.fst (Prod.snd x))) (Lv.toN L (Lv.cast L (Lv.slen L s)))))))))
 (Prod.fst x_2))
 (Lv.llen L Lt
 (Prod.fst
 (LexF.scan F
 (Lv.scat L (Lv.scat L (Lv.ext L s (Lv.toN L (Lv.cast L 0)) (Lv.toN L (Prod.fst x))) (Prod.snd (Prod.snd x)))
 (Lv.ext L s (Lv.toN L (Prod.fst (Prod.snd x))) (Lv.toN L (Lv.cast L (Lv.slen L s)))))))))
 (VC.obl
 (Lv.room L
 (Lv.add L (Lv.llen L Lt [])
 (Lv.llen L Lt
 (Lv.drop L Lt
 (Lv.take L Lt
 (Prod.fst
 (LexF.scan F
 (Lv.scat L (Lv.scat L (Lv.ext L s (Lv.toN L (Lv.cast L 0)) (Lv.toN L (Prod.fst x))) (Prod.snd (Prod.snd x)))
 (Lv.ext L s (Lv.toN L (Prod.fst (Prod.snd x))) (Lv.toN L (Lv.cast L (Lv.slen L s)))))))
 (Lv.toN L
 (Lv.ar L BinOp.sub IntKind.i64
 (Lv.cast L
 (Lv.llen L Lt
 (Prod.fst
 (LexF.scan F
 (Lv.scat L (Lv.scat L (Lv.ext L s (Lv.toN L (Lv.cast L 0)) (Lv.toN L (Prod.fst x))) (Prod.snd (Prod.snd x)))
 (Lv.ext L s (Lv.toN L (Prod.fst (Prod.snd x))) (Lv.toN L (Lv.cast L (Lv.slen L s)))))))))
 (Prod.fst x_2))))
 (Lv.toN L (Prod.fst x_1)))))
 32)
 (VC.ok
 (((Prod.fst x_1, Prod.fst x_2,
 Lv.take L Lt
 (Lv.app L Lt []
 (Lv.drop L Lt
 (Lv.take L Lt
 (Prod.fst
 (LexF.scan F
 (Lv.scat L (Lv.scat L (Lv.ext L s (Lv.toN L (Lv.cast L 0)) (Lv.toN L (Prod.fst x))) (Prod.snd (Prod.snd x)))
 (Lv.ext L s (Lv.toN L (Prod.fst (Prod.snd x))) (Lv.toN L (Lv.cast L (Lv.slen L s)))))))
 (Lv.toN L
 (Lv.ar L BinOp.sub IntKind.i64
 (Lv.cast L
 (Lv.llen L Lt
 (Prod.fst
 (LexF.scan F
 (Lv.scat L (Lv.scat L (Lv.ext L s (Lv.toN L (Lv.cast L 0)) (Lv.toN L (Prod.fst x))) (Prod.snd (Prod.snd x)))
 (Lv.ext L s (Lv.toN L (Prod.fst (Prod.snd x))) (Lv.toN L (Lv.cast L (Lv.slen L s)))))))))
 (Prod.fst x_2))))
 (Lv.toN L (Prod.fst x_1))))
 (Lv.add L (Lv.llen L Lt [])
 (Lv.llen L Lt
 (Lv.drop L Lt
 (Lv.take L Lt
 (Prod.fst
 (LexF.scan F
 (Lv.scat L (Lv.scat L (Lv.ext L s (Lv.toN L (Lv.cast L 0)) (Lv.toN L (Prod.fst x))) (Prod.snd (Prod.snd x)))
 (Lv.ext L s (Lv.toN L (Prod.fst (Prod.snd x))) (Lv.toN L (Lv.cast L (Lv.slen L s)))))))
 (Lv.toN L
 (Lv.ar L BinOp.sub IntKind.i64
 (Lv.cast L
 (Lv.llen L Lt
 (Prod.fst
 (LexF.scan F
 (Lv.scat L (Lv.scat L (Lv.ext L s (Lv.toN L (Lv.cast L 0)) (Lv.toN L (Prod.fst x))) (Prod.snd (Prod.snd x)))
 (Lv.ext L s (Lv.toN L (Prod.fst (Prod.snd x))) (Lv.toN L (Lv.cast L (Lv.slen L s)))))))))
 (Prod.fst x_2))))
 (Lv.toN L (Prod.fst x_1)))))),
 0, 0, ()) =
 (Prod.fst (LexF.rescan F s x), Prod.fst (Prod.snd (LexF.rescan F s x)), Prod.snd (Prod.snd (LexF.rescan F s x)), ())))))))))
 (VC.obl
 (Lv.le3 L (Prod.fst x_1)
 (Lv.ar L BinOp.sub IntKind.i64
 (Lv.cast L
 (Lv.llen L Lt
 (Prod.fst
 (LexF.scan F
 (Lv.scat L (Lv.scat L (Lv.ext L s (Lv.toN L (Lv.cast L 0)) (Lv.toN L (Prod.fst x))) (Prod.snd (Prod.snd x)))
 (Lv.ext L s (Lv.toN L (Prod.fst (Prod.snd x))) (Lv.toN L (Lv.cast L (Lv.slen L s)))))))))
 (Prod.fst x_2))
 (Lv.llen L Lt
 (Prod.fst
 (LexF.scan F
 (Lv.scat L (Lv.scat L (Lv.ext L s (Lv.toN L (Lv.cast L 0)) (Lv.toN L (Prod.fst x))) (Prod.snd (Prod.snd x)))
 (Lv.ext L s (Lv.toN L (Prod.fst (Prod.snd x))) (Lv.toN L (Lv.cast L (Lv.slen L s)))))))))
 (VC.obl
 (Lv.room L
 (Lv.add L (Lv.llen L Lt [])
 (Lv.llen L Lt
 (Lv.drop L Lt
 (Lv.take L Lt
 (Prod.fst
 (LexF.scan F
 (Lv.scat L (Lv.scat L (Lv.ext L s (Lv.toN L (Lv.cast L 0)) (Lv.toN L (Prod.fst x))) (Prod.snd (Prod.snd x)))
 (Lv.ext L s (Lv.toN L (Prod.fst (Prod.snd x))) (Lv.toN L (Lv.cast L (Lv.slen L s)))))))
 (Lv.toN L
 (Lv.ar L BinOp.sub IntKind.i64
 (Lv.cast L
 (Lv.llen L Lt
 (Prod.fst
 (LexF.scan F
 (Lv.scat L (Lv.scat L (Lv.ext L s (Lv.toN L (Lv.cast L 0)) (Lv.toN L (Prod.fst x))) (Prod.snd (Prod.snd x)))
 (Lv.ext L s (Lv.toN L (Prod.fst (Prod.snd x))) (Lv.toN L (Lv.cast L (Lv.slen L s)))))))))
 (Prod.fst x_2))))
 (Lv.toN L (Prod.fst x_1)))))
 32)
 (VC.ok
 (((Prod.fst x_1, Prod.fst x_2,
 Lv.take L Lt
 (Lv.app L Lt []
 (Lv.drop L Lt
 (Lv.take L Lt
 (Prod.fst
 (LexF.scan F
 (Lv.scat L (Lv.scat L (Lv.ext L s (Lv.toN L (Lv.cast L 0)) (Lv.toN L (Prod.fst x))) (Prod.snd (Prod.snd x)))
 (Lv.ext L s (Lv.toN L (Prod.fst (Prod.snd x))) (Lv.toN L (Lv.cast L (Lv.slen L s)))))))
 (Lv.toN L
 (Lv.ar L BinOp.sub IntKind.i64
 (Lv.cast L
 (Lv.llen L Lt
 (Prod.fst
 (LexF.scan F
 (Lv.scat L (Lv.scat L (Lv.ext L s (Lv.toN L (Lv.cast L 0)) (Lv.toN L (Prod.fst x))) (Prod.snd (Prod.snd x)))
 (Lv.ext L s (Lv.toN L (Prod.fst (Prod.snd x))) (Lv.toN L (Lv.cast L (Lv.slen L s)))))))))
 (Prod.fst x_2))))
 (Lv.toN L (Prod.fst x_1))))
 (Lv.add L (Lv.llen L Lt [])
 (Lv.llen L Lt
 (Lv.drop L Lt
 (Lv.take L Lt
 (Prod.fst
 (LexF.scan F
 (Lv.scat L (Lv.scat L (Lv.ext L s (Lv.toN L (Lv.cast L 0)) (Lv.toN L (Prod.fst x))) (Prod.snd (Prod.snd x)))
 (Lv.ext L s (Lv.toN L (Prod.fst (Prod.snd x))) (Lv.toN L (Lv.cast L (Lv.slen L s)))))))
 (Lv.toN L
 (Lv.ar L BinOp.sub IntKind.i64
 (Lv.cast L
 (Lv.llen L Lt
 (Prod.fst
 (LexF.scan F
 (Lv.scat L (Lv.scat L (Lv.ext L s (Lv.toN L (Lv.cast L 0)) (Lv.toN L (Prod.fst x))) (Prod.snd (Prod.snd x)))
 (Lv.ext L s (Lv.toN L (Prod.fst (Prod.snd x))) (Lv.toN L (Lv.cast L (Lv.slen L s)))))))))
 (Prod.fst x_2))))
 (Lv.toN L (Prod.fst x_1)))))),
 0, 0, ()) =
 (Prod.fst (LexF.rescan F s x), Prod.fst (Prod.snd (LexF.rescan F s x)), Prod.snd (Prod.snd (LexF.rescan F s x)), ())))))))
 (VC.obl
 (Lv.le3 L (Prod.fst x_1)
 (Lv.ar L BinOp.sub IntKind.i64
 (Lv.cast L
 (Lv.llen L Lt
 (Prod.fst
 (LexF.scan F
 (Lv.scat L (Lv.scat L (Lv.ext L s (Lv.toN L (Lv.cast L 0)) (Lv.toN L (Prod.fst x))) (Prod.snd (Prod.snd x)))
 (Lv.ext L s (Lv.toN L (Prod.fst (Prod.snd x))) (Lv.toN L (Lv.cast L (Lv.slen L s)))))))))
 (Prod.fst x_2))
 (Lv.llen L Lt
 (Prod.fst
 (LexF.scan F
 (Lv.scat L (Lv.scat L (Lv.ext L s (Lv.toN L (Lv.cast L 0)) (Lv.toN L (Prod.fst x))) (Prod.snd (Prod.snd x)))
 (Lv.ext L s (Lv.toN L (Prod.fst (Prod.snd x))) (Lv.toN L (Lv.cast L (Lv.slen L s)))))))))
 (VC.obl
 (Lv.room L
 (Lv.add L (Lv.llen L Lt [])
 (Lv.llen L Lt
 (Lv.drop L Lt
 (Lv.take L Lt
 (Prod.fst
 (LexF.scan F
 (Lv.scat L (Lv.scat L (Lv.ext L s (Lv.toN L (Lv.cast L 0)) (Lv.toN L (Prod.fst x))) (Prod.snd (Prod.snd x)))
 (Lv.ext L s (Lv.toN L (Prod.fst (Prod.snd x))) (Lv.toN L (Lv.cast L (Lv.slen L s)))))))
 (Lv.toN L
 (Lv.ar L BinOp.sub IntKind.i64
 (Lv.cast L
 (Lv.llen L Lt
 (Prod.fst
 (LexF.scan F
 (Lv.scat L (Lv.scat L (Lv.ext L s (Lv.toN L (Lv.cast L 0)) (Lv.toN L (Prod.fst x))) (Prod.snd (Prod.snd x)))
 (Lv.ext L s (Lv.toN L (Prod.fst (Prod.snd x))) (Lv.toN L (Lv.cast L (Lv.slen L s)))))))))
 (Prod.fst x_2))))
 (Lv.toN L (Prod.fst x_1)))))
 32)
 (VC.ok
 (((Prod.fst x_1, Prod.fst x_2,
 Lv.take L Lt
 (Lv.app L Lt []
 (Lv.drop L Lt
 (Lv.take L Lt
 (Prod.fst
 (LexF.scan F
 (Lv.scat L (Lv.scat L (Lv.ext L s (Lv.toN L (Lv.cast L 0)) (Lv.toN L (Prod.fst x))) (Prod.snd (Prod.snd x)))
 (Lv.ext L s (Lv.toN L (Prod.fst (Prod.snd x))) (Lv.toN L (Lv.cast L (Lv.slen L s)))))))
 (Lv.toN L
 (Lv.ar L BinOp.sub IntKind.i64
 (Lv.cast L
 (Lv.llen L Lt
 (Prod.fst
 (LexF.scan F
 (Lv.scat L (Lv.scat L (Lv.ext L s (Lv.toN L (Lv.cast L 0)) (Lv.toN L (Prod.fst x))) (Prod.snd (Prod.snd x)))
 (Lv.ext L s (Lv.toN L (Prod.fst (Prod.snd x))) (Lv.toN L (Lv.cast L (Lv.slen L s)))))))))
 (Prod.fst x_2))))
 (Lv.toN L (Prod.fst x_1))))
 (Lv.add L (Lv.llen L Lt [])
 (Lv.llen L Lt
 (Lv.drop L Lt
 (Lv.take L Lt
 (Prod.fst
 (LexF.scan F
 (Lv.scat L (Lv.scat L (Lv.ext L s (Lv.toN L (Lv.cast L 0)) (Lv.toN L (Prod.fst x))) (Prod.snd (Prod.snd x)))
 (Lv.ext L s (Lv.toN L (Prod.fst (Prod.snd x))) (Lv.toN L (Lv.cast L (Lv.slen L s)))))))
 (Lv.toN L
 (Lv.ar L BinOp.sub IntKind.i64
 (Lv.cast L
 (Lv.llen L Lt
 (Prod.fst
 (LexF.scan F
 (Lv.scat L (Lv.scat L (Lv.ext L s (Lv.toN L (Lv.cast L 0)) (Lv.toN L (Prod.fst x))) (Prod.snd (Prod.snd x)))
 (Lv.ext L s (Lv.toN L (Prod.fst (Prod.snd x))) (Lv.toN L (Lv.cast L (Lv.slen L s)))))))))
 (Prod.fst x_2))))
 (Lv.toN L (Prod.fst x_1)))))),
 0, 0, ()) =
 (Prod.fst (LexF.rescan F s x), Prod.fst (Prod.snd (LexF.rescan F s x)), Prod.snd (Prod.snd (LexF.rescan F s x)), ())))))))))))))))))))))))
theorem n33_eq (L : Lv) (F : LexF) (I : Ds [It] → Prop) (mu : Ds [It] → Nat) (J : Ds [It] → Prop) (nu : Ds [It] → Nat) (s : ByteArray) (x : Ed) : vcO L F [23, 69, 70] (D33 (a33 L I mu J nu)) (S33 F) (s, x, ()) = n33 L F I mu J nu s x := by kernel_rfl
theorem n33_go (L : Lv) (F : LexF) (I : Ds [It] → Prop) (mu : Ds [It] → Nat) (J : Ds [It] → Prop) (nu : Ds [It] → Nat) (s : ByteArray) (x : Ed) (h : VC.holds (n33 L F I mu J nu s x)) : Holds (vcO L F [23, 69, 70] (D33 (a33 L I mu J nu)) (S33 F) (s, x, ())) := Holds.of_eq (n33_eq L F I mu J nu s x) h

/-! ### what a scan gives -/
theorem scan_go (s : ByteArray) : ∀ (n : Nat) (i : Int) (acc : List Lx), 0 ≤ i → i ≤ s.size → acc.length ≤ 900 → (∀ t ∈ acc, 0 ≤ t.2.2 ∧ t.2.2 ≤ s.size ∧ t.2.1.size ≤ s.size) → (scanGo s n i acc).1.length ≤ 900 ∧ ∀ t ∈ (scanGo s n i acc).1, 0 ≤ t.2.2 ∧ t.2.2 ≤ s.size ∧ t.2.1.size ≤ s.size
  | 0, i, acc, _, _, h1, h2 => ⟨h1, h2⟩
  | n + 1, i, acc, h0, hi, h1, h2 => by
    simp only [scanGo]
    split
    · rename_i hlt
      split
      · exact ⟨by simp, fun t ht => by cases ht⟩
      · split
        · exact ⟨by simp, fun t ht => by cases ht⟩
        · rename_i hne
          have hsz := tok_size s i h0 hlt
          obtain ⟨g0, g1⟩ := gap_bounds s (i + (tokF s i).1.2.1.size) (by omega) (by omega)
          refine scan_go s n _ _ (by omega) g1 (by rw [List.length_append]; simp; omega) (fun t ht => ?_)
          rcases List.mem_append.1 ht with ht | ht
          · exact h2 t ht
          · rw [List.mem_singleton] at ht
            subst ht
            have hat : (tokF s i).1.2.2 = i := by unfold tokF; simp only; split <;> (try split) <;> rfl
            rw [hat]
            exact ⟨h0, by omega, by omega⟩
    · exact ⟨h1, h2⟩
theorem scan_facts {s : ByteArray} (h : (scanF s).2.2 = 0) : s.size ≤ 2500 ∧ (scanF s).1.length ≤ 900 ∧ ∀ t ∈ (scanF s).1, 0 ≤ t.2.2 ∧ t.2.2 ≤ s.size ∧ t.2.1.size ≤ s.size := by
  unfold scanF at h ⊢
  simp only at h ⊢
  by_cases hc : (chk s).2 = 0
  · rw [if_neg (fun e => e hc)] at h ⊢
    obtain ⟨g0, g1⟩ := gap_bounds s 0 (by omega) (by omega)
    exact ⟨chk_small hc, scan_go s _ _ [] g0 g1 (by simp) (fun t ht => by cases ht)⟩
  · rw [if_pos hc] at h
    exact absurd h hc
theorem resc_e1 {s : ByteArray} {x : Ed} (h : (scanF s).2.2 ≠ 0) : rescanF s x = ((0, 0, []), (scanF s).2.1, (scanF s).2.2) := by unfold rescanF; simp only; rw [if_pos h]
theorem resc_e2 {s : ByteArray} {x : Ed} (h : (scanF s).2.2 = 0) (he : isEditF s x = false) : rescanF s x = ((0, 0, []), 0, 3) := by unfold rescanF; simp only; rw [if_neg (fun e => e h), if_pos he]
theorem resc_e3 {s : ByteArray} {x : Ed} (h : (scanF s).2.2 = 0) (he : isEditF s x = true) (h2 : (scanF (nowF s x)).2.2 ≠ 0) : rescanF s x = ((0, 0, []), (scanF (nowF s x)).2.1, (scanF (nowF s x)).2.2) := by unfold rescanF; simp only; rw [if_neg (fun e => e h), if_neg (by rw [he]; simp), if_pos h2]
theorem resc_ok {s : ByteArray} {x : Ed} (h : (scanF s).2.2 = 0) (he : isEditF s x = true) (h2 : (scanF (nowF s x)).2.2 = 0) :
    rescanF s x = ((((hdT x.1 (scanF s).1 (scanF (nowF s x)).1 : Nat) : Int), ((tlT x.2.1 ((x.2.2.size : Int) - (x.2.1 - x.1)) (scanF s).1.reverse (scanF (nowF s x)).1.reverse : Nat) : Int),
      ((scanF (nowF s x)).1.take ((scanF (nowF s x)).1.length - tlT x.2.1 ((x.2.2.size : Int) - (x.2.1 - x.1)) (scanF s).1.reverse (scanF (nowF s x)).1.reverse)).drop (hdT x.1 (scanF s).1 (scanF (nowF s x)).1)), 0, 0) := by
  unfold rescanF; simp only; rw [if_neg (fun e => e h), if_neg (by rw [he]; simp), if_neg (fun e => e h2)]
set_option maxHeartbeats 4000000 in
theorem ok33 (F : LexF) (hs : F.pB = fun s => s.size ≤ 281474976710656) (h : F.rescan = rescanF) (hsc : F.scan = scanF) (hsm : F.isSame = isSameF) (k1 : SpecOk prog 23 (S23 F)) (k2 : SpecOk prog 70 (S70 F)) : SpecOk prog 33 (S33 F) := by
  refine contract_by hm hE D33 fnok33 _ fun (z : ByteArray × Ed × Unit) hpre => ?_
  obtain ⟨s, x, ⟨⟩⟩ := z
  have hpre' : F.pB x.2.2 := hpre
  rw [hs] at hpre'
  obtain ⟨l, hl⟩ : ∃ l, l = (scanF s).1 := ⟨_, rfl⟩
  obtain ⟨m, hmm⟩ : ∃ m, m = (scanF (nowF s x)).1 := ⟨_, rfl⟩
  let I : Int × Unit → Prop := fun z => 0 ≤ z.1 ∧ z.1 ≤ (min l.length m.length : Nat) ∧ z.1.toNat + hdT x.1 (l.drop z.1.toNat) (m.drop z.1.toNat) = hdT x.1 l m
  let mu : Int × Unit → Nat := fun z => (((min l.length m.length : Nat) : Int) - z.1).toNat
  let J : Int × Unit → Prop := fun z => 0 ≤ z.1 ∧ z.1 ≤ (min l.length m.length : Nat) - (hdT x.1 l m : Int) ∧ z.1.toNat + tlT x.2.1 ((x.2.2.size : Int) - (x.2.1 - x.1)) (l.reverse.drop z.1.toNat) (m.reverse.drop z.1.toNat) = tlT x.2.1 ((x.2.2.size : Int) - (x.2.1 - x.1)) l.reverse m.reverse
  let nu : Int × Unit → Nat := fun z => (((min l.length m.length : Nat) : Int) - z.1).toNat
  refine pack _ 0 (a33 Lv.std I mu J nu) (only_ok (F := F) (l := [23, 69, 70]) (by simp only [List.forall_mem_cons]; exact ⟨at_ok k1 (by kernel_rfl), at_x x69 (by kernel_rfl), at_ok k2 (by kernel_rfl), fun _ h => by cases h⟩)) ?_
  refine n33_go Lv.std F I mu J nu s x ?_
  have hnow : s.extract (0 : Int).toNat x.1.toNat ++ x.2.2 ++ s.extract x.2.1.toNat s.size = nowF s x := rfl
  simp only [n33, VC.holds, std_cmp, std_scmp, std_ar_add, std_ar_sub, std_ar_mul, std_ar, std_dv, std_shf, std_conv, std_mn, std_mx, std_beq, std_bnot, std_band, std_scat, std_byte, std_ext, std_slen, std_strOf, std_bytes, std_llen, std_get, std_setl, std_app, std_take, std_drop, std_rep, std_mhas, std_mval, std_mput, std_cast, std_toN, std_sub, std_add, std_inR, std_le3, std_leN, std_ltN, std_ne0, std_nonneg, std_catOk, std_room, std_mkOk, cmp_lss_t, cmp_lss_f, cmp_leq_t, cmp_leq_f, cmp_gtr_t, cmp_gtr_f, cmp_geq_t, cmp_geq_f, cmp_eql_t, cmp_eql_f, cmp_neq_t, cmp_neq_f, scmp_eql_t, scmp_eql_f, scmp_neq_t, scmp_neq_f, dflt_int, dflt_bool, dflt_str, dflt_sl, dflt_pair, h, hsc, hsm, nc0, Int.toNat_natCast, hnow, ← hl, ← hmm, Prod.mk.injEq, and_true, true_and]
  obtain ⟨H, hH⟩ : ∃ H, H = hdT x.1 l m := ⟨_, rfl⟩
  obtain ⟨T, hT⟩ : ∃ T, T = tlT x.2.1 ((x.2.2.size : Int) - (x.2.1 - x.1)) l.reverse m.reverse := ⟨_, rfl⟩
  have mkI : ∀ k : Nat, k ≤ min l.length m.length → k + hdT x.1 (l.drop k) (m.drop k) = H → I ((k : Int), ()) := fun k h1 h2 =>
    ⟨by show (0 : Int) ≤ (k : Int); omega, by show (k : Int) ≤ (min l.length m.length : Nat); omega, by show (k : Int).toNat + hdT x.1 (l.drop (k : Int).toNat) (m.drop (k : Int).toNat) = _; rw [Int.toNat_natCast, h2, hH]⟩
  have mkJ : ∀ k : Nat, k + H ≤ min l.length m.length → k + tlT x.2.1 ((x.2.2.size : Int) - (x.2.1 - x.1)) (l.reverse.drop k) (m.reverse.drop k) = T → J ((k : Int), ()) := fun k h1 h2 =>
    ⟨by show (0 : Int) ≤ (k : Int); omega, by show (k : Int) ≤ (min l.length m.length : Nat) - (hdT x.1 l m : Int); rw [← hH]; omega, by show (k : Int).toNat + tlT _ _ (l.reverse.drop (k : Int).toNat) (m.reverse.drop (k : Int).toNat) = _; rw [Int.toNat_natCast, h2, hT]⟩
  have I0 : I (0, ()) := mkI 0 (Nat.zero_le _) (by rw [List.drop_zero, List.drop_zero, Nat.zero_add, hH])
  refine ⟨fun e1 => ?_, fun e1 => ⟨fun e2 => ?_, fun e2 => ⟨fun e3 => ?_, fun e3 => ⟨fun e4 => ?_, fun e4 => ?_⟩⟩⟩⟩
  · rw [resc_e1 e1]; exact ⟨rfl, rfl, rfl⟩
  · rw [resc_e2 e1 (by unfold isEditF; rw [decide_eq_false (p := 0 ≤ x.1) (by omega)]; rfl)]; exact ⟨rfl, rfl, rfl⟩
  · rw [resc_e2 e1 (by unfold isEditF; rw [decide_eq_false (p := x.1 ≤ x.2.1) (by omega), Bool.and_false, Bool.false_and])]; exact ⟨rfl, rfl, rfl⟩
  · rw [resc_e2 e1 (by unfold isEditF; rw [decide_eq_false (p := x.2.1 ≤ s.size) (by omega), Bool.and_false])]; exact ⟨rfl, rfl, rfl⟩
  have hed : isEditF s x = true := by unfold isEditF; rw [decide_eq_true e2, decide_eq_true e3, decide_eq_true e4]; rfl
  obtain ⟨z1, z2, z3⟩ := scan_facts e1
  have y1 := ext_size s (0 : Int).toNat x.1.toNat
  have y2 := ext_size s x.2.1.toNat s.size
  refine ⟨⟨Int.le_refl 0, e2, by omega⟩, by omega, ⟨by omega, e4, Int.le_refl _⟩, by rw [app_size]; omega, fun e5 => ?_, fun e5 => ⟨I0, ?_⟩⟩
  · rw [resc_e3 e1 hed e5]; exact ⟨rfl, rfl, rfl⟩
  obtain ⟨v1, v2, v3⟩ := scan_facts e5
  have hok := resc_ok e1 hed e5
  rw [← hl, ← hmm, ← hH, ← hT] at hok
  rw [← hl] at z2 z3
  rw [← hmm] at v2 v3
  have hHle := hdT_le x.1 l m
  have hTle := tlT_sum x.1 x.2.1 x.2.2.size e3 l m
  rw [← hH] at hHle
  rw [← hH, ← hT] at hTle
  have hno := no_overlap x.1 x.2.1 x.2.2.size e3 l m
  rw [← hH] at hno
  have J0 : J (0, ()) := mkJ 0 (by omega) (by rw [List.drop_zero, List.drop_zero, Nat.zero_add, hT])
  have unJ : ∀ z, J z → 0 ≤ z.1 ∧ z.1 + H ≤ (min l.length m.length : Nat) ∧ z.1.toNat + tlT x.2.1 ((x.2.2.size : Int) - (x.2.1 - x.1)) (l.reverse.drop z.1.toNat) (m.reverse.drop z.1.toNat) = T := fun z hz => by
    obtain ⟨a1, a2, a3⟩ := hz
    rw [← hT] at a3
    rw [← hH] at a2
    exact ⟨a1, by omega, a3⟩
  have hstep := hdT_drop x.1 l m
  have hend := hdT_end x.1 l m
  have tstep := tlT_drop x.2.1 ((x.2.2.size : Int) - (x.2.1 - x.1)) l m
  have tend := tlT_end x.2.1 ((x.2.2.size : Int) - (x.2.1 - x.1)) l m
  have hfin : ∀ j : Int, j = T → (0 ≤ (H : Int) ∧ (H : Int) ≤ IntKind.i64.wrap ((m.length : Int) - j) ∧ IntKind.i64.wrap ((m.length : Int) - j) ≤ m.length) ∧
      ((([] : List Lx).length + (List.drop H (List.take (IntKind.i64.wrap ((m.length : Int) - j)).toNat m)).length ≤ 140737488355328 ∧ (([] : List Lx).length + (List.drop H (List.take (IntKind.i64.wrap ((m.length : Int) - j)).toNat m)).length) * 32 ≤ 140737488355328) ∧
      ((H : Int), j, List.take (([] : List Lx).length + (List.drop H (List.take (IntKind.i64.wrap ((m.length : Int) - j)).toNat m)).length) (([] : List Lx) ++ List.drop H (List.take (IntKind.i64.wrap ((m.length : Int) - j)).toNat m))) = (rescanF s x).1 ∧ 0 = (rescanF s x).2.1 ∧ 0 = (rescanF s x).2.2) := fun j hj => by
    subst hj
    have ew : IntKind.i64.wrap ((m.length : Int) - T) = (m.length : Int) - T := wrap_i64 (by omega) (by omega)
    rw [ew, show ((m.length : Int) - T).toNat = m.length - T by omega, hok]
    have hlen : (List.drop H (List.take (m.length - T) m)).length ≤ 900 := by rw [List.length_drop, List.length_take]; omega
    refine ⟨⟨by omega, by omega, by omega⟩, ⟨by simp only [List.length_nil]; omega, by simp only [List.length_nil]; omega⟩, ?_, rfl, rfl⟩
    rw [List.nil_append, List.length_nil, Nat.zero_add, List.take_length]
  clear hok
  rintro ⟨i, _⟩ ⟨i0, i1, i2⟩
  simp only at i0 i1 i2 ⊢
  rw [← hH] at i2
  obtain ⟨k, rfl⟩ : ∃ k : Nat, i = k := ⟨i.toNat, by omega⟩
  rw [Int.toNat_natCast] at i2
  have ewi : IntKind.i64.wrap ((k : Int) + 1) = (k : Int) + 1 := wrap_i64 (by omega) (by omega)
  simp only [ewi, Int.toNat_natCast]
  clear hH hT hpre hl hmm I0
  refine ⟨fun hlt => ⟨⟨by omega, by omega⟩, fun hat => ⟨⟨by omega, by omega⟩, ⟨by omega, by omega⟩, fun heq => ?_, fun hne => ?_⟩, fun hat => ?_⟩, fun hge => ?_⟩
  · have hk1 : k < l.length := by omega
    have hk2 : k < m.length := by omega
    simp only [List.getElem?_eq_getElem hk1, List.getElem?_eq_getElem hk2, Option.getD_some, Bool.and_eq_true, cmp_eql_t, scmp_eql_t, and_true] at heq hat
    have e := hstep k hk1 hk2
    rw [if_pos ⟨hat, (lx_eq _ _).2 heq⟩] at e
    refine ⟨?_, by show (((min l.length m.length : Nat) : Int) - ((k : Int) + 1)).toNat < (((min l.length m.length : Nat) : Int) - k).toNat; omega⟩
    rw [show (k : Int) + 1 = ((k + 1 : Nat) : Int) from rfl]
    exact mkI (k + 1) (by omega) (by omega)
  all_goals
    have hkH : k = H := by
      first
        | (have hk1 : k < l.length := by omega
           have hk2 : k < m.length := by omega
           simp only [List.getElem?_eq_getElem hk1, List.getElem?_eq_getElem hk2, Option.getD_some] at hne
           have e := hstep k hk1 hk2
           rw [if_neg (fun hc => by
             have hc2 := (lx_eq _ _).1 hc.2
             have : (VM.compare BinOp.eql l[k].1 m[k].1 && (scompare BinOp.eql l[k].2.1 m[k].2.1 && (VM.compare BinOp.eql l[k].2.2 m[k].2.2 && true))) = true := by simp only [Bool.and_eq_true, cmp_eql_t, scmp_eql_t, and_true]; exact hc2
             rw [this] at hne; cases hne)] at e
           omega)
        | (have hk1 : k < l.length := by omega
           have hk2 : k < m.length := by omega
           simp only [List.getElem?_eq_getElem hk1, Option.getD_some] at hat
           have e := hstep k hk1 hk2
           rw [if_neg (fun hc => by have := hc.1; omega)] at e
           omega)
        | (have e := hend k (by omega)
           omega)
    subst hkH
    refine ⟨J0, ?_⟩
    clear J0 i2 hstep hend
    rintro ⟨j, _⟩ hJ
    obtain ⟨j0, j1, j2⟩ := unJ _ hJ
    clear hJ
    simp only at j0 j1 j2 ⊢
    obtain ⟨n, rfl⟩ : ∃ n : Nat, j = n := ⟨j.toNat, by omega⟩
    rw [Int.toNat_natCast] at j2
    have e1 : IntKind.i64.wrap (min (l.length : Int) (m.length : Int) - k) = min (l.length : Int) (m.length : Int) - k := wrap_i64 (by omega) (by omega)
    have e2 : IntKind.i64.wrap ((l.length : Int) - 1) = (l.length : Int) - 1 := wrap_i64 (by omega) (by omega)
    have e3 : IntKind.i64.wrap ((m.length : Int) - 1) = (m.length : Int) - 1 := wrap_i64 (by omega) (by omega)
    have e4 : IntKind.i64.wrap ((l.length : Int) - 1 - n) = (l.length : Int) - 1 - n := wrap_i64 (by omega) (by omega)
    have e5 : IntKind.i64.wrap ((m.length : Int) - 1 - n) = (m.length : Int) - 1 - n := wrap_i64 (by omega) (by omega)
    have e6 : IntKind.i64.wrap (x.2.1 - x.1) = x.2.1 - x.1 := wrap_i64 (by omega) (by omega)
    have e7 : IntKind.i64.wrap ((x.2.2.size : Int) - (x.2.1 - x.1)) = (x.2.2.size : Int) - (x.2.1 - x.1) := wrap_i64 (by omega) (by omega)
    have e8 : IntKind.i64.wrap ((n : Int) + 1) = (n : Int) + 1 := wrap_i64 (by omega) (by omega)
    simp only [e1, e2, e3, e4, e5, e6, e7, e8]
    clear e1 e2 e3 e4 e5 e6 e7 e8
    refine ⟨fun l1 => ?_, fun g1 => ?_⟩
    · have hn1 : n < l.length := by omega
      have hn2 : n < m.length := by omega
      have t1 : ((l.length : Int) - 1 - n).toNat = l.length - 1 - n := by omega
      have t2 : ((m.length : Int) - 1 - n).toNat = m.length - 1 - n := by omega
      have hi1 : l.length - 1 - n < l.length := by omega
      have hi2 : m.length - 1 - n < m.length := by omega
      simp only [t1, t2, List.getElem?_eq_getElem hi1, List.getElem?_eq_getElem hi2, Option.getD_some]
      have e := tstep n hn1 hn2
      have hb := z3 _ (List.getElem_mem hi1)
      have ea : IntKind.i64.wrap (l[l.length - 1 - n].2.2 + ((x.2.2.size : Int) - (x.2.1 - x.1))) = l[l.length - 1 - n].2.2 + ((x.2.2.size : Int) - (x.2.1 - x.1)) := wrap_i64 (by omega) (by omega)
      have hsame : isSameF (l[l.length - 1 - n].1, l[l.length - 1 - n].2.1, l[l.length - 1 - n].2.2) (m[m.length - 1 - n].1, m[m.length - 1 - n].2.1, m[m.length - 1 - n].2.2) ((x.2.2.size : Int) - (x.2.1 - x.1)) = true ↔ l[l.length - 1 - n].1 = m[m.length - 1 - n].1 ∧ l[l.length - 1 - n].2.1 = m[m.length - 1 - n].2.1 ∧ m[m.length - 1 - n].2.2 = l[l.length - 1 - n].2.2 + ((x.2.2.size : Int) - (x.2.1 - x.1)) := by
        unfold isSameF
        simp only [ea, Bool.and_eq_true, decide_eq_true_eq]
        constructor
        · rintro ⟨a1, a2, a3⟩; exact ⟨a1, a2, a3.symm⟩
        · rintro ⟨a1, a2, a3⟩; exact ⟨a1, a2, a3.symm⟩
      refine ⟨⟨by omega, by omega⟩, fun hto => ⟨⟨by omega, by omega⟩, ⟨by omega, by omega⟩, fun hS => ?_, fun hS => ?_⟩, fun hto => ?_⟩
      · rw [if_pos ⟨hto, hsame.1 hS⟩] at e
        refine ⟨?_, by show (((min l.length m.length : Nat) : Int) - ((n : Int) + 1)).toNat < (((min l.length m.length : Nat) : Int) - n).toNat; omega⟩
        rw [show (n : Int) + 1 = ((n + 1 : Nat) : Int) from rfl]
        exact mkJ (n + 1) (by omega) (by omega)
      · rw [if_neg (fun hc => by rw [hsame.2 hc.2] at hS; cases hS)] at e
        exact hfin n (by omega)
      · rw [if_neg (fun hc => by have := hc.1; omega)] at e
        exact hfin n (by omega)
    · by_cases hb : n < l.length ∧ n < m.length
      · have e := tstep n hb.1 hb.2
        rw [if_neg (hno n hb.1 hb.2 (by omega))] at e
        exact hfin n (by omega)
      · have e := tend n (by omega)
        exact hfin n (by omega)
end Go.Proofs.Tryd
