/- What functions of the weak memory compute, proved through the condition generator, and plain facts of it. Conditions: none of ours. -/
import Derived.Test.YthfjgaifdadgnaaGreatK11
set_option autoImplicit false
set_option linter.all false
namespace Go.Proofs.Tryz
open Go Go.VM
set_option maxRecDepth 100000
def a146 (L : Lv) (I : Nat → Ds [It] → Prop) (mu : Ds [It] → Nat) : Nat → Option IAnn
  | 0 => anY L [0, 1, 3] [] [.s 3 It] I mu
  | _ => none
def a101 (L : Lv) (I : Nat → Ds [] → Prop) : Nat → LAnn
  | 0 => anR L [3, 5, 6] [] [] I
  | _ => .no
def a55 (L : Lv) (I : Ds [It] → Prop) (mu : Ds [It] → Nat) : Nat → LAnn
  | 0 => anH L [2, 3, 7, 8] [] [.s 8 It] I mu
  | _ => .no
def i146 (L : Lv) (F : BxF) (I : Nat → Ds [It] → Prop) (mu : Ds [It] → Nat) (l : Nat) (s : List KpD)  : VC :=
 let z1 := Lv.cast L (Lv.llen L Kp s);
 let z2 := Lv.ar L BinOp.sub IntKind.i64 z1 1;
 let z3 := Int × (Int × Int) × Unit; VC.obl (St.mk 19 [(0, V.c (C.yld l)), (1, V.ipt [C.sl Kp s]), (3, V.c (C.int IntKind.i64 z2))] [(0, Ob.amb)] 1 = St.mk 19 [(0, V.c (C.yld l)),
   (1, V.ipt [C.sl Kp s]), (3, V.c (C.int IntKind.i64 z2))] [(0, Ob.amb)] 1) (VC.obl (I 0 (Lv.ar L BinOp.sub IntKind.i64 z1 1, ())) (VC.all (Int × Unit) fun (v1 : Int × Unit) =>
 let z4 := Prod.fst v1;
 let z5 := Lv.get L Kp s (Lv.toN L z4);
 let z6 := Lv.ar L BinOp.sub IntKind.i64 z4 1;
 let z7 := (Lv.ar L BinOp.sub IntKind.i64 z4 1, ()); VC.all Nat fun (v2 : Nat) => VC.imp (I v2 v1) (VC.br (Lv.cmp L BinOp.geq z4 0) (VC.obl (Lv.inR L z4 (Lv.llen L Kp s)) (VC.obl (l
   = l) (VC.obl (Lv.nth L z3 (BxF.back F s) v2 (Prod.fst v1, (Prod.fst z5, Prod.snd z5), ())) (VC.all Bool fun (v3 : Bool) => VC.br v3 (VC.ok (St.mk 19 [(0, V.c (C.yld l)), (1,
   V.ipt [C.sl Kp s]), (3, V.c (C.int IntKind.i64 z6))] [(0, Ob.amb)] 1 = St.mk 19 [(0, V.c (C.yld l)), (1, V.ipt [C.sl Kp s]), (3, V.c (C.int IntKind.i64 z6))] [(0, Ob.amb)] 1 ∧ I
   (Nat.succ v2) z7 ∧ mu z7 < mu v1)) (VC.ok True))))) (VC.ok (v2 = Lv.cnt L z3 (BxF.back F s))))))
theorem i146_eq (L : Lv) (F : BxF) (I : Nat → Ds [It] → Prop) (mu : Ds [It] → Nat) (l : Nat) (s : List KpD) : iterVC L E01 (callG L E01 (only (bT F) []) 0) (spcOf (only (bT F) [])) (D146 a0).code (D146 a0).ntmps (D146 a0).pl (a146 L I mu) (I146 F) l (s, ()) = i146 L F I mu l s := by kernel_rfl
theorem i146_go (L : Lv) (F : BxF) (I : Nat → Ds [It] → Prop) (mu : Ds [It] → Nat) (l : Nat) (s : List KpD) (h : VC.holds (i146 L F I mu l s)) : Holds (iterVC L E01 (callG L E01 (only (bT F) []) 0) (spcOf (only (bT F) [])) (D146 a0).code (D146 a0).ntmps (D146 a0).pl (a146 L I mu) (I146 F) l (s, ())) := Holds.of_eq (i146_eq L F I mu l s) h
def n101 (L : Lv) (F : BxF) (I : Nat → Ds [] → Prop) (s : StD) (t : ThD) (p : Int)  : VC :=
 let z1 := Prod.snd (Prod.snd t);
 let z2 := Prod.fst z1;
 let z3 := Prod.fst s;
 let z4 := Prod.snd s;
 let z5 := Prod.fst t;
 let z6 := Prod.fst (Prod.snd t);
 let z7 := Prod.snd z1;
 let z8 := Prod.fst z7;
 let z9 := Prod.snd z7;
 let z10 := Int × (Int × Int) × Unit;
 let z11 := BxF.back F z2;
 let z12 := (BxF.sees F s t p, ()); VC.obl (BxF.pBack F z2) (VC.obl (St.mk 25 [(3, V.c (C.ptr 1 0)), (5, V.c (C.ptr 3 0)), (6, V.c (C.ptr 4 0))] [(0, Ob.amb), (1, Ob.box 59 [C.sl It
   z3, C.sl Th z4]), (2, Ob.box 99 [C.int IntKind.i64 z5, C.sl It z6, C.sl Kp z2, C.sl It z8, C.sym z9]), (3, Ob.box 3 [C.int IntKind.i64 p]), (4, Ob.box 3 [C.int IntKind.i64 0])] 6
   = St.mk 25 [(3, V.c (C.ptr 1 0)), (5, V.c (C.ptr 3 0)), (6, V.c (C.ptr 4 0))] [(0, Ob.amb), (1, Ob.box 59 [C.sl It z3, C.sl Th z4]), (2, Ob.box 99 [C.int IntKind.i64 z5, C.sl It
   z6, C.sl Kp z2, C.sl It z8, C.sym z9]), (3, Ob.box 3 [C.int IntKind.i64 p]), (4, Ob.box 3 [C.int IntKind.i64 0])] 6) (VC.obl (I 0 ()) (VC.all Bool fun (v1 : Bool) => VC.br v1
   (VC.all Unit fun (v2 : Unit) => VC.all Nat fun (v3 : Nat) => VC.all z10 fun (v4 : Int × (Int × Int) × Unit) =>
 let z13 := Prod.fst (Prod.snd v4); VC.imp (Lv.nth L z10 z11 v3 v4 ∧ I v3 v2) (VC.br (Lv.cmp L BinOp.eql (Prod.fst z13) p) (VC.ok ((Prod.snd z13, ()) = z12)) (VC.ok (St.mk 25 [(3,
   V.c (C.ptr 1 0)), (5, V.c (C.ptr 3 0)), (6, V.c (C.ptr 4 0))] [(0, Ob.amb), (1, Ob.box 59 [C.sl It z3, C.sl Th z4]), (2, Ob.box 99 [C.int IntKind.i64 z5, C.sl It z6, C.sl Kp z2,
   C.sl It z8, C.sym z9]), (3, Ob.box 3 [C.int IntKind.i64 p]), (4, Ob.box 3 [C.int IntKind.i64 0])] 6 = St.mk 25 [(3, V.c (C.ptr 1 0)), (5, V.c (C.ptr 3 0)), (6, V.c (C.ptr 4 0))]
   [(0, Ob.amb), (1, Ob.box 59 [C.sl It z3, C.sl Th z4]), (2, Ob.box 99 [C.int IntKind.i64 z5, C.sl It z6, C.sl Kp z2, C.sl It z8, C.sym z9]), (3, Ob.box 3 [C.int IntKind.i64 p]),
   (4, Ob.box 3 [C.int IntKind.i64 0])] 6 ∧ I (Nat.succ v3) ())))) (VC.all Unit fun (v5 : Unit) => VC.imp (I (Lv.cnt L z10 z11) v5) (VC.obl (Lv.inR L p (Lv.llen L It z3)) (VC.ok
   ((Lv.get L It z3 (Lv.toN L p), ()) = z12)))))))
theorem n101_eq (L : Lv) (F : BxF) (I : Nat → Ds [] → Prop) (s : StD) (t : ThD) (p : Int) : vcB L F [129, 146] (D101 (a101 L I)) (S101 F) (s, t, p, ()) = n101 L F I s t p := by kernel_rfl
theorem n101_go (L : Lv) (F : BxF) (I : Nat → Ds [] → Prop) (s : StD) (t : ThD) (p : Int) (h : VC.holds (n101 L F I s t p)) : Holds (vcB L F [129, 146] (D101 (a101 L I)) (S101 F) (s, t, p, ())) := Holds.of_eq (n101_eq L F I s t p) h
def kpAt (l : List KpD) (j : Nat) : KpD := (l[j]?).getD (0, 0)
def lkF (l : List KpD) (p : Int) : Nat → Option Int
  | 0 => none
  | j + 1 => if (kpAt l j).1 = p then some (kpAt l j).2 else lkF l p j
def backF (l : List KpD) : List (Int × KpD × Unit) := (List.range l.length).map fun j => (((l.length - 1 - j : Nat) : Int), kpAt l (l.length - 1 - j), ())
def seesF (s : StD) (t : ThD) (p : Int) : Int := match lkF t.2.2.1 p t.2.2.1.length with
  | some v => v
  | none => regF s.1 p
def thAt (s : StD) (t : Int) : ThD := (s.2[t.toNat]?).getD (0, [], [], [], false)
theorem backF_len (l : List KpD) : (backF l).length = l.length := by simp [backF]
theorem backF_at (l : List KpD) (j : Nat) (h : j < l.length) : (backF l)[j]? = some (((l.length - 1 - j : Nat) : Int), kpAt l (l.length - 1 - j), ()) := by
  simp [backF, h]
theorem ok146 (F : BxF) (h : F.back = backF) (hp : F.pBack = fun l => l.length ≤ 1000000) : ItOk prog 146 (I146 F) := by
  let I : List KpD → Nat → Int × Unit → Prop := fun s j x => j ≤ s.length ∧ x.1 = (s.length : Int) - 1 - j
  let mu : Int × Unit → Nat := fun x => (x.1 + 1).toNat
  refine iter_by hm hE (fnok146 a0) rfl (I146 F) rfl (fns := only (bT F) []) (only_tab tb_nil) 0 (fun x => a146 Lv.std (I x.1) mu) ?_
  rintro l ⟨s, ⟨⟩⟩ hpre
  have hsz : s.length ≤ 1000000 := by have := hpre; simp only [I146, hp] at this; exact this
  refine i146_go Lv.std F (I s) mu l s ?_
  simp only [i146, VC.holds, std_cmp, std_scmp, std_ar_add, std_ar_sub, std_ar_mul, std_ar, std_dv, std_shf, std_conv, std_mn, std_mx, std_beq, std_bnot, std_band, std_scat, std_byte, std_ext, std_slen, std_strOf, std_bytes, std_llen, std_get, std_setl, std_app, std_take, std_drop, std_rep, std_mhas, std_mval, std_mput, std_cast, std_toN, std_sub, std_add, std_inR, std_le3, std_leN, std_ltN, std_ne0, std_nonneg, std_catOk, std_room, std_mkOk, std_nth, std_cnt, cmp_lss_t, cmp_lss_f, cmp_leq_t, cmp_leq_f, cmp_gtr_t, cmp_gtr_f, cmp_geq_t, cmp_geq_f, cmp_eql_t, cmp_eql_f, cmp_neq_t, cmp_neq_f, scmp_eql_t, scmp_eql_f, scmp_neq_t, scmp_neq_f, dflt_int, dflt_bool, dflt_str, dflt_sl, dflt_pair, h, Prod.mk.injEq, and_true, true_and]
  have e0 : IntKind.i64.wrap ((s.length : Int) - 1) = (s.length : Int) - 1 := wrap_i64 (by omega) (by omega)
  refine ⟨⟨Nat.zero_le _, by show IntKind.i64.wrap ((s.length : Int) - 1) = (s.length : Int) - 1 - (0 : Nat); rw [e0]; omega⟩, ?_⟩
  rintro ⟨x, ⟨⟩⟩ j ⟨i1, i2⟩
  simp only at i2 ⊢
  refine ⟨fun hx => ?_, fun hx => ?_⟩
  · have hj : j < s.length := by omega
    have e1 : IntKind.i64.wrap (x - 1) = x - 1 := wrap_i64 (by omega) (by omega)
    have e2 : x.toNat = s.length - 1 - j := by omega
    rw [e1]
    refine ⟨⟨hx, by omega⟩, ?_, fun b => ⟨fun _ => ⟨⟨hj, by show x - 1 = (s.length : Int) - 1 - ((j + 1 : Nat) : Int); omega⟩, by show (x - 1 + 1).toNat < (x + 1).toNat; omega⟩, fun _ => trivial⟩⟩
    rw [backF_at s j hj, e2]
    have : (((s.length - 1 - j : Nat) : Int)) = x := by omega
    rw [this]; rfl
  · rw [backF_len]; omega
theorem ok101 (F : BxF) (hb : F.back = backF) (hpb : F.pBack = fun l => l.length ≤ 1000000) (h : F.sees = seesF) (hp : F.pSees = fun s t p => inReg s.1 p ∧ t.2.2.1.length ≤ 1000000) (k : ItOk prog 146 (I146 F)) : SpecOk prog 101 (S101 F) := by
  refine contract_by hm hE D101 fnok101 _ fun (z : StD × ThD × Int × Unit) hpre => ?_
  obtain ⟨s, t, p, ⟨⟩⟩ := z
  have hpre' : F.pSees s t p := hpre
  rw [hp] at hpre'
  obtain ⟨hr, hl⟩ := hpre'
  have hr' : 0 ≤ p ∧ p < s.1.length := hr
  let I : Nat → Unit → Prop := fun j _ => j ≤ t.2.2.1.length ∧ lkF t.2.2.1 p t.2.2.1.length = lkF t.2.2.1 p (t.2.2.1.length - j)
  refine pack _ 3 (a101 Lv.std I) (only_tab (T := bT F) (l := [129, 146]) (tb_cons (tb_d (fnok129 a0) (by kernel_rfl)) (tb_cons (tb_it k (by kernel_rfl)) tb_nil))) ?_
  refine n101_go Lv.std F I s t p ?_
  simp only [n101, VC.holds, std_cmp, std_scmp, std_ar_add, std_ar_sub, std_ar_mul, std_ar, std_dv, std_shf, std_conv, std_mn, std_mx, std_beq, std_bnot, std_band, std_scat, std_byte, std_ext, std_slen, std_strOf, std_bytes, std_llen, std_get, std_setl, std_app, std_take, std_drop, std_rep, std_mhas, std_mval, std_mput, std_cast, std_toN, std_sub, std_add, std_inR, std_le3, std_leN, std_ltN, std_ne0, std_nonneg, std_catOk, std_room, std_mkOk, std_nth, std_cnt, cmp_lss_t, cmp_lss_f, cmp_leq_t, cmp_leq_f, cmp_gtr_t, cmp_gtr_f, cmp_geq_t, cmp_geq_f, cmp_eql_t, cmp_eql_f, cmp_neq_t, cmp_neq_f, scmp_eql_t, scmp_eql_f, scmp_neq_t, scmp_neq_f, dflt_int, dflt_bool, dflt_str, dflt_sl, dflt_pair, hb, hpb, h, Prod.mk.injEq, and_true, true_and]
  refine ⟨hl, ⟨Nat.zero_le _, rfl⟩, fun b => ⟨fun _ => ?_, fun _ => ?_⟩⟩
  · rintro ⟨⟩ j ⟨y1, y2, ⟨⟩⟩ ⟨g1, g2, g3⟩
    have hj : j < t.2.2.1.length := by
      have := (List.getElem?_eq_some_iff.1 g1).1
      rwa [backF_len] at this
    rw [backF_at _ j hj] at g1
    simp only [Option.some.injEq, Prod.mk.injEq, and_true] at g1
    obtain ⟨_, rfl⟩ := g1
    have es : t.2.2.1.length - j = (t.2.2.1.length - 1 - j) + 1 := by omega
    rw [es, lkF] at g3
    refine ⟨fun hq => ?_, fun hq => ⟨hj, ?_⟩⟩
    · rw [if_pos hq] at g3
      simp only [seesF, g3]
    · rw [if_neg hq] at g3
      rw [show t.2.2.1.length - (j + 1) = t.2.2.1.length - 1 - j by omega]; exact g3
  · rintro ⟨⟩ ⟨g2, g3⟩
    rw [backF_len, Nat.sub_self, lkF] at g3
    refine ⟨hr', ?_⟩
    simp only [seesF, g3, regF]
end Go.Proofs.Tryz
set_option autoImplicit false
set_option linter.all false
namespace Go.Proofs.Tryz
open Go Go.VM
set_option maxRecDepth 100000
def n77 (L : Lv) (F : BxF) (I : Ds [It] → Prop) (mu : Ds [It] → Nat) (s : ByteArray) (c : Int)  : VC :=
 VC.obl
 (St.mk 17 [(0, V.c (C.str s)), (1, V.c (C.int IntKind.u8 c)), (5, V.c (C.int IntKind.i64 0))] [(0, Ob.amb)] 1 =
 St.mk 17 [(0, V.c (C.str s)), (1, V.c (C.int IntKind.u8 c)), (5, V.c (C.int IntKind.i64 0))] [(0, Ob.amb)] 1)
 (VC.obl (I (0, ()))
 (VC.all (Int × Unit) fun (x : Int × Unit) =>
 VC.imp (I x)
 (VC.br (Lv.cmp L BinOp.lss (Prod.fst x) (Lv.cast L (Lv.slen L s)))
 (VC.obl (Lv.inR L (Prod.fst x) (Lv.slen L s))
 (VC.br (Lv.cmp L BinOp.eql (Lv.byte L s (Prod.fst x)) c) (VC.ok ((true, ()) = (BxF.has F s c, ())))
 (VC.ok
 (St.mk 17 [(0, V.c (C.str s)), (1, V.c (C.int IntKind.u8 c)), (5, V.c (C.int IntKind.i64 (Lv.ar L BinOp.add IntKind.i64 (Prod.fst x) 1)))] [(0, Ob.amb)] 1 =
 St.mk 17 [(0, V.c (C.str s)), (1, V.c (C.int IntKind.u8 c)), (5, V.c (C.int IntKind.i64 (Lv.ar L BinOp.add IntKind.i64 (Prod.fst x) 1)))] [(0, Ob.amb)] 1 ∧
 I (Lv.ar L BinOp.add IntKind.i64 (Prod.fst x) 1, ()) ∧ mu (Lv.ar L BinOp.add IntKind.i64 (Prod.fst x) 1, ()) < mu x))))
 (VC.ok ((false, ()) = (BxF.has F s c, ()))))))
theorem n77_eq (L : Lv) (F : BxF) (I : Ds [It] → Prop) (mu : Ds [It] → Nat) (s : ByteArray) (c : Int) : vcB L F [] (D77 (a77 L I mu)) (S77 F) (s, c, ()) = n77 L F I mu s c := by kernel_rfl
theorem n77_go (L : Lv) (F : BxF) (I : Ds [It] → Prop) (mu : Ds [It] → Nat) (s : ByteArray) (c : Int) (h : VC.holds (n77 L F I mu s c)) : Holds (vcB L F [] (D77 (a77 L I mu)) (S77 F) (s, c, ())) := Holds.of_eq (n77_eq L F I mu s c) h
def hN (s : ByteArray) (c : Int) : Nat → Bool
  | 0 => false
  | n + 1 => decide (byteAt s n = c) || hN s c n
def hasF (s : ByteArray) (c : Int) : Bool := hN s c s.size
theorem hN_at (s : ByteArray) (c : Int) (k : Nat) (h : byteAt s k = c) : ∀ n, k < n → hN s c n = true
  | 0, hk => by omega
  | n + 1, hk => by
    rw [hN]
    by_cases e : k = n
    · subst e; simp [h]
    · rw [hN_at s c k h n (by omega)]; simp
theorem ok77 (F : BxF) (h : F.has = hasF) (hp : F.pHas = fun s => s.size ≤ 1000000) : SpecOk prog 77 (S77 F) := by
  refine contract_by hm hE D77 fnok77 _ fun (z : ByteArray × Int × Unit) hpre => ?_
  obtain ⟨s, c, ⟨⟩⟩ := z
  have hpre' : F.pHas s := hpre
  rw [hp] at hpre'
  have hz : s.size ≤ 1000000 := hpre'
  let I : Int × Unit → Prop := fun x => 0 ≤ x.1 ∧ x.1 ≤ s.size ∧ hN s c x.1.toNat = false
  let mu : Int × Unit → Nat := fun x => ((s.size : Int) - x.1).toNat
  refine pack _ 3 (a77 Lv.std I mu) (only_tab (T := bT F) (l := []) tb_nil) ?_
  refine n77_go Lv.std F I mu s c ?_
  simp only [n77, VC.holds, std_cmp, std_scmp, std_ar_add, std_ar_sub, std_ar_mul, std_ar, std_dv, std_shf, std_conv, std_mn, std_mx, std_beq, std_bnot, std_band, std_scat, std_byte, std_ext, std_slen, std_strOf, std_bytes, std_llen, std_get, std_setl, std_app, std_take, std_drop, std_rep, std_mhas, std_mval, std_mput, std_cast, std_toN, std_sub, std_add, std_inR, std_le3, std_leN, std_ltN, std_ne0, std_nonneg, std_catOk, std_room, std_mkOk, std_nth, std_cnt, cmp_lss_t, cmp_lss_f, cmp_leq_t, cmp_leq_f, cmp_gtr_t, cmp_gtr_f, cmp_geq_t, cmp_geq_f, cmp_eql_t, cmp_eql_f, cmp_neq_t, cmp_neq_f, scmp_eql_t, scmp_eql_f, scmp_neq_t, scmp_neq_f, dflt_int, dflt_bool, dflt_str, dflt_sl, dflt_pair, h, Prod.mk.injEq, and_true, true_and]
  refine ⟨⟨Int.le_refl 0, by show (0 : Int) ≤ s.size; omega, rfl⟩, ?_⟩
  rintro ⟨x, ⟨⟩⟩ ⟨i1, i2, i3⟩
  simp only at i1 i2 i3 ⊢
  obtain ⟨k, rfl⟩ : ∃ k : Nat, x = k := ⟨x.toNat, by omega⟩
  rw [Int.toNat_natCast] at i3
  refine ⟨fun hlt => ⟨⟨by omega, hlt⟩, fun hb => ?_, fun hb => ?_⟩, fun hge => ?_⟩
  · exact (hN_at s c k hb s.size (by omega)).symm
  · have ew : IntKind.i64.wrap ((k : Int) + 1) = (k : Int) + 1 := wrap_i64 (by omega) (by omega)
    rw [ew]
    refine ⟨⟨by show (0 : Int) ≤ (k : Int) + 1; omega, by show (k : Int) + 1 ≤ _; omega, ?_⟩, by show ((s.size : Int) - ((k : Int) + 1)).toNat < ((s.size : Int) - k).toNat; omega⟩
    show hN s c ((k : Int) + 1).toNat = false
    rw [show ((k : Int) + 1).toNat = k + 1 by omega, hN, i3, decide_eq_false hb]; rfl
  · have : k = s.size := by omega
    subst this
    exact i3.symm
def fieldsF (b : Int) : ByteArray :=
  if b = 1 then ⟨#[65, 78]⟩ else if b = 2 ∨ b = 3 ∨ b = 4 ∨ b = 5 ∨ b = 6 ∨ b = 7 then ⟨#[65, 66, 67]⟩ else if b = 8 ∨ b = 9 then ⟨#[65, 66, 80]⟩
  else if b = 10 then ⟨#[65, 66, 67, 68, 80]⟩ else if b = 11 then ⟨#[45]⟩ else if b = 12 then ⟨#[66, 80]⟩ else if b = 13 then ⟨#[74]⟩ else if b = 14 then ⟨#[65, 74]⟩ else if b = 15 then ⟨#[65]⟩ else ByteArray.empty
def shapeF (b : Int) : Int × Bool :=
  if b = 1 then (17, true) else if b = 2 ∨ b = 3 ∨ b = 4 ∨ b = 5 ∨ b = 6 ∨ b = 7 then (7, true) else if b = 8 ∨ b = 9 then (35, true)
  else if b = 10 then (47, true) else if b = 11 then (0, true) else if b = 12 then (34, true) else if b = 13 then (64, true) else if b = 14 then (65, true) else if b = 15 then (1, true) else (0, false)
theorem ok120 (F : BxF) (h : F.shape = shapeF) : SpecOk prog 120 (S120 F) := by
  refine contract_by hm hE D120 fnok120 _ fun (z : Int × Unit) hpre => ?_
  obtain ⟨b, ⟨⟩⟩ := z
  refine pack _ 3 a0 (only_tab (T := bT F) (l := []) tb_nil) ?_
  refine n120_go Lv.std F b ?_
  simp only [n120, VC.holds, std_cmp, std_scmp, std_ar_add, std_ar_sub, std_ar_mul, std_ar, std_dv, std_shf, std_conv, std_mn, std_mx, std_beq, std_bnot, std_band, std_scat, std_byte, std_ext, std_slen, std_strOf, std_bytes, std_llen, std_get, std_setl, std_app, std_take, std_drop, std_rep, std_mhas, std_mval, std_mput, std_cast, std_toN, std_sub, std_add, std_inR, std_le3, std_leN, std_ltN, std_ne0, std_nonneg, std_catOk, std_room, std_mkOk, std_nth, std_cnt, cmp_lss_t, cmp_lss_f, cmp_leq_t, cmp_leq_f, cmp_gtr_t, cmp_gtr_f, cmp_geq_t, cmp_geq_f, cmp_eql_t, cmp_eql_f, cmp_neq_t, cmp_neq_f, scmp_eql_t, scmp_eql_f, scmp_neq_t, scmp_neq_f, dflt_int, dflt_bool, dflt_str, dflt_sl, dflt_pair, h, shapeF, Prod.mk.injEq, and_true, true_and]
  repeat' (first | apply And.intro | intro _)
  all_goals (first | trivial | (simp_all; done) | skip)
theorem ok78 (F : BxF) (h : F.fields = fieldsF) : SpecOk prog 78 (S78 F) := by
  refine contract_by hm hE D78 fnok78 _ fun (z : Int × Unit) hpre => ?_
  obtain ⟨b, ⟨⟩⟩ := z
  refine pack _ 3 a0 (only_tab (T := bT F) (l := []) tb_nil) ?_
  refine n78_go Lv.std F b ?_
  simp only [n78, VC.holds, std_cmp, std_scmp, std_ar_add, std_ar_sub, std_ar_mul, std_ar, std_dv, std_shf, std_conv, std_mn, std_mx, std_beq, std_bnot, std_band, std_scat, std_byte, std_ext, std_slen, std_strOf, std_bytes, std_llen, std_get, std_setl, std_app, std_take, std_drop, std_rep, std_mhas, std_mval, std_mput, std_cast, std_toN, std_sub, std_add, std_inR, std_le3, std_leN, std_ltN, std_ne0, std_nonneg, std_catOk, std_room, std_mkOk, std_nth, std_cnt, cmp_lss_t, cmp_lss_f, cmp_leq_t, cmp_leq_f, cmp_gtr_t, cmp_gtr_f, cmp_geq_t, cmp_geq_f, cmp_eql_t, cmp_eql_f, cmp_neq_t, cmp_neq_f, scmp_eql_t, scmp_eql_f, scmp_neq_t, scmp_neq_f, dflt_int, dflt_bool, dflt_str, dflt_sl, dflt_pair, h, fieldsF, Prod.mk.injEq, and_true, true_and]
  repeat' (first | apply And.intro | intro _)
  all_goals (first | trivial | (simp_all; done) | (simp_all; rfl) | skip)
end Go.Proofs.Tryz
set_option autoImplicit false
set_option linter.all false
namespace Go.Proofs.Tryz
open Go Go.VM
set_option maxRecDepth 100000
def a135 (L : Lv) (I : Nat → Ds [It] → Prop) (mu : Ds [It] → Nat) : Nat → Option IAnn
  | 0 => anY L [0, 1, 2, 7, 8, 9] [] [.s 9 It] I mu
  | _ => none
def n157 (L : Lv) (F : BxF) (m : McD) (s : StD) (t : ThD) (i : InD)  : VC :=
 let z1 := Prod.fst i;
 let z2 := (BxF.waits F m s t i, ());
 let z3 := Prod.snd (Prod.snd t);
 let z4 := Lv.cast L (Lv.llen L Kp (Prod.fst z3));
 let z5 := Lv.cmp L BinOp.gtr z4 0;
 let z6 := (Prod.fst s, Prod.snd s);
 let z7 := Prod.snd z3;
 let z8 := (Prod.fst t, Prod.fst (Prod.snd t), Prod.fst z3, Prod.fst z7, Prod.snd z7);
 let z9 := Prod.snd (Prod.snd i);
 let z10 := Prod.snd z9;
 let z11 := Prod.snd z10;
 let z12 := (Prod.fst i, Prod.fst (Prod.snd i), Prod.fst z9, Prod.fst z10, Prod.fst z11, Prod.snd z11);
 let z13 := BxF.place F z6 z8 z12;
 let z14 := Prod.fst z13; VC.br (Lv.cmp L BinOp.eql z1 9) (VC.br (Prod.snd m) (VC.ok ((false, ()) = z2)) (VC.br (Lv.cmp L BinOp.eql z4 (Prod.snd (Prod.snd (Prod.fst m)))) (VC.ok
   ((true, ()) = z2)) (VC.ok ((false, ()) = z2)))) (VC.br (Lv.cmp L BinOp.eql z1 10) (VC.br z5 (VC.ok ((true, ()) = z2)) (VC.ok ((false, ()) = z2))) (VC.br (Lv.cmp L BinOp.eql z1
   11) (VC.br z5 (VC.ok ((true, ()) = z2)) (VC.ok ((false, ()) = z2))) (VC.br (Lv.cmp L BinOp.eql z1 12) (VC.obl (BxF.pPlace F z6 z8 z12) (VC.br (Prod.snd z13) (VC.obl (BxF.pSees F
   z6 z8 z14) (VC.br (Lv.cmp L BinOp.eql (BxF.sees F z6 z8 z14) 0) (VC.ok ((true, ()) = z2)) (VC.ok ((false, ()) = z2)))) (VC.ok ((false, ()) = z2)))) (VC.ok ((false, ()) = z2)))))
theorem n157_eq (L : Lv) (F : BxF) (m : McD) (s : StD) (t : ThD) (i : InD) : vcB L F [101, 143] (D157 a0) (S157 F) (m, s, t, i, ()) = n157 L F m s t i := by kernel_rfl
theorem n157_go (L : Lv) (F : BxF) (m : McD) (s : StD) (t : ThD) (i : InD) (h : VC.holds (n157 L F m s t i)) : Holds (vcB L F [101, 143] (D157 a0) (S157 F) (m, s, t, i, ())) := Holds.of_eq (n157_eq L F m s t i) h
def n136 (L : Lv) (F : BxF) (m : McD) (s : StD) (k : Int)  : VC :=
 let z1 := Prod.snd (Prod.fst m);
 let z2 := Prod.fst z1;
 let z3 := Lv.get L Th (Prod.snd s) (Lv.toN L k);
 let z4 := Prod.snd z3;
 let z5 := Prod.snd z4;
 let z6 := Prod.snd z5;
 let z7 := (BxF.can F m s k, ());
 let z8 := Prod.fst z3;
 let z9 := Lv.get L (Ty.sl In) z2 (Lv.toN L k);
 let z10 := Lv.llen L In z9;
 let z11 := (Prod.fst (Prod.fst m), Prod.fst z1, Prod.snd z1);
 let z12 := (Prod.fst s, Prod.snd s);
 let z13 := (Prod.fst z3, Prod.fst z4, Prod.fst z5, Prod.fst z6, Prod.snd z6);
 let z14 := Lv.get L In z9 (Lv.toN L z8);
 let z15 := Prod.snd z14;
 let z16 := Prod.snd z15;
 let z17 := Prod.snd z16;
 let z18 := Prod.snd z17;
 let z19 := (Prod.fst z14, Prod.fst z15, Prod.fst z16, Prod.fst z17, Prod.fst z18, Prod.snd z18); VC.obl (Lv.inR L k (Lv.llen L Th (Prod.snd s))) (VC.obl (Lv.inR L k (Lv.llen L
   (Ty.sl In) z2)) (VC.br (Prod.snd z6) (VC.ok ((false, ()) = z7)) (VC.br (Lv.cmp L BinOp.lss z8 (Lv.cast L z10)) (VC.obl (Lv.inR L z8 z10) (VC.obl (BxF.pW F (z11, Prod.snd m) z12
   z13 z19) (VC.br (BxF.waits F (z11, Prod.snd m) z12 z13 z19) (VC.ok ((false, ()) = z7)) (VC.ok ((true, ()) = z7))))) (VC.ok ((false, ()) = z7)))))
theorem n136_eq (L : Lv) (F : BxF) (m : McD) (s : StD) (k : Int) : vcB L F [157] (D136 a0) (S136 F) (m, s, k, ()) = n136 L F m s k := by kernel_rfl
theorem n136_go (L : Lv) (F : BxF) (m : McD) (s : StD) (k : Int) (h : VC.holds (n136 L F m s k)) : Holds (vcB L F [157] (D136 a0) (S136 F) (m, s, k, ())) := Holds.of_eq (n136_eq L F m s k) h
def i135 (L : Lv) (F : BxF) (I : Nat → Ds [It] → Prop) (mu : Ds [It] → Nat) (l : Nat) (s : StD) (m : McD)  : VC :=
 let z1 := Prod.fst s;
 let z2 := Prod.snd s;
 let z3 := Prod.fst m;
 let z4 := Prod.fst z3;
 let z5 := Prod.snd z3;
 let z6 := Prod.fst z5;
 let z7 := Prod.snd z5;
 let z8 := Prod.snd m;
 let z9 := Lv.llen L Th z2;
 let z10 := Lv.cast L z9;
 let z11 := (Prod.fst z3, Prod.fst z5, Prod.snd z5);
 let z12 := (Prod.fst s, Prod.snd s);
 let z13 := Int × Bool;
 let z14 := BxF.each F s m; VC.obl (St.mk 37 [(0, V.c (C.yld l)), (1, V.ipt [C.sl It z1, C.sl Th z2]), (2, V.ipt [C.sl It z4, C.sl (Ty.sl In) z6, C.int IntKind.i64 z7, C.sym z8]),
   (7, V.c (C.sl Th z2)), (8, V.c (C.int IntKind.i64 z10)), (9, V.c (C.int IntKind.i64 0))] [(0, Ob.amb)] 1 = St.mk 37 [(0, V.c (C.yld l)), (1, V.ipt [C.sl It z1, C.sl Th z2]), (2,
   V.ipt [C.sl It z4, C.sl (Ty.sl In) z6, C.int IntKind.i64 z7, C.sym z8]), (7, V.c (C.sl Th z2)), (8, V.c (C.int IntKind.i64 z10)), (9, V.c (C.int IntKind.i64 0))] [(0, Ob.amb)] 1)
   (VC.obl (I 0 (0, ())) (VC.all (Int × Unit) fun (v1 : Int × Unit) =>
 let z15 := Prod.fst v1;
 let z16 := Lv.cmp L BinOp.gtr (Lv.cast L (Lv.llen L Kp (Prod.fst (Prod.snd (Prod.snd (Lv.get L Th z2 (Lv.toN L z15))))))) 0;
 let z17 := (Prod.fst v1, true);
 let z18 := Lv.ar L BinOp.add IntKind.i64 z15 1;
 let z19 := (Lv.ar L BinOp.add IntKind.i64 z15 1, ()); VC.all Nat fun (v2 : Nat) =>
 let z20 := Nat.succ v2; VC.imp (I v2 v1) (VC.br (Lv.cmp L BinOp.lss z15 z10) (VC.obl (Lv.inR L z15 z9) (VC.obl (BxF.pC F (z11, Prod.snd m) z12 z15) (VC.br (BxF.can F (z11, Prod.snd
   m) z12 z15) (VC.obl (l = l) (VC.obl (Lv.nth L (z13 × Unit) z14 v2 ((Prod.fst v1, false), ())) (VC.all Bool fun (v3 : Bool) => VC.br v3 (VC.br z16 (VC.obl (l = l) (VC.obl (Lv.nth
   L (z13 × Unit) z14 z20 (z17, ())) (VC.all Bool fun (v4 : Bool) => VC.br v4 (VC.ok (St.mk 37 [(0, V.c (C.yld l)), (1, V.ipt [C.sl It z1, C.sl Th z2]), (2, V.ipt [C.sl It z4, C.sl
   (Ty.sl In) z6, C.int IntKind.i64 z7, C.sym z8]), (7, V.c (C.sl Th z2)), (8, V.c (C.int IntKind.i64 z10)), (9, V.c (C.int IntKind.i64 z18))] [(0, Ob.amb)] 1 = St.mk 37 [(0, V.c
   (C.yld l)), (1, V.ipt [C.sl It z1, C.sl Th z2]), (2, V.ipt [C.sl It z4, C.sl (Ty.sl In) z6, C.int IntKind.i64 z7, C.sym z8]), (7, V.c (C.sl Th z2)), (8, V.c (C.int IntKind.i64
   z10)), (9, V.c (C.int IntKind.i64 z18))] [(0, Ob.amb)] 1 ∧ I (Nat.succ z20) z19 ∧ mu z19 < mu v1)) (VC.ok True)))) (VC.ok (St.mk 37 [(0, V.c (C.yld l)), (1, V.ipt [C.sl It z1,
   C.sl Th z2]), (2, V.ipt [C.sl It z4, C.sl (Ty.sl In) z6, C.int IntKind.i64 z7, C.sym z8]), (7, V.c (C.sl Th z2)), (8, V.c (C.int IntKind.i64 z10)), (9, V.c (C.int IntKind.i64
   z18))] [(0, Ob.amb)] 1 = St.mk 37 [(0, V.c (C.yld l)), (1, V.ipt [C.sl It z1, C.sl Th z2]), (2, V.ipt [C.sl It z4, C.sl (Ty.sl In) z6, C.int IntKind.i64 z7, C.sym z8]), (7, V.c
   (C.sl Th z2)), (8, V.c (C.int IntKind.i64 z10)), (9, V.c (C.int IntKind.i64 z18))] [(0, Ob.amb)] 1 ∧ I z20 z19 ∧ mu z19 < mu v1))) (VC.ok True)))) (VC.br z16 (VC.obl (l = l)
   (VC.obl (Lv.nth L (z13 × Unit) z14 v2 (z17, ())) (VC.all Bool fun (v5 : Bool) => VC.br v5 (VC.ok (St.mk 37 [(0, V.c (C.yld l)), (1, V.ipt [C.sl It z1, C.sl Th z2]), (2, V.ipt
   [C.sl It z4, C.sl (Ty.sl In) z6, C.int IntKind.i64 z7, C.sym z8]), (7, V.c (C.sl Th z2)), (8, V.c (C.int IntKind.i64 z10)), (9, V.c (C.int IntKind.i64 z18))] [(0, Ob.amb)] 1 =
   St.mk 37 [(0, V.c (C.yld l)), (1, V.ipt [C.sl It z1, C.sl Th z2]), (2, V.ipt [C.sl It z4, C.sl (Ty.sl In) z6, C.int IntKind.i64 z7, C.sym z8]), (7, V.c (C.sl Th z2)), (8, V.c
   (C.int IntKind.i64 z10)), (9, V.c (C.int IntKind.i64 z18))] [(0, Ob.amb)] 1 ∧ I z20 z19 ∧ mu z19 < mu v1)) (VC.ok True)))) (VC.ok (St.mk 37 [(0, V.c (C.yld l)), (1, V.ipt [C.sl
   It z1, C.sl Th z2]), (2, V.ipt [C.sl It z4, C.sl (Ty.sl In) z6, C.int IntKind.i64 z7, C.sym z8]), (7, V.c (C.sl Th z2)), (8, V.c (C.int IntKind.i64 z10)), (9, V.c (C.int
   IntKind.i64 z18))] [(0, Ob.amb)] 1 = St.mk 37 [(0, V.c (C.yld l)), (1, V.ipt [C.sl It z1, C.sl Th z2]), (2, V.ipt [C.sl It z4, C.sl (Ty.sl In) z6, C.int IntKind.i64 z7, C.sym
   z8]), (7, V.c (C.sl Th z2)), (8, V.c (C.int IntKind.i64 z10)), (9, V.c (C.int IntKind.i64 z18))] [(0, Ob.amb)] 1 ∧ I v2 z19 ∧ mu z19 < mu v1)))))) (VC.ok (v2 = Lv.cnt L (z13 ×
   Unit) z14)))))
theorem i135_eq (L : Lv) (F : BxF) (I : Nat → Ds [It] → Prop) (mu : Ds [It] → Nat) (l : Nat) (s : StD) (m : McD) : iterVC L E01 (callG L E01 (only (bT F) [136]) 0) (spcOf (only (bT F) [136])) (D135 a0).code (D135 a0).ntmps (D135 a0).pl (a135 L I mu) (I135 F) l (s, m, ()) = i135 L F I mu l s m := by kernel_rfl
theorem i135_go (L : Lv) (F : BxF) (I : Nat → Ds [It] → Prop) (mu : Ds [It] → Nat) (l : Nat) (s : StD) (m : McD) (h : VC.holds (i135 L F I mu l s m)) : Holds (iterVC L E01 (callG L E01 (only (bT F) [136]) 0) (spcOf (only (bT F) [136])) (D135 a0).code (D135 a0).ntmps (D135 a0).pl (a135 L I mu) (I135 F) l (s, m, ())) := Holds.of_eq (i135_eq L F I mu l s m) h
def waitsF (m : McD) (s : StD) (t : ThD) (i : InD) : Bool :=
  if i.1 = 9 then !m.2 && decide ((t.2.2.1.length : Int) = m.1.2.2)
  else if i.1 = 10 ∨ i.1 = 11 then decide (0 < (t.2.2.1.length : Int))
  else if i.1 = 12 then (placeF s t i).2 && decide (seesF s t (placeF s t i).1 = 0)
  else false
def listAt (m : McD) (k : Int) : List InD := (m.1.2.1[k.toNat]?).getD []
def insIn (l : List InD) (k : Int) : InD := (l[k.toNat]?).getD (0, 0, 0, 0, 0, 0)
def canF (m : McD) (s : StD) (k : Int) : Bool :=
  !(thAt s k).2.2.2.2 && (decide ((thAt s k).1 < (listAt m k).length) && !waitsF m s (thAt s k) (insIn (listAt m k) (thAt s k).1))
def pWF (s : StD) (t : ThD) (i : InD) : Prop := inReg t.2.1 i.2.2.1 ∧ s.1.length ≤ 1000000 ∧ t.2.2.1.length ≤ 1000000
def pCF (m : McD) (s : StD) (k : Int) : Prop := (0 ≤ k ∧ k < s.2.length) ∧ k < m.1.2.1.length ∧ 0 ≤ (thAt s k).1 ∧ ((thAt s k).1 < (listAt m k).length → pWF s (thAt s k) (insIn (listAt m k) (thAt s k).1))
theorem pe5 {α β : Type} (p : α × β) : (p.1, p.2) = p := rfl
theorem place_in5 (s : StD) (t : ThD) (i : InD) (h : s.1.length ≤ 1000000) (hq : (placeF s t i).2 = true) : 0 ≤ (placeF s t i).1 ∧ (placeF s t i).1 < s.1.length := by
  have e : IntKind.i64.wrap ((s.1.length : Int) - 1) = (s.1.length : Int) - 1 := wrap_i64 (by omega) (by omega)
  simp only [placeF, withinF, e, Bool.and_eq_true, decide_eq_true_eq] at hq ⊢
  omega
theorem ok157 (F : BxF) (h : F.waits = waitsF) (hp : F.pW = fun _ s t i => pWF s t i) (h1 : F.place = placeF) (h2 : F.sees = seesF) (q1 : F.pPlace = fun _ t i => inReg t.2.1 i.2.2.1) (q2 : F.pSees = fun s t p => inReg s.1 p ∧ t.2.2.1.length ≤ 1000000)
    (k1 : SpecOk prog 101 (S101 F)) (k2 : SpecOk prog 143 (S143 F)) : SpecOk prog 157 (S157 F) := by
  refine contract_by hm hE D157 fnok157 _ fun (z : McD × StD × ThD × InD × Unit) hpre => ?_
  obtain ⟨m, s, t, i, ⟨⟩⟩ := z
  have hpre' : F.pW m s t i := hpre
  rw [hp] at hpre'
  obtain ⟨g1, g2, g3⟩ := hpre'
  refine pack _ 3 a0 (only_tab (T := bT F) (l := [101, 143]) (tb_cons (tb_sp k1 (by kernel_rfl)) (tb_cons (tb_sp k2 (by kernel_rfl)) tb_nil))) ?_
  refine n157_go Lv.std F m s t i ?_
  have hpl := place_in5 s t i g2
  simp only [n157, VC.holds, std_cmp, std_scmp, std_ar_add, std_ar_sub, std_ar_mul, std_ar, std_dv, std_shf, std_conv, std_mn, std_mx, std_beq, std_bnot, std_band, std_scat, std_byte, std_ext, std_slen, std_strOf, std_bytes, std_llen, std_get, std_setl, std_app, std_take, std_drop, std_rep, std_mhas, std_mval, std_mput, std_cast, std_toN, std_sub, std_add, std_inR, std_le3, std_leN, std_ltN, std_ne0, std_nonneg, std_catOk, std_room, std_mkOk, std_nth, std_cnt, cmp_lss_t, cmp_lss_f, cmp_leq_t, cmp_leq_f, cmp_gtr_t, cmp_gtr_f, cmp_geq_t, cmp_geq_f, cmp_eql_t, cmp_eql_f, cmp_neq_t, cmp_neq_f, scmp_eql_t, scmp_eql_f, scmp_neq_t, scmp_neq_f, dflt_int, dflt_bool, dflt_str, dflt_sl, dflt_pair, h, h1, h2, q1, q2, pe5, waitsF, Prod.mk.injEq, and_true, true_and]
  have hq : ∀ p, 0 ≤ p ∧ p < (s.1.length : Int) → inReg s.1 p := fun p h => h
  repeat' (first | apply And.intro | intro _)
  all_goals (first | assumption | omega | exact g1.1 | exact g1.2 | (simp_all; done))
theorem ok136 (F : BxF) (h : F.can = canF) (hp : F.pC = pCF) (h1 : F.waits = waitsF) (q1 : F.pW = fun _ s t i => pWF s t i) (k1 : SpecOk prog 157 (S157 F)) : SpecOk prog 136 (S136 F) := by
  refine contract_by hm hE D136 fnok136 _ fun (z : McD × StD × Int × Unit) hpre => ?_
  obtain ⟨m, s, k, ⟨⟩⟩ := z
  have hpre' : F.pC m s k := hpre
  rw [hp] at hpre'
  obtain ⟨g1, g2, g3, g4⟩ := hpre'
  refine pack _ 3 a0 (only_tab (T := bT F) (l := [157]) (tb_cons (tb_sp k1 (by kernel_rfl)) tb_nil)) ?_
  refine n136_go Lv.std F m s k ?_
  have e1 : Lv.std.get Th s.2 k.toNat = thAt s k := rfl
  have e2 : Lv.std.get (.sl In) m.1.2.1 k.toNat = listAt m k := rfl
  have e3 : ∀ l (j : Int), Lv.std.get In l j.toNat = insIn l j := fun _ _ => rfl
  simp only [n136, VC.holds, std_toN, e1, e2, e3, std_inR, std_llen, std_cmp, std_cast, cmp_lss_t, cmp_lss_f, h, h1, q1, pe5, canF, Prod.mk.injEq, and_true, true_and]
  refine ⟨g1, ⟨g1.1, g2⟩, fun hf => by simp [hf], fun hf => ⟨fun hlt => ⟨⟨g3, hlt⟩, g4 hlt, fun hw => by simp [hw], fun hw => ?_⟩, fun hge => ?_⟩⟩
  · simp [hf, hw, hlt]
  · have : ¬ (thAt s k).1 < ((listAt m k).length : Int) := by omega
    simp [this]
def mvAt (s : StD) (m : McD) (k : Nat) : List MvD := (if canF m s k then [((k : Int), false)] else []) ++ (if 0 < (thAt s k).2.2.1.length then [((k : Int), true)] else [])
def mvN (s : StD) (m : McD) : Nat → List MvD
  | 0 => []
  | n + 1 => mvAt s m (s.2.length - (n + 1)) ++ mvN s m n
def movesF (m : McD) (s : StD) : List MvD := mvN s m s.2.length
def tupM (v : MvD) : MvD × Unit := (v, ())
def eachF (s : StD) (m : McD) : List (MvD × Unit) := (movesF m s).map tupM
def pEF (s : StD) (m : McD) : Prop := s.2.length ≤ 1000000 ∧ ∀ k : Nat, k < s.2.length → pCF m s k
theorem mvN_step (s : StD) (m : McD) (k : Nat) (h : k < s.2.length) : mvN s m (s.2.length - k) = mvAt s m k ++ mvN s m (s.2.length - (k + 1)) := by
  obtain ⟨n, hn⟩ : ∃ n, s.2.length - k = n + 1 := ⟨s.2.length - k - 1, by omega⟩
  rw [hn, mvN, show s.2.length - (n + 1) = k by omega, show s.2.length - (k + 1) = n by omega]
theorem ok135 (F : BxF) (h : F.each = eachF) (hp : F.pE = pEF) (h1 : F.can = canF) (q1 : F.pC = pCF) (k1 : SpecOk prog 136 (S136 F)) : ItOk prog 135 (I135 F) := by
  let I : StD → McD → Nat → Int × Unit → Prop := fun s m j x => j ≤ (eachF s m).length ∧ (0 ≤ x.1 ∧ x.1 ≤ s.2.length) ∧ (eachF s m).drop j = (mvN s m (s.2.length - x.1.toNat)).map tupM
  let mu : StD → Int × Unit → Nat := fun s x => (s.2.length - x.1).toNat
  refine iter_by hm hE (fnok135 a0) rfl (I135 F) rfl (fns := only (bT F) [136]) (only_tab (tb_cons (tb_sp k1 (by kernel_rfl)) tb_nil)) 0 (fun x => a135 Lv.std (I x.1 x.2.1) (mu x.1)) ?_
  rintro l ⟨s, m, ⟨⟩⟩ hpre
  have hpre' : F.pE s m := hpre
  rw [hp] at hpre'
  obtain ⟨g1, g2⟩ := hpre'
  refine i135_go Lv.std F (I s m) (mu s) l s m ?_
  have e1 : ∀ k : Int, Lv.std.get Th s.2 k.toNat = thAt s k := fun _ => rfl
  simp only [i135, VC.holds, std_toN, e1, std_inR, std_llen, std_cmp, std_cast, std_ar_add, std_nth, std_cnt, cmp_lss_t, cmp_lss_f, cmp_gtr_t, cmp_gtr_f, h, h1, q1, pe5, Prod.mk.injEq, and_true, true_and]
  refine ⟨⟨Nat.zero_le _, ⟨Int.le_refl 0, by show (0 : Int) ≤ s.2.length; omega⟩, by show (eachF s m).drop 0 = (mvN s m (s.2.length - (0 : Int).toNat)).map tupM; rfl⟩, ?_⟩
  rintro ⟨x, ⟨⟩⟩ j ⟨i1, i2, i3⟩
  simp only at i2 i3 ⊢
  obtain ⟨k, rfl⟩ : ∃ k : Nat, x = k := ⟨x.toNat, by omega⟩
  rw [Int.toNat_natCast] at i3
  refine ⟨fun hlt => ?_, fun hge => ?_⟩
  · have hk : k < s.2.length := by omega
    rw [mvN_step s m k hk, mvAt, List.map_append, List.map_append] at i3
    have ew : IntKind.i64.wrap ((k : Int) + 1) = (k : Int) + 1 := wrap_i64 (by omega) (by omega)
    rw [ew]
    have hI : ∀ j', j' ≤ (eachF s m).length → (eachF s m).drop j' = (mvN s m (s.2.length - (k + 1))).map tupM → I s m j' ((k : Int) + 1, ()) ∧ mu s ((k : Int) + 1, ()) < mu s ((k : Int), ()) := fun j' h1 h2 =>
      ⟨⟨h1, ⟨by show (0 : Int) ≤ (k : Int) + 1; omega, by show (k : Int) + 1 ≤ _; omega⟩, by show (eachF s m).drop j' = (mvN s m (s.2.length - ((k : Int) + 1).toNat)).map tupM; rw [show ((k : Int) + 1).toNat = k + 1 by omega]; exact h2⟩, by show ((s.2.length : Int) - ((k : Int) + 1)).toNat < ((s.2.length : Int) - k).toNat; omega⟩
    refine ⟨⟨by omega, hlt⟩, g2 k hk, fun hc => ?_, fun hc => ?_⟩
    · rw [if_pos hc] at i3
      obtain ⟨d1, d2, d3⟩ := drop_cons i3
      refine ⟨d1, fun b => ⟨fun _ => ⟨fun hp => ?_, fun hp => ?_⟩, fun _ => trivial⟩⟩
      · rw [if_pos (by omega)] at d2
        obtain ⟨f1, f2, f3⟩ := drop_cons d2
        exact ⟨f1, fun b => ⟨fun _ => hI _ f3 f2, fun _ => trivial⟩⟩
      · rw [if_neg (by omega)] at d2
        exact hI _ d3 d2
    · rw [if_neg (by rw [hc]; simp)] at i3
      refine ⟨fun hp => ?_, fun hp => ?_⟩
      · rw [if_pos (by omega)] at i3
        obtain ⟨f1, f2, f3⟩ := drop_cons i3
        exact ⟨f1, fun b => ⟨fun _ => hI _ f3 f2, fun _ => trivial⟩⟩
      · rw [if_neg (by omega)] at i3
        exact hI _ i1 i3
  · rw [show s.2.length - k = 0 by omega, mvN] at i3
    exact drop_nil i3 i1
end Go.Proofs.Tryz
