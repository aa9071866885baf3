/- What some functions of the lexer compute, proved through the condition generator. No condition of ours. -/
import Derived.Test.YthmlejcfgbpcbaaDoorL2
set_option autoImplicit false
set_option linter.all false
namespace Go.Proofs.Tryd
open Go Go.VM
set_option maxRecDepth 100000
def a9 (L : Lv) (I : Ds [It] → Prop) (mu : Ds [It] → Nat) (J : Ds [It] → Prop) (nu : Ds [It] → Nat) : Nat → LAnn
  | 0 => anH L [1, 2, 3] [] [.s 3 It] I mu
  | 2 => anH L [2, 9] [] [.s 9 It] J nu
  | _ => .no
def lawS : VM.Spec := ⟨[], [.bool], fun _ => True, fun _ => (true, ())⟩
def n9 (L : Lv) (F : LexF) (I : Ds [It] → Prop) (mu : Ds [It] → Nat) (J : Ds [It] → Prop) (nu : Ds [It] → Nat)  : VC :=
 VC.obl True
 (VC.obl True
 (VC.obl
 (St.mk 172 [(1, V.c (C.sl Ty.str (LexF.signs F))), (2, V.c (C.sl Ty.str (LexF.keywords F))), (3, V.c (C.int IntKind.i64 0))] [(0, Ob.amb)] 1 =
 St.mk 172 [(1, V.c (C.sl Ty.str (LexF.signs F))), (2, V.c (C.sl Ty.str (LexF.keywords F))), (3, V.c (C.int IntKind.i64 0))] [(0, Ob.amb)] 1)
 (VC.obl (I (0, ()))
 (VC.all (Int × Unit) fun (x : Int × Unit) =>
 VC.imp (I x)
 (VC.br (Lv.cmp L BinOp.lss (Prod.fst x) (Lv.cast L (Lv.llen L Ty.str (LexF.signs F))))
 (VC.obl (Lv.inR L (Prod.fst x) (Lv.llen L Ty.str (LexF.signs F)))
 (VC.obl (LexF.pS F (Lv.get L Ty.str (LexF.signs F) (Lv.toN L (Prod.fst x))))
 (VC.obl (Lv.inR L (Prod.fst x) (Lv.llen L Ty.str (LexF.signs F)))
 (VC.obl (Lv.catOk L (Lv.get L Ty.str (LexF.signs F) (Lv.toN L (Prod.fst x))) (ByteArray.mk #[32, 49]))
 (VC.obl True
 (VC.br (Lv.cmp L BinOp.neq (Prod.snd (LexF.kind F (Lv.get L Ty.str (LexF.signs F) (Lv.toN L (Prod.fst x))))) 0) (VC.ok ((false, ()) = (true, ())))
 (VC.br (Lv.cmp L BinOp.neq (Prod.snd (Prod.snd (LexF.scan F (Lv.scat L (Lv.get L Ty.str (LexF.signs F) (Lv.toN L (Prod.fst x))) (ByteArray.mk #[32, 49]))))) 0)
 (VC.ok ((false, ()) = (true, ())))
 (VC.br (Lv.cmp L BinOp.neq (Prod.fst (LexF.kind F (Lv.get L Ty.str (LexF.signs F) (Lv.toN L (Prod.fst x))))) 4) (VC.ok ((false, ()) = (true, ())))
 (VC.br
 (Lv.cmp L BinOp.neq
 (Lv.cast L
 (Lv.llen L Lt
 (Prod.fst (LexF.scan F (Lv.scat L (Lv.get L Ty.str (LexF.signs F) (Lv.toN L (Prod.fst x))) (ByteArray.mk #[32, 49]))))))
 2)
 (VC.ok ((false, ()) = (true, ())))
 (VC.obl
 (Lv.inR L 0
 (Lv.llen L Lt
 (Prod.fst (LexF.scan F (Lv.scat L (Lv.get L Ty.str (LexF.signs F) (Lv.toN L (Prod.fst x))) (ByteArray.mk #[32, 49]))))))
 (VC.obl (Lv.inR L (Prod.fst x) (Lv.llen L Ty.str (LexF.signs F)))
 (VC.br
 (Lv.scmp L BinOp.neq
 (Prod.fst
 (Prod.snd
 (Lv.get L Lt
 (Prod.fst (LexF.scan F (Lv.scat L (Lv.get L Ty.str (LexF.signs F) (Lv.toN L (Prod.fst x))) (ByteArray.mk #[32, 49])))) (Lv.toN L 0))))
 (Lv.get L Ty.str (LexF.signs F) (Lv.toN L (Prod.fst x))))
 (VC.ok ((false, ()) = (true, ())))
 (VC.ok
 (St.mk 172
 [(1, V.c (C.sl Ty.str (LexF.signs F))), (2, V.c (C.sl Ty.str (LexF.keywords F))),
 (3, V.c (C.int IntKind.i64 (Lv.ar L BinOp.add IntKind.i64 (Prod.fst x) 1)))]
 [(0, Ob.amb)] 1 =
 St.mk 172
 [(1, V.c (C.sl Ty.str (LexF.signs F))), (2, V.c (C.sl Ty.str (LexF.keywords F))),
 (3, V.c (C.int IntKind.i64 (Lv.ar L BinOp.add IntKind.i64 (Prod.fst x) 1)))]
 [(0, Ob.amb)] 1 ∧
 I (Lv.ar L BinOp.add IntKind.i64 (Prod.fst x) 1, ()) ∧ mu (Lv.ar L BinOp.add IntKind.i64 (Prod.fst x) 1, ()) < mu x))))))))))))))
 (VC.obl
 (St.mk 172 [(2, V.c (C.sl Ty.str (LexF.keywords F))), (9, V.c (C.int IntKind.i64 0))] [(0, Ob.amb)] 1 =
 St.mk 172 [(2, V.c (C.sl Ty.str (LexF.keywords F))), (9, V.c (C.int IntKind.i64 0))] [(0, Ob.amb)] 1)
 (VC.obl (J (0, ()))
 (VC.all (Int × Unit) fun (x : Int × Unit) =>
 VC.imp (J x)
 (VC.br (Lv.cmp L BinOp.lss (Prod.fst x) (Lv.cast L (Lv.llen L Ty.str (LexF.keywords F))))
 (VC.obl (Lv.inR L (Prod.fst x) (Lv.llen L Ty.str (LexF.keywords F)))
 (VC.obl (LexF.pS F (Lv.get L Ty.str (LexF.keywords F) (Lv.toN L (Prod.fst x))))
 (VC.obl (Lv.inR L (Prod.fst x) (Lv.llen L Ty.str (LexF.keywords F)))
 (VC.obl (Lv.catOk L (Lv.get L Ty.str (LexF.keywords F) (Lv.toN L (Prod.fst x))) (ByteArray.mk #[49]))
 (VC.obl (LexF.pS F (Lv.scat L (Lv.get L Ty.str (LexF.keywords F) (Lv.toN L (Prod.fst x))) (ByteArray.mk #[49])))
 (VC.br (Lv.cmp L BinOp.neq (Prod.snd (LexF.kind F (Lv.get L Ty.str (LexF.keywords F) (Lv.toN L (Prod.fst x))))) 0) (VC.ok ((false, ()) = (true, ())))
 (VC.br (Lv.cmp L BinOp.neq (Prod.snd (LexF.kind F (Lv.scat L (Lv.get L Ty.str (LexF.keywords F) (Lv.toN L (Prod.fst x))) (ByteArray.mk #[49])))) 0)
 (VC.ok ((false, ()) = (true, ())))
 (VC.br (Lv.cmp L BinOp.neq (Prod.fst (LexF.kind F (Lv.get L Ty.str (LexF.keywords F) (Lv.toN L (Prod.fst x))))) 3)
 (VC.ok ((false, ()) = (true, ())))
 (VC.br (Lv.cmp L BinOp.neq (Prod.fst (LexF.kind F (Lv.scat L (Lv.get L Ty.str (LexF.keywords F) (Lv.toN L (Prod.fst x))) (ByteArray.mk #[49])))) 1)
 (VC.ok ((false, ()) = (true, ())))
 (VC.ok
 (St.mk 172 [(2, V.c (C.sl Ty.str (LexF.keywords F))), (9, V.c (C.int IntKind.i64 (Lv.ar L BinOp.add IntKind.i64 (Prod.fst x) 1)))] [(0, Ob.amb)] 1 =
 St.mk 172 [(2, V.c (C.sl Ty.str (LexF.keywords F))), (9, V.c (C.int IntKind.i64 (Lv.ar L BinOp.add IntKind.i64 (Prod.fst x) 1)))] [(0, Ob.amb)] 1 ∧
 J (Lv.ar L BinOp.add IntKind.i64 (Prod.fst x) 1, ()) ∧ nu (Lv.ar L BinOp.add IntKind.i64 (Prod.fst x) 1, ()) < nu x)))))))))))
 (VC.obl (LexF.pS F (Prod.fst (ByteArray.mk #[49, 48, 48, 48, 48, 48, 48, 48, 48, 49], ())))
 (VC.obl (LexF.pS F (Prod.fst (ByteArray.mk #[48, 48], ())))
 (VC.obl (LexF.pS F (Prod.fst (ByteArray.mk #[97, 98, 99, 100, 101, 102, 103, 104, 105, 106, 107, 108, 109], ())))
 (VC.obl (LexF.pS F (Prod.fst (ByteArray.mk #[97, 98, 99, 100, 101, 102, 103, 104, 105, 106, 107, 108], ())))
 (VC.obl (LexF.pS F (Prod.fst (ByteArray.mk #[49, 48, 48, 48, 48, 48, 48, 48, 48, 48], ())))
 (VC.obl (LexF.pS F (Prod.fst (ByteArray.mk #[95], ())))
 (VC.br (Lv.cmp L BinOp.eql (Prod.snd (LexF.kind F (Prod.fst (ByteArray.mk #[49, 48, 48, 48, 48, 48, 48, 48, 48, 49], ())))) 4)
 (VC.br (Lv.cmp L BinOp.eql (Prod.snd (LexF.kind F (Prod.fst (ByteArray.mk #[48, 48], ())))) 4)
 (VC.br (Lv.cmp L BinOp.eql (Prod.snd (LexF.kind F (Prod.fst (ByteArray.mk #[97, 98, 99, 100, 101, 102, 103, 104, 105, 106, 107, 108, 109], ())))) 4)
 (VC.br (Lv.cmp L BinOp.eql (Prod.snd (LexF.kind F (Prod.fst (ByteArray.mk #[97, 98, 99, 100, 101, 102, 103, 104, 105, 106, 107, 108], ())))) 0)
 (VC.br (Lv.cmp L BinOp.eql (Prod.fst (LexF.kind F (Prod.fst (ByteArray.mk #[97, 98, 99, 100, 101, 102, 103, 104, 105, 106, 107, 108], ())))) 1)
 (VC.br (Lv.cmp L BinOp.eql (Prod.snd (LexF.kind F (Prod.fst (ByteArray.mk #[49, 48, 48, 48, 48, 48, 48, 48, 48, 48], ())))) 0)
 (VC.br (Lv.cmp L BinOp.eql (Prod.fst (LexF.kind F (Prod.fst (ByteArray.mk #[49, 48, 48, 48, 48, 48, 48, 48, 48, 48], ())))) 2)
 (VC.br (Lv.cmp L BinOp.eql (Prod.snd (LexF.kind F (Prod.fst (ByteArray.mk #[95], ())))) 4)
 (VC.obl True (VC.br (LexF.awake F) (VC.ok ((true, ()) = (true, ()))) (VC.ok ((false, ()) = (true, ())))))
 (VC.ok ((false, ()) = (true, ()))))
 (VC.ok ((false, ()) = (true, ()))))
 (VC.ok ((false, ()) = (true, ()))))
 (VC.ok ((false, ()) = (true, ()))))
 (VC.ok ((false, ()) = (true, ()))))
 (VC.ok ((false, ()) = (true, ()))))
 (VC.ok ((false, ()) = (true, ()))))
 (VC.ok ((false, ()) = (true, ())))))))))))))))))))
theorem n9_eq (L : Lv) (F : LexF) (I : Ds [It] → Prop) (mu : Ds [It] → Nat) (J : Ds [It] → Prop) (nu : Ds [It] → Nat) : vcO L F [22, 23, 26, 37, 38] (D9 (a9 L I mu J nu)) lawS () = n9 L F I mu J nu := by kernel_rfl
theorem n9_go (L : Lv) (F : LexF) (I : Ds [It] → Prop) (mu : Ds [It] → Nat) (J : Ds [It] → Prop) (nu : Ds [It] → Nat) (h : VC.holds (n9 L F I mu J nu)) : Holds (vcO L F [22, 23, 26, 37, 38] (D9 (a9 L I mu J nu)) lawS ()) := Holds.of_eq (n9_eq L F I mu J nu) h

def signOk (s : ByteArray) : Bool := decide ((kindF s).2 = 0) && decide ((kindF s).1 = 4) && decide ((scanF (s ++ bs [32, 49])).2.2 = 0) && (match (scanF (s ++ bs [32, 49])).1 with
  | [x, _] => decide (x.2.1 = s)
  | _ => false) && decide (s.size ≤ 1000)
def wordOk (s : ByteArray) : Bool := decide ((kindF s).2 = 0) && decide ((kindF s).1 = 3) && decide ((kindF (s ++ bs [49])).2 = 0) && decide ((kindF (s ++ bs [49])).1 = 1) && decide (s.size ≤ 1000)
theorem signs_ok : signsL.all signOk = true := by kernel_rfl
theorem words_ok : keywordsL.all wordOk = true := by kernel_rfl
theorem sg_at (k : Nat) (h : k < signsL.length) : signOk signsL[k] = true := List.all_eq_true.1 signs_ok _ (List.getElem_mem h)
theorem wd_at (k : Nat) (h : k < keywordsL.length) : wordOk keywordsL[k] = true := List.all_eq_true.1 words_ok _ (List.getElem_mem h)
theorem lit1 : (kindF (ByteArray.mk #[49, 48, 48, 48, 48, 48, 48, 48, 48, 49])).2 = 4 := by kernel_rfl
theorem lit2 : (kindF (ByteArray.mk #[48, 48])).2 = 4 := by kernel_rfl
theorem lit3 : (kindF (ByteArray.mk #[97, 98, 99, 100, 101, 102, 103, 104, 105, 106, 107, 108, 109])).2 = 4 := by kernel_rfl
theorem lit4 : (kindF (ByteArray.mk #[97, 98, 99, 100, 101, 102, 103, 104, 105, 106, 107, 108])).2 = 0 := by kernel_rfl
theorem lit5 : (kindF (ByteArray.mk #[97, 98, 99, 100, 101, 102, 103, 104, 105, 106, 107, 108])).1 = 1 := by kernel_rfl
theorem lit6 : (kindF (ByteArray.mk #[49, 48, 48, 48, 48, 48, 48, 48, 48, 48])).2 = 0 := by kernel_rfl
theorem lit7 : (kindF (ByteArray.mk #[49, 48, 48, 48, 48, 48, 48, 48, 48, 48])).1 = 2 := by kernel_rfl
theorem lit8 : (kindF (ByteArray.mk #[95])).2 = 4 := by kernel_rfl
theorem ok9 (F : LexF) (hs : F.pS = fun s => s.size ≤ 1000000) (h : F.awake = true) (h1 : F.scan = scanF) (h2 : F.kind = kindF) (h3 : F.signs = signsL) (h4 : F.keywords = keywordsL)
    (k1 : SpecOk prog 22 (S22 F)) (k2 : SpecOk prog 23 (S23 F)) (k3 : SpecOk prog 26 (S26 F)) (k4 : SpecOk prog 37 (S37 F)) (k5 : SpecOk prog 38 (S38 F)) : SpecOk prog 9 lawS := by
  refine contract_by hm hE D9 fnok9 _ fun (z : Unit) hpre => ?_
  obtain ⟨⟩ := z
  let I : Int × Unit → Prop := fun z => 0 ≤ z.1 ∧ z.1 ≤ signsL.length
  let mu : Int × Unit → Nat := fun z => (signsL.length - z.1).toNat
  let J : Int × Unit → Prop := fun z => 0 ≤ z.1 ∧ z.1 ≤ keywordsL.length
  let nu : Int × Unit → Nat := fun z => (keywordsL.length - z.1).toNat
  refine pack _ 0 (a9 Lv.std I mu J nu) (only_ok (F := F) (l := [22, 23, 26, 37, 38]) (by simp only [List.forall_mem_cons]; exact ⟨at_ok k1 (by kernel_rfl), at_ok k2 (by kernel_rfl), at_ok k3 (by kernel_rfl), at_ok k4 (by kernel_rfl), at_ok k5 (by kernel_rfl), fun _ h => by cases h⟩)) ?_
  refine n9_go Lv.std F I mu J nu ?_
  simp only [n9, VC.holds, std_cmp, std_scmp, std_ar_add, std_ar_sub, std_ar_mul, std_ar, std_dv, std_shf, std_conv, std_mn, std_mx, std_beq, std_bnot, std_band, std_scat, std_byte, std_ext, std_slen, std_strOf, std_bytes, std_llen, std_get, std_setl, std_app, std_take, std_drop, std_rep, std_mhas, std_mval, std_mput, std_cast, std_toN, std_sub, std_add, std_inR, std_le3, std_leN, std_ltN, std_ne0, std_nonneg, std_catOk, std_room, std_mkOk, cmp_lss_t, cmp_lss_f, cmp_leq_t, cmp_leq_f, cmp_gtr_t, cmp_gtr_f, cmp_geq_t, cmp_geq_f, cmp_eql_t, cmp_eql_f, cmp_neq_t, cmp_neq_f, scmp_eql_t, scmp_eql_f, scmp_neq_t, scmp_neq_f, dflt_int, dflt_bool, dflt_str, dflt_sl, dflt_pair, h, h1, h2, h3, h4, hs, Prod.mk.injEq, and_true, true_and, lit1, lit2, lit3, lit4, lit5, lit6, lit7, lit8]
  have len : signsL.length = 22 := rfl
  have len2 : keywordsL.length = 28 := rfl
  refine ⟨⟨by show (0 : Int) ≤ 0; omega, by show (0 : Int) ≤ signsL.length; omega⟩, ?_⟩
  rintro ⟨i, _⟩ ⟨g0, g1⟩
  simp only at g0 g1 ⊢
  refine ⟨fun hlt => ?_, fun hge => ?_⟩
  · obtain ⟨k, rfl⟩ : ∃ k : Nat, i = k := ⟨i.toNat, by omega⟩
    have hk : k < signsL.length := by omega
    have hS := sg_at k hk
    unfold signOk at hS
    simp only [Bool.and_eq_true, decide_eq_true_eq] at hS
    obtain ⟨⟨⟨⟨q1, q2⟩, q3⟩, q4⟩, q5⟩ := hS
    have ew : IntKind.i64.wrap ((k : Int) + 1) = (k : Int) + 1 := wrap_i64 (by omega) (by omega)
    have hb : ByteArray.mk #[32, 49] = bs [32, 49] := rfl
    have hb2 : (bs [32, 49]).size = 2 := rfl
    simp only [ew, Int.toNat_natCast, List.getElem?_eq_getElem hk, Option.getD_some, hb, hb2]
    have hI : I ((k : Int) + 1, ()) ∧ mu ((k : Int) + 1, ()) < mu ((k : Int), ()) := ⟨⟨by show (0 : Int) ≤ (k : Int) + 1; omega, by show (k : Int) + 1 ≤ signsL.length; omega⟩, by show ((signsL.length : Int) - ((k : Int) + 1)).toNat < ((signsL.length : Int) - k).toNat; omega⟩
    generalize signsL[k] = sg at q1 q2 q3 q4 q5 ⊢
    generalize scanF (sg ++ bs [32, 49]) = sc at q3 q4 ⊢
    obtain ⟨l, p, e⟩ := sc
    simp only at q3 q4 ⊢
    split at q4
    · rename_i x y
      simp only [decide_eq_true_eq] at q4
      refine ⟨⟨g0, hlt⟩, by omega, ⟨g0, hlt⟩, by omega, fun c => absurd q1 c, fun _ => ⟨fun c => absurd q3 c, fun _ => ⟨fun c => absurd q2 c, fun _ => ⟨fun c => absurd rfl c, fun _ => ⟨⟨by omega, by show (0 : Int) < 2; omega⟩, ⟨g0, hlt⟩, fun c => absurd q4 c, fun _ => hI⟩⟩⟩⟩⟩
    · cases q4
  refine ⟨⟨by show (0 : Int) ≤ 0; omega, by show (0 : Int) ≤ keywordsL.length; omega⟩, ?_⟩
  rintro ⟨i, _⟩ ⟨g2, g3⟩
  simp only at g2 g3 ⊢
  refine ⟨fun hlt => ?_, fun hge => ?_⟩
  · obtain ⟨k, rfl⟩ : ∃ k : Nat, i = k := ⟨i.toNat, by omega⟩
    have hk : k < keywordsL.length := by omega
    have hS := wd_at k hk
    unfold wordOk at hS
    simp only [Bool.and_eq_true, decide_eq_true_eq] at hS
    obtain ⟨⟨⟨⟨q1, q2⟩, q3⟩, q4⟩, q5⟩ := hS
    have ew : IntKind.i64.wrap ((k : Int) + 1) = (k : Int) + 1 := wrap_i64 (by omega) (by omega)
    have hb : ByteArray.mk #[49] = bs [49] := rfl
    have hb2 : (bs [49]).size = 1 := rfl
    simp only [ew, Int.toNat_natCast, List.getElem?_eq_getElem hk, Option.getD_some, hb, hb2]
    have hI : J ((k : Int) + 1, ()) ∧ nu ((k : Int) + 1, ()) < nu ((k : Int), ()) := ⟨⟨by show (0 : Int) ≤ (k : Int) + 1; omega, by show (k : Int) + 1 ≤ keywordsL.length; omega⟩, by show ((keywordsL.length : Int) - ((k : Int) + 1)).toNat < ((keywordsL.length : Int) - k).toNat; omega⟩
    generalize keywordsL[k] = sg at q1 q2 q3 q4 q5 ⊢
    have hz : (sg ++ bs [49]).size ≤ 1000000 := by rw [app_size, hb2]; omega
    refine ⟨⟨g2, hlt⟩, by omega, ⟨g2, hlt⟩, by omega, hz, fun c => absurd q1 c, fun _ => ⟨fun c => absurd q3 c, fun _ => ⟨fun c => absurd q2 c, fun _ => ⟨fun c => absurd q4 c, fun _ => hI⟩⟩⟩⟩
  · refine ⟨by decide, by decide, by decide, by decide, by decide, by decide, ?_⟩
    simp
end Go.Proofs.Tryd
set_option autoImplicit false
set_option linter.all false
namespace Go.Proofs.Tryd
open Go Go.VM
set_option maxRecDepth 100000
theorem h9 : SpecOk prog 9 lawS := ok9 FF rfl rfl rfl rfl rfl rfl h22 h23 h26 h37 h38
end Go.Proofs.Tryd
