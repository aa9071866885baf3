/- What some functions of the lexer compute, proved through the condition generator. No condition of ours. -/
import Derived.Test.YthmlejcfgbpcbaaDoorL2
set_option autoImplicit false
set_option linter.all false
namespace Go.Proofs.Tryd
open Go Go.VM
set_option maxRecDepth 100000
def lawEp (F : LexF) : VM.Spec := ⟨[.str, Et], [.bool], fun x => F.pB x.2.1.2.2, fun _ => (true, ())⟩
def n72 (L : Lv) (F : LexF) (s : ByteArray) (x : Ed)  : VC :=
 VC.obl True
 (VC.br (Lv.cmp L BinOp.neq (Prod.snd (LexF.chk F s)) 0)
 (VC.ok ((((0, 0, ByteArray.empty), ByteArray.empty, ByteArray.empty), Prod.snd (LexF.chk F s), ()) = (Prod.fst (LexF.edit F s x), Prod.snd (LexF.edit F s x), ())))
 (VC.br (Lv.cmp L BinOp.lss (Prod.fst x) 0)
 (VC.ok ((((0, 0, ByteArray.empty), ByteArray.empty, ByteArray.empty), 3, ()) = (Prod.fst (LexF.edit F s x), Prod.snd (LexF.edit F s x), ())))
 (VC.br (Lv.cmp L BinOp.gtr (Prod.fst x) (Prod.fst (Prod.snd x)))
 (VC.ok ((((0, 0, ByteArray.empty), ByteArray.empty, ByteArray.empty), 3, ()) = (Prod.fst (LexF.edit F s x), Prod.snd (LexF.edit F s x), ())))
 (VC.br (Lv.cmp L BinOp.gtr (Prod.fst (Prod.snd x)) (Lv.cast L (Lv.slen L s)))
 (VC.ok ((((0, 0, ByteArray.empty), ByteArray.empty, ByteArray.empty), 3, ()) = (Prod.fst (LexF.edit F s x), Prod.snd (LexF.edit F s x), ())))
 (VC.obl (Lv.le3 L (Lv.cast L 0) (Prod.fst x) (Lv.slen L s))
 (VC.obl (Lv.catOk L (Lv.ext L s (Lv.toN L (Lv.cast L 0)) (Lv.toN L (Prod.fst x))) (Prod.snd (Prod.snd x)))
 (VC.obl (Lv.le3 L (Prod.fst (Prod.snd x)) (Lv.cast L (Lv.slen L s)) (Lv.slen L s))
 (VC.obl
 (Lv.catOk L (Lv.scat L (Lv.ext L s (Lv.toN L (Lv.cast L 0)) (Lv.toN L (Prod.fst x))) (Prod.snd (Prod.snd x)))
 (Lv.ext L s (Lv.toN L (Prod.fst (Prod.snd x))) (Lv.toN L (Lv.cast L (Lv.slen L s)))))
 (VC.obl True
 (VC.br
 (Lv.cmp L BinOp.neq
 (Prod.snd
 (LexF.chk F
 (Lv.scat L (Lv.scat L (Lv.ext L s (Lv.toN L (Lv.cast L 0)) (Lv.toN L (Prod.fst x))) (Prod.snd (Prod.snd x)))
 (Lv.ext L s (Lv.toN L (Prod.fst (Prod.snd x))) (Lv.toN L (Lv.cast L (Lv.slen L s)))))))
 0)
 (VC.ok
 ((((0, 0, ByteArray.empty), ByteArray.empty, ByteArray.empty),
 Prod.snd
 (LexF.chk F
 (Lv.scat L (Lv.scat L (Lv.ext L s (Lv.toN L (Lv.cast L 0)) (Lv.toN L (Prod.fst x))) (Prod.snd (Prod.snd x)))
 (Lv.ext L s (Lv.toN L (Prod.fst (Prod.snd x))) (Lv.toN L (Lv.cast L (Lv.slen L s)))))),
 ()) =
 (Prod.fst (LexF.edit F s x), Prod.snd (LexF.edit F s x), ())))
 (VC.ok
 ((((Prod.fst x, Prod.fst (Prod.snd x), Prod.snd (Prod.snd x)), s,
 Lv.scat L (Lv.scat L (Lv.ext L s (Lv.toN L (Lv.cast L 0)) (Lv.toN L (Prod.fst x))) (Prod.snd (Prod.snd x)))
 (Lv.ext L s (Lv.toN L (Prod.fst (Prod.snd x))) (Lv.toN L (Lv.cast L (Lv.slen L s))))),
 0, ()) =
 (Prod.fst (LexF.edit F s x), Prod.snd (LexF.edit F s x), ())))))))))))))
theorem n72_eq (L : Lv) (F : LexF) (s : ByteArray) (x : Ed) : vcO L F [56] (D72 a0) (S72 F) (s, x, ()) = n72 L F s x := by kernel_rfl
theorem n72_go (L : Lv) (F : LexF) (s : ByteArray) (x : Ed) (h : VC.holds (n72 L F s x)) : Holds (vcO L F [56] (D72 a0) (S72 F) (s, x, ())) := Holds.of_eq (n72_eq L F s x) h
def n39 (L : Lv) (F : LexF) (s : ByteArray) (x : Ed)  : VC :=
 VC.obl (LexF.pB F (Prod.snd (Prod.snd x)))
 (VC.ok
 ((Prod.snd (Prod.snd (Prod.fst (LexF.edit F s (Prod.fst x, Prod.fst (Prod.snd x), Prod.snd (Prod.snd x))))), Prod.snd (LexF.edit F s (Prod.fst x, Prod.fst (Prod.snd x), Prod.snd (Prod.snd x))),
 ()) =
 (Prod.fst (LexF.apply F s x), Prod.snd (LexF.apply F s x), ())))
theorem n39_eq (L : Lv) (F : LexF) (s : ByteArray) (x : Ed) : vcO L F [72] (D39 a0) (S39 F) (s, x, ()) = n39 L F s x := by kernel_rfl
theorem n39_go (L : Lv) (F : LexF) (s : ByteArray) (x : Ed) (h : VC.holds (n39 L F s x)) : Holds (vcO L F [72] (D39 a0) (S39 F) (s, x, ())) := Holds.of_eq (n39_eq L F s x) h

/-! ### edits -/
theorem edit_e1 {s : ByteArray} {x : Ed} (h : (chk s).2 ≠ 0) : editF s x = (noD, (chk s).2) := by unfold editF; rw [if_pos h]
theorem edit_e2 {s : ByteArray} {x : Ed} (h : (chk s).2 = 0) (h2 : isEditF s x = false) : editF s x = (noD, 3) := by unfold editF; rw [if_neg (fun e => e h), if_pos h2]
theorem edit_e3 {s : ByteArray} {x : Ed} (h : (chk s).2 = 0) (h2 : isEditF s x = true) (h3 : (chk (nowF s x)).2 ≠ 0) : editF s x = (noD, (chk (nowF s x)).2) := by unfold editF; rw [if_neg (fun e => e h), if_neg (by rw [h2]; simp), if_pos h3]
theorem edit_ok {s : ByteArray} {x : Ed} (h : (chk s).2 = 0) (h2 : isEditF s x = true) (h3 : (chk (nowF s x)).2 = 0) : editF s x = ((x, s, nowF s x), 0) := by unfold editF; rw [if_neg (fun e => e h), if_neg (by rw [h2]; simp), if_neg (fun e => e h3)]
theorem isEdit_iff (s : ByteArray) (x : Ed) : isEditF s x = true ↔ 0 ≤ x.1 ∧ x.1 ≤ x.2.1 ∧ x.2.1 ≤ s.size := by
  unfold isEditF
  simp only [Bool.and_eq_true, decide_eq_true_eq, and_assoc]
theorem edit_zero {s : ByteArray} {x : Ed} (h : (editF s x).2 = 0) : (chk s).2 = 0 ∧ (0 ≤ x.1 ∧ x.1 ≤ x.2.1 ∧ x.2.1 ≤ s.size) ∧ (chk (nowF s x)).2 = 0 ∧ editF s x = ((x, s, nowF s x), 0) := by
  by_cases h1 : (chk s).2 = 0
  · cases h2 : isEditF s x with
    | false => rw [edit_e2 h1 h2] at h; simp at h
    | true =>
      by_cases h3 : (chk (nowF s x)).2 = 0
      · exact ⟨h1, (isEdit_iff s x).1 h2, h3, edit_ok h1 h2 h3⟩
      · rw [edit_e3 h1 h2 h3] at h; exact absurd h h3
  · rw [edit_e1 h1] at h; exact absurd h h1
theorem now_size (s : ByteArray) (x : Ed) (h0 : 0 ≤ x.1) (h1 : x.1 ≤ x.2.1) (h2 : x.2.1 ≤ s.size) : ((nowF s x).size : Int) = x.1 + x.2.2.size + (s.size - x.2.1) := by
  unfold nowF
  rw [app_size, app_size, ext_size, ext_size]
  omega
theorem ok72 (F : LexF) (hs : F.pB = fun s => s.size ≤ 281474976710656) (h : F.edit = editF) (hc : F.chk = chk) (k1 : SpecOk prog 56 (S56 F)) : SpecOk prog 72 (S72 F) := by
  refine contract_by hm hE D72 fnok72 _ fun (z : ByteArray × Ed × Unit) hpre => ?_
  obtain ⟨s, x, ⟨⟩⟩ := z
  have hpre' : F.pB x.2.2 := hpre
  rw [hs] at hpre'
  refine pack _ 0 a0 (only_ok (F := F) (l := [56]) (by simp only [List.mem_singleton, forall_eq]; exact at_ok k1 (by kernel_rfl))) ?_
  refine n72_go Lv.std F s x ?_
  have hnow : s.extract (0 : Int).toNat x.1.toNat ++ x.2.2 ++ s.extract x.2.1.toNat s.size = nowF s x := rfl
  simp only [n72, VC.holds, std_cmp, std_scmp, std_ar_add, std_ar_sub, std_ar_mul, std_ar, std_dv, std_shf, std_conv, std_mn, std_mx, std_beq, std_bnot, std_band, std_scat, std_byte, std_ext, std_slen, std_strOf, std_bytes, std_llen, std_get, std_setl, std_app, std_take, std_drop, std_rep, std_mhas, std_mval, std_mput, std_cast, std_toN, std_sub, std_add, std_inR, std_le3, std_leN, std_ltN, std_ne0, std_nonneg, std_catOk, std_room, std_mkOk, cmp_lss_t, cmp_lss_f, cmp_leq_t, cmp_leq_f, cmp_gtr_t, cmp_gtr_f, cmp_geq_t, cmp_geq_f, cmp_eql_t, cmp_eql_f, cmp_neq_t, cmp_neq_f, scmp_eql_t, scmp_eql_f, scmp_neq_t, scmp_neq_f, dflt_int, dflt_bool, dflt_str, dflt_sl, dflt_pair, h, hc, nc0, Int.toNat_natCast, hnow, Prod.mk.injEq, and_true, true_and]
  refine ⟨fun e1 => ?_, fun e1 => ⟨fun e2 => ?_, fun e2 => ⟨fun e3 => ?_, fun e3 => ⟨fun e4 => ?_, fun e4 => ?_⟩⟩⟩⟩
  · rw [edit_e1 e1]; exact ⟨rfl, rfl⟩
  · rw [edit_e2 e1 (by cases hh : isEditF s x with | false => rfl | true => have := (isEdit_iff s x).1 hh; omega)]; exact ⟨rfl, rfl⟩
  · rw [edit_e2 e1 (by cases hh : isEditF s x with | false => rfl | true => have := (isEdit_iff s x).1 hh; omega)]; exact ⟨rfl, rfl⟩
  · rw [edit_e2 e1 (by cases hh : isEditF s x with | false => rfl | true => have := (isEdit_iff s x).1 hh; omega)]; exact ⟨rfl, rfl⟩
  have hed := (isEdit_iff s x).2 ⟨e2, e3, e4⟩
  have z1 := chk_small e1
  have y1 := ext_size s (0 : Int).toNat x.1.toNat
  have y2 := ext_size s x.2.1.toNat s.size
  refine ⟨⟨Int.le_refl 0, e2, by omega⟩, by omega, ⟨by omega, e4, Int.le_refl _⟩, by rw [app_size]; omega, fun e5 => ?_, fun e5 => ?_⟩
  · rw [edit_e3 e1 hed e5]; exact ⟨rfl, rfl⟩
  · rw [edit_ok e1 hed e5]; exact ⟨rfl, rfl⟩
theorem ok39 (F : LexF) (h : F.apply = applyF) (he : F.edit = editF) (k1 : SpecOk prog 72 (S72 F)) : SpecOk prog 39 (S39 F) := by
  refine contract_by hm hE D39 fnok39 _ fun (z : ByteArray × Ed × Unit) hpre => ?_
  obtain ⟨s, x, ⟨⟩⟩ := z
  have hpre' : F.pB x.2.2 := hpre
  refine pack _ 0 a0 (only_ok (F := F) (l := [72]) (by simp only [List.mem_singleton, forall_eq]; exact at_ok k1 (by kernel_rfl))) ?_
  refine n39_go Lv.std F s x ?_
  simp only [n39, VC.holds, std_cmp, std_scmp, std_ar_add, std_ar_sub, std_ar_mul, std_ar, std_dv, std_shf, std_conv, std_mn, std_mx, std_beq, std_bnot, std_band, std_scat, std_byte, std_ext, std_slen, std_strOf, std_bytes, std_llen, std_get, std_setl, std_app, std_take, std_drop, std_rep, std_mhas, std_mval, std_mput, std_cast, std_toN, std_sub, std_add, std_inR, std_le3, std_leN, std_ltN, std_ne0, std_nonneg, std_catOk, std_room, std_mkOk, cmp_lss_t, cmp_lss_f, cmp_leq_t, cmp_leq_f, cmp_gtr_t, cmp_gtr_f, cmp_geq_t, cmp_geq_f, cmp_eql_t, cmp_eql_f, cmp_neq_t, cmp_neq_f, scmp_eql_t, scmp_eql_f, scmp_neq_t, scmp_neq_f, dflt_int, dflt_bool, dflt_str, dflt_sl, dflt_pair, h, he, Prod.mk.injEq, and_true, true_and]
  exact ⟨hpre', rfl, rfl⟩
theorem apply_e1 {s : ByteArray} {x : Ed} (h : (chk s).2 ≠ 0) : applyF s x = (ByteArray.empty, (chk s).2) := by unfold applyF; rw [edit_e1 h]; rfl
theorem apply_e2 {s : ByteArray} {x : Ed} (h : (chk s).2 = 0) (h2 : isEditF s x = false) : applyF s x = (ByteArray.empty, 3) := by unfold applyF; rw [edit_e2 h h2]; rfl
theorem apply_e3 {s : ByteArray} {x : Ed} (h : (chk s).2 = 0) (h2 : isEditF s x = true) (h3 : (chk (nowF s x)).2 ≠ 0) : applyF s x = (ByteArray.empty, (chk (nowF s x)).2) := by unfold applyF; rw [edit_e3 h h2 h3]; rfl
theorem apply_ok {s : ByteArray} {x : Ed} (h : (chk s).2 = 0) (h2 : isEditF s x = true) (h3 : (chk (nowF s x)).2 = 0) : applyF s x = (nowF s x, 0) := by unfold applyF; rw [edit_ok h h2 h3]
theorem byteAt_now (s : ByteArray) (x : Ed) (h0 : 0 ≤ x.1) (h1 : x.1 ≤ x.2.1) (h2 : x.2.1 ≤ s.size) (i : Int) (hi : 0 ≤ i) (hi2 : i < (nowF s x).size) :
    byteAt (nowF s x) i = if i < x.1 then byteAt s i else if i < x.1 + x.2.2.size then byteAt x.2.2 (i - x.1) else byteAt s (i - (x.1 + x.2.2.size) + x.2.1) := by
  have hz := now_size s x h0 h1 h2
  unfold nowF at hi2 hz ⊢
  have w1 : ((s.extract 0 x.1.toNat).size : Int) = x.1 := by rw [ext_size]; omega
  have w2 : (((s.extract 0 x.1.toNat) ++ x.2.2).size : Int) = x.1 + x.2.2.size := by rw [app_size]; omega
  have w3 : ((s.extract x.2.1.toNat s.size).size : Int) = s.size - x.2.1 := by rw [ext_size]; omega
  by_cases c1 : i < x.1
  · rw [if_pos c1, byteAt_app_l hi (by omega), byteAt_app_l hi (by omega), byteAt_ext hi (by omega)]
    congr 1; omega
  · rw [if_neg c1]
    by_cases c2 : i < x.1 + x.2.2.size
    · rw [if_pos c2, byteAt_app_l hi (by omega), byteAt_app_r (by omega) (by omega), w1]
    · rw [if_neg c2, byteAt_app_r (by omega) (by omega), w2, byteAt_ext (by omega) (by omega)]
      congr 1; omega
end Go.Proofs.Tryd
set_option autoImplicit false
set_option linter.all false
namespace Go.Proofs.Tryd
open Go Go.VM
set_option maxRecDepth 100000
theorem h72 : SpecOk prog 72 (S72 FF) := ok72 FF rfl rfl rfl h56
theorem h39 : SpecOk prog 39 (S39 FF) := ok39 FF rfl rfl h72
end Go.Proofs.Tryd
