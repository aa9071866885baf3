/- What the laid package variables give to the rows, where seven are laid. No condition of ours. -/
import Derived.Test.YthmlejcfgbpcbaaDoorR0
import Derived.Test.YthmlejcfgbpcbaaDoorP29x0
import Derived.Lay
import Derived.LaidOnce
set_option autoImplicit false
set_option linter.all false
namespace Go.Proofs.YthmlejcfgbpcbaaDoor
open Go Go.VM Go.ChangeShapes Go.WideShapes Go.ChangeAt Go.RowKit
set_option maxRecDepth 100000
def laid7 : List (String × DataW Unit) := [("math/bits.deBruijn32tab", Rows.laid_math_bits_deBruijn32tab), ("math/bits.deBruijn64tab", Rows.laid_math_bits_deBruijn64tab), ("internal/strconv.uint64pow10", Rows.laid_internal_strconv_uint64pow10), ("unicode/utf8.acceptRanges", Rows.laid_unicode_utf8_acceptRanges), ("strconv.ErrRange", Rows.laid_strconv_ErrRange), ("strconv.ErrSyntax", Rows.laid_strconv_ErrSyntax), ("unicode/utf8.first", Rows.laid_unicode_utf8_first)]
theorem door_met7 (os : Os) (args : Array Value) : laidMetH Tryd.prog laid7 ((World.laidAll Tryd.prog os laid7).forCall (fun _ _ => 0) ⟨#[], args, []⟩).memory := by
  rw [MakeChecks.laidMetH_plain _ _ _ (by kernel_rfl)]; exact laidMet_laidAll _ (by kernel_rfl) (by kernel_rfl)
theorem door_shaped7 (os : Os) : (World.laidAll Tryd.prog os laid7).Shaped Tryd.prog := World.shaped_of_ZipB (by kernel_rfl) (by kernel_rfl)
theorem gl_of7 {W : World} (h : laidMetH Tryd.prog laid7 W) : glW W := by
  rw [MakeChecks.laidMetH_plain _ _ _ (by kernel_rfl)] at h
  have h2 : laidMet Tryd.prog [("math/bits.deBruijn64tab", Rows.laid_math_bits_deBruijn64tab), ("internal/strconv.uint64pow10", Rows.laid_internal_strconv_uint64pow10), ("unicode/utf8.acceptRanges", Rows.laid_unicode_utf8_acceptRanges), ("strconv.ErrRange", Rows.laid_strconv_ErrRange), ("strconv.ErrSyntax", Rows.laid_strconv_ErrSyntax), ("unicode/utf8.first", Rows.laid_unicode_utf8_first)] W := h.tail
  have h3 : laidMet Tryd.prog [("internal/strconv.uint64pow10", Rows.laid_internal_strconv_uint64pow10), ("unicode/utf8.acceptRanges", Rows.laid_unicode_utf8_acceptRanges), ("strconv.ErrRange", Rows.laid_strconv_ErrRange), ("strconv.ErrSyntax", Rows.laid_strconv_ErrSyntax), ("unicode/utf8.first", Rows.laid_unicode_utf8_first)] W := h2.tail
  have h3b : laidMet Tryd.prog [("unicode/utf8.acceptRanges", Rows.laid_unicode_utf8_acceptRanges), ("strconv.ErrRange", Rows.laid_strconv_ErrRange), ("strconv.ErrSyntax", Rows.laid_strconv_ErrSyntax), ("unicode/utf8.first", Rows.laid_unicode_utf8_first)] W := h3.tail
  have h4 : laidMet Tryd.prog [("strconv.ErrRange", Rows.laid_strconv_ErrRange), ("strconv.ErrSyntax", Rows.laid_strconv_ErrSyntax), ("unicode/utf8.first", Rows.laid_unicode_utf8_first)] W := h3b.tail
  have h5 : laidMet Tryd.prog [("strconv.ErrSyntax", Rows.laid_strconv_ErrSyntax), ("unicode/utf8.first", Rows.laid_unicode_utf8_first)] W := h4.tail
  have hsz : 7 < W.heap.size := by
    obtain ⟨ps, ⟨g', t', cs, fuel, p, q, hg', ht', hvar, hd, _, _⟩, _⟩ := h2
    obtain ⟨t, fr, hb⟩ := var_block g64 hvar
    exact lt_of_block hb
  rw [powD] at h3
  have ht := Lib.tabIs_of_head gPow (show (Tryd.prog.globals[5]?).map (·.type) = some 169 by kernel_rfl) Tryd.underlying169 Tryd.underlying116 (by kernel_rfl) (by kernel_rfl) h3
  obtain ⟨t5, f5, hb5⟩ := var_block gPow ht
  obtain ⟨a0, s0, hv0, -, -, -⟩ := laid_sentinel h4 gRange (show (Tryd.prog.globals[2]?).map (·.type) = some 110 by kernel_rfl) Tryd.underlying110 ptrName Tryd.underlying165 Tryd.underlying167 rfl rfl Tryd.underlying9 cells167 cells9
  obtain ⟨a1, s1, hv1, -, -, -⟩ := laid_sentinel h5 gSyntax (show (Tryd.prog.globals[1]?).map (·.type) = some 110 by kernel_rfl) Tryd.underlying110 ptrName Tryd.underlying165 Tryd.underlying167 rfl rfl Tryd.underlying9 cells167 cells9
  exact ⟨by simp only [glN]; omega, ⟨t5, f5, hb5⟩, ⟨_, by have h0 := World.var?_cell gSyntax hv1 0; simpa using h0, .inr ⟨_, _, rfl⟩⟩, ⟨_, by have h0 := World.var?_cell gRange hv0 0; simpa using h0, .inr ⟨_, _, rfl⟩⟩⟩
theorem c63 : Tryd.prog.cellsOf 63 = 2 := by kernel_rfl
theorem open_place {H : Type} {enc : TypeId × Value → H} {W : World} {base : Nat} {sp : Nat → Bool} {held : Bool} {v : Value} {d : DataW H} {p : List MemPlace} {r : Reach} {b0 : Nat} (hval : Value.okWide Tryd.prog W r b0 63 v) (h : DataW.Trod enc Tryd.prog W base sp held 63 v d p) : ∃ x : Int × Int, KV okA W Tryd.Pt x v := by
  obtain ⟨cs, rfl, _⟩ := okWide_struct Tryd.underlying63 hval
  obtain ⟨fuel, hf⟩ := h
  obtain ⟨y0, y1, m, ex, hl, h0, h1⟩ := trod_struct2 Tryd.underlying63 hf
  rw [c63] at hl
  obtain ⟨cl⟩ := cs
  have hl : cl.length = 2 := hl
  match cl, hl with
  | [a, b], _ =>
    simp only [Value.cells, c3, List.drop_zero, List.drop_succ_cons, List.take_succ_cons, List.take_zero] at h0 h1
    obtain ⟨k, e0, _⟩ := DataW.trod_int Tryd.underlying3 h0
    obtain ⟨z, e1, _⟩ := DataW.trod_int Tryd.underlying3 h1
    simp only [List.cons.injEq, and_true] at e0 e1
    subst e0 e1
    exact ⟨(k, z), by unfold KV; rw [if_pos (by decide)]; exact ⟨_, rfl, [_], [_], rfl, rfl, rfl⟩⟩
theorem kv_int (ok : Nat → Prop) (W : World) (i : Int) : KV ok W Tryd.It i (.int .i64 i) := by unfold KV; rw [if_neg (by decide)]; rfl
end Go.Proofs.YthmlejcfgbpcbaaDoor
