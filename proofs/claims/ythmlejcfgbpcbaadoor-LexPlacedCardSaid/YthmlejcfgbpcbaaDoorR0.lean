/- What the laid package variables give to the rows. No condition of ours. -/
import Derived.Test.YthmlejcfgbpcbaaDoorRows
import Derived.Test.YthmlejcfgbpcbaaDoorTie
import Derived.Test.YthmlejcfgbpcbaaDoorCards
import Derived.Test.YthmlejcfgbpcbaaDoorL2
import Derived.WalkKit
import Derived.ProofKit
import Derived.OpenShut
import Derived.ShutString
import Derived.ChangeOld
import Derived.Below
import Derived.SizedLaws
import Derived.LaidMore
import Derived.Stop.Joined
import Derived.Stop.LaidErr
import Derived.SevenTiedAt
import Derived.Lib.LaidTab
import Derived.Deep.Strs
import Derived.WideShapes
import Derived.ChangeArms
import Derived.JoinedOf
set_option autoImplicit false
set_option linter.all false
namespace Go.Proofs.YthmlejcfgbpcbaaDoor
open Go Go.VM Go.ChangeShapes Go.WideShapes Go.ChangeAt Go.RowKit
open Go.ChangeMaps (open_string shut_string)
open Go.Proofs.Tryd (Lx Lt Ed Et Ch Ct)
set_option maxRecDepth 100000
theorem own : ownKnob Tryd.prog.godebug = none := by kernel_rfl
def laid5 : List (String × DataW Unit) := [("math/bits.deBruijn32tab", Rows.laid_math_bits_deBruijn32tab), ("math/bits.deBruijn64tab", Rows.laid_math_bits_deBruijn64tab), ("internal/strconv.uint64pow10", Rows.laid_internal_strconv_uint64pow10), ("strconv.ErrRange", Rows.laid_strconv_ErrRange), ("strconv.ErrSyntax", Rows.laid_strconv_ErrSyntax)]
theorem door_met (os : Os) (args : Array Value) : laidMetH Tryd.prog laid5 ((World.doorLaid Tryd.prog 72 os).forCall (fun _ _ => 0) ⟨#[], args, []⟩).memory :=
  laidMetH_of_parts3 (fuel := 8) (laidMet_of_run' 8 (by kernel_rfl) (by kernel_rfl)) (by kernel_rfl) (by kernel_rfl)
theorem g64 : Tryd.prog.globalNamed "math/bits.deBruijn64tab" = some 7 := by kernel_rfl
theorem gPow : Tryd.prog.globalNamed "internal/strconv.uint64pow10" = some 5 := by kernel_rfl
theorem gRange : Tryd.prog.globalNamed "strconv.ErrRange" = some 2 := by kernel_rfl
theorem gSyntax : Tryd.prog.globalNamed "strconv.ErrSyntax" = some 1 := by kernel_rfl
theorem powD : (Rows.laid_internal_strconv_uint64pow10 : DataW Unit) = Lib.tabData .u64 Lib.pow10Tab := by kernel_rfl
theorem ptrName (u : TypeId) (h : Tryd.prog.typeName? 3 u = some "*errors.errorString") : u = 165 :=
  typeName_ptr_named (nm := "errors.errorString") (by rw [show "*" ++ "errors.errorString" = "*errors.errorString" by decide]; kernel_rfl) (by kernel_rfl) (by decide) u (by rw [show "*" ++ "errors.errorString" = "*errors.errorString" by decide]; exact h)
theorem cells167 : Tryd.prog.cellsOf 167 = 1 := by kernel_rfl
theorem cells9 : Tryd.prog.cellsOf 9 = 1 := by kernel_rfl
/-- The block of a variable that reads. -/
theorem var_block {P : Program} {w : World} {n : String} {g : Nat} {cs : Array Value} (hg : P.globalNamed n = some g) (h : w.var? P n = some cs) : ∃ t fr, w.heap[g]? = some (.cells cs t fr) := by
  unfold World.var? at h
  rw [hg] at h
  simp only [Option.bind_some] at h
  split at h
  · rename_i c t fr hb
    cases h
    exact ⟨t, fr, hb⟩
  · cases h
theorem lt_of_block {w : World} {b : Nat} {o : Obj} (h : w.heap[b]? = some o) : b < w.heap.size := by
  rcases Nat.lt_or_ge b w.heap.size with h' | h'
  · exact h'
  · simp [Array.getElem?_eq_none h'] at h
/-- The package's variables, as the machine takes them. -/
theorem gl_all {W : World} (h : laidMetH Tryd.prog laid5 W) : glW W ∧ ∀ (a : Addr) (v : Value), glB a.block → W.cell? a = some v → (∃ t u, v = .iface t u) ∨ ∃ n, v = .int .u64 n := by
  rw [MakeChecks.laidMetH_plain _ _ _ (by kernel_rfl)] at h
  have h2 : laidMet Tryd.prog [("math/bits.deBruijn64tab", Rows.laid_math_bits_deBruijn64tab), ("internal/strconv.uint64pow10", Rows.laid_internal_strconv_uint64pow10), ("strconv.ErrRange", Rows.laid_strconv_ErrRange), ("strconv.ErrSyntax", Rows.laid_strconv_ErrSyntax)] W := h.tail
  have h3 : laidMet Tryd.prog [("internal/strconv.uint64pow10", Rows.laid_internal_strconv_uint64pow10), ("strconv.ErrRange", Rows.laid_strconv_ErrRange), ("strconv.ErrSyntax", Rows.laid_strconv_ErrSyntax)] W := h2.tail
  have h4 : laidMet Tryd.prog [("strconv.ErrRange", Rows.laid_strconv_ErrRange), ("strconv.ErrSyntax", Rows.laid_strconv_ErrSyntax)] W := h3.tail
  have h5 : laidMet Tryd.prog [("strconv.ErrSyntax", Rows.laid_strconv_ErrSyntax)] W := h4.tail
  have hsz : 7 < W.heap.size := by
    obtain ⟨ps, ⟨g', t', cs, fuel, p, q, hg', ht', hvar, hd, _, _⟩, _⟩ := h2
    obtain ⟨t, fr, hb⟩ := var_block g64 hvar
    exact lt_of_block hb
  rw [powD] at h3
  have ht := Lib.tabIs_of_head gPow (show (Tryd.prog.globals[5]?).map (·.type) = some 169 by kernel_rfl) Tryd.underlying169 Tryd.underlying116 (by kernel_rfl) (by kernel_rfl) h3
  obtain ⟨t5, f5, hb5⟩ := var_block gPow ht
  obtain ⟨a0, s0, hv0, -, -, -⟩ := laid_sentinel h4 gRange (show (Tryd.prog.globals[2]?).map (·.type) = some 110 by kernel_rfl) Tryd.underlying110 ptrName Tryd.underlying165 Tryd.underlying167 rfl rfl Tryd.underlying9 cells167 cells9
  obtain ⟨a1, s1, hv1, -, -, -⟩ := laid_sentinel h5 gSyntax (show (Tryd.prog.globals[1]?).map (·.type) = some 110 by kernel_rfl) Tryd.underlying110 ptrName Tryd.underlying165 Tryd.underlying167 rfl rfl Tryd.underlying9 cells167 cells9
  obtain ⟨t1, f1, hb1⟩ := var_block gSyntax hv1
  obtain ⟨t2, f2, hb2⟩ := var_block gRange hv0
  refine ⟨⟨by simp only [glN]; omega, ⟨t5, f5, hb5⟩, ⟨_, by have h0 := World.var?_cell gSyntax hv1 0; simpa using h0, .inr ⟨_, _, rfl⟩⟩, ⟨_, by have h0 := World.var?_cell gRange hv0 0; simpa using h0, .inr ⟨_, _, rfl⟩⟩⟩, fun a v ha hv => ?_⟩
  unfold World.cell? at hv
  rcases ha with ha | ha | ha
  · rw [ha, hb1] at hv
    simp only at hv
    split at hv
    · cases hv
    · have := List.mem_of_getElem? (by simpa using hv : ([Value.iface 165 (.pointer (some a1))] : List Value)[a.off]? = some v)
      simp only [List.mem_singleton] at this
      exact .inl ⟨_, _, this⟩
  · rw [ha, hb2] at hv
    simp only at hv
    split at hv
    · cases hv
    · have := List.mem_of_getElem? (by simpa using hv : ([Value.iface 165 (.pointer (some a0))] : List Value)[a.off]? = some v)
      simp only [List.mem_singleton] at this
      exact .inl ⟨_, _, this⟩
  · rw [ha, hb5] at hv
    simp only at hv
    split at hv
    · cases hv
    · have := List.mem_of_getElem? (by simpa using hv : (Lib.pow10Tab.map fun z => Value.int .u64 z)[a.off]? = some v)
      obtain ⟨z, _, rfl⟩ := List.mem_map.1 this
      exact .inr ⟨z, rfl⟩
theorem gl_of {W : World} (h : laidMetH Tryd.prog laid5 W) : glW W := (gl_all h).1

/-! ### arguments, read into plain data -/
/-- The blocks that an argument may lie in. -/
def okA (b : Nat) : Prop := ¬ glB b
theorem exists_list {α : Type} {R : Nat → α → Prop} : ∀ n : Nat, (∀ i, i < n → ∃ y, R i y) → ∃ l : List α, l.length = n ∧ ∀ i y, l[i]? = some y → R i y
  | 0, _ => ⟨[], rfl, fun i y h => by simp at h⟩
  | n + 1, h => by
    obtain ⟨l, h1, h2⟩ := exists_list n fun i hi => h i (by omega)
    obtain ⟨y, hy⟩ := h n (by omega)
    refine ⟨l ++ [y], by simp [h1], fun i z hz => ?_⟩
    rw [List.getElem?_append] at hz
    split at hz
    · exact h2 i z hz
    · rename_i hl
      have : i = n := by
        have := (List.getElem?_eq_some_iff.1 hz).1
        simp at this
        omega
      subst this
      simp [h1] at hz
      subst hz
      exact hy
theorem c48 : Tryd.prog.cellsOf 48 = 3 := by kernel_rfl
theorem c5 : Tryd.prog.cellsOf 5 = 1 := by kernel_rfl
theorem c3 : Tryd.prog.cellsOf 3 = 1 := by kernel_rfl
theorem c35 : Tryd.prog.cellsOf 35 = 3 := by kernel_rfl
theorem c40 : Tryd.prog.cellsOf 40 = 3 := by kernel_rfl
theorem c24 : Tryd.prog.cellsOf 24 = 1 := by kernel_rfl
section
variable {H : Type} {enc : TypeId × Value → H} {W : World} {base : Nat} {sp : Nat → Bool} {held : Bool}
theorem lex_cells {n : Nat} {cs : List Value} {x : DataW H × List MemPlace} (h : DataW.trod enc Tryd.prog W base sp held n 48 cs = some x) : ∃ y : Lx, cs = [.int .u8 y.1, .string y.2.1, .int .i64 y.2.2] := by
  obtain ⟨y0, y1, y2, m, _, hl, h0, h1, h2⟩ := Deep.trod_struct3 Tryd.underlying48 h
  rw [c48] at hl
  match cs, hl with
  | [a, b, c], _ =>
    simp only [c5, c3, cells9, List.drop_zero, List.drop_succ_cons, List.take_succ_cons, List.take_zero] at h0 h1 h2
    obtain ⟨k, e0, _⟩ := DataW.trod_int Tryd.underlying5 h0
    obtain ⟨s, e1, _⟩ := DataW.trod_string Tryd.underlying9 h1
    obtain ⟨z, e2, _⟩ := DataW.trod_int Tryd.underlying3 h2
    simp only [List.cons.injEq, and_true] at e0 e1 e2
    exact ⟨(k, s, z), by rw [e0, e1, e2]⟩
theorem lex_slice {n : Nat} {cs : List Value} {x : DataW H × List MemPlace} (hgl : ∀ (a : Addr) (v : Value), glB a.block → W.cell? a = some v → (∃ t u, v = .iface t u) ∨ ∃ n, v = .int .u64 n)
    (h : DataW.trod enc Tryd.prog W base sp held n 24 cs = some x) : ∃ l : List Lx, K okA W (.sl Lt) l cs := by
  rcases DataW.trod_slice Tryd.underlying24 h with ⟨rfl, _⟩ | ⟨a, len, cap, elems, rest, m, _, rfl, _, _, hlc, _, hel, hi, _, _⟩
  · exact ⟨[], none, 0, rfl, Nat.le_refl _, fun h => by simp at h⟩
  · obtain ⟨l, hl, hR⟩ := exists_list (R := fun i (y : Lx) => W.cell? (a.add (i * 3)) = some (.int .u8 y.1) ∧ W.cell? (a.add (i * 3 + 1)) = some (.string y.2.1) ∧ W.cell? (a.add (i * 3 + 2)) = some (.int .i64 y.2.2)) len (fun i hlt => by
      have e := hi i hlt
      rw [List.getElem?_eq_getElem (by omega), c48] at e
      obtain ⟨cs, hc, ht⟩ := Option.bind_eq_some_iff.1 e
      obtain ⟨y, rfl⟩ := lex_cells ht
      obtain ⟨_, _, hcell⟩ := World.cells?_some hc
      refine ⟨y, ?_, ?_, ?_⟩
      · have := hcell 0 (by omega); rw [Addr.add_add] at this; simpa using this
      · have := hcell 1 (by omega); rw [Addr.add_add] at this; simpa using this
      · have := hcell 2 (by omega); rw [Addr.add_add] at this; simpa using this)
    refine ⟨l, some a, cap, by rw [hl], by rw [hl]; exact hlc, fun hpos => ⟨a, rfl, ?_, fun j y hy => ?_⟩⟩
    · intro hb
      obtain ⟨y, hy⟩ : ∃ y, l[0]? = some y := ⟨_, List.getElem?_eq_getElem hpos⟩
      obtain ⟨_, hc, _⟩ := hR 0 y hy
      have hblk : (a.add (0 * 3 + 1)).block = a.block := VM.add_block a _
      rcases hgl _ _ (by rw [hblk]; exact hb) hc with ⟨t, u, e⟩ | ⟨z, e⟩ <;> cases e
    · obtain ⟨q0, q1, q2⟩ := hR j y hy
      refine ⟨[.int .u8 y.1, .string y.2.1, .int .i64 y.2.2], ⟨[.int .u8 y.1], [.string y.2.1, .int .i64 y.2.2], rfl, rfl, [.string y.2.1], [.int .i64 y.2.2], rfl, rfl, rfl⟩, fun i u hu => ?_⟩
      have e3 : Lt.n = 3 := rfl
      rw [e3]
      match i, hu with
      | 0, hu => simp at hu; subst hu; exact q0
      | 1, hu => simp at hu; subst hu; exact q1
      | 2, hu => simp at hu; subst hu; exact q2
      | _ + 3, hu => simp at hu
theorem open_lexs {v : Value} {d : DataW H} {p : List MemPlace} (hgl : ∀ (a : Addr) (v : Value), glB a.block → W.cell? a = some v → (∃ t u, v = .iface t u) ∨ ∃ n, v = .int .u64 n) {r : Reach} {b0 : Nat}
    (hval : Value.okWide Tryd.prog W r b0 24 v) (h : DataW.Trod enc Tryd.prog W base sp held 24 v d p) : ∃ l : List Lx, KV okA W (.sl Lt) l v := by
  obtain ⟨a, len, cap, rfl⟩ := okWide_slice Tryd.underlying24 hval
  obtain ⟨fuel, hf⟩ := h
  obtain ⟨l, hl⟩ := lex_slice hgl hf
  exact ⟨l, by unfold KV; rw [if_neg (by decide)]; simpa [Value.cells] using hl⟩
theorem open_edit_b {v : Value} {d : DataW H} {p : List MemPlace} {r : Reach} {b0 : Nat} (hval : Value.okWide Tryd.prog W r b0 35 v) (h : DataW.Trod enc Tryd.prog W base sp held 35 v d p) : ∃ x : Ed, KV okA W Et x v ∧ ((∀ n ∈ d.weights Tryd.prog 35, n ≤ reachBytes) → x.2.2.size ≤ 281474976710656) := by
  obtain ⟨cs, rfl, _⟩ := okWide_struct Tryd.underlying35 hval
  obtain ⟨fuel, hf⟩ := h
  obtain ⟨y0, y1, y2, m, ex, hl, h0, h1, h2⟩ := Deep.trod_struct3 Tryd.underlying35 hf
  rw [c35] at hl
  obtain ⟨cl⟩ := cs
  have hl : cl.length = 3 := hl
  match cl, hl with
  | [a, b, c], _ =>
    simp only [Value.cells, c3, cells9, List.drop_zero, List.drop_succ_cons, List.take_succ_cons, List.take_zero] at h0 h1 h2
    obtain ⟨k, e0, _⟩ := DataW.trod_int Tryd.underlying3 h0
    obtain ⟨z, e1, _⟩ := DataW.trod_int Tryd.underlying3 h1
    obtain ⟨s, e2, ey, hs⟩ := DataW.trod_string Tryd.underlying9 h2
    simp only [List.cons.injEq, and_true] at e0 e1 e2
    subst e0 e1 e2
    refine ⟨(k, z, s), by unfold KV; rw [if_pos (by decide)]; exact ⟨_, rfl, [_], [_, _], rfl, rfl, [_], [_], rfl, rfl, rfl⟩, fun hw => Nat.le_trans (hw s.size ?_) (by decide)⟩
    have ex' : d = .agg [y0.1, y1.1, y2.1] := congrArg Prod.fst ex
    rw [ex', ey]
    simp [DataW.weights, Tryd.underlying35, DataW.weightsEach]
theorem open_edit {v : Value} {d : DataW H} {p : List MemPlace} {r : Reach} {b0 : Nat} (hval : Value.okWide Tryd.prog W r b0 35 v) (h : DataW.Trod enc Tryd.prog W base sp held 35 v d p) : ∃ x : Ed, KV okA W Et x v := by
  obtain ⟨x, hx, _⟩ := open_edit_b hval h
  exact ⟨x, hx⟩
theorem open_change {v : Value} {d : DataW H} {p : List MemPlace} (hgl : ∀ (a : Addr) (v : Value), glB a.block → W.cell? a = some v → (∃ t u, v = .iface t u) ∨ ∃ n, v = .int .u64 n) {r : Reach} {b0 : Nat} (hval : Value.okWide Tryd.prog W r b0 40 v) (h : DataW.Trod enc Tryd.prog W base sp held 40 v d p) : ∃ x : Ch, KV okA W Ct x v := by
  obtain ⟨cs, rfl, _⟩ := okWide_struct Tryd.underlying40 hval
  obtain ⟨fuel, hf⟩ := h
  obtain ⟨y0, y1, y2, m, _, hl, h0, h1, h2⟩ := Deep.trod_struct3 Tryd.underlying40 hf
  rw [c40] at hl
  obtain ⟨cl⟩ := cs
  have hl : cl.length = 3 := hl
  match cl, hl with
  | [a, b, c], _ =>
    simp only [Value.cells, c3, c24, List.drop_zero, List.drop_succ_cons, List.take_succ_cons, List.take_zero] at h0 h1 h2
    obtain ⟨k, e0, _⟩ := DataW.trod_int Tryd.underlying3 h0
    obtain ⟨z, e1, _⟩ := DataW.trod_int Tryd.underlying3 h1
    obtain ⟨l, hK⟩ := lex_slice hgl h2
    simp only [List.cons.injEq, and_true] at e0 e1
    subst e0 e1
    exact ⟨(k, z, l), by unfold KV; rw [if_pos (by decide)]; exact ⟨_, rfl, [_], [_, _], rfl, rfl, [_], [_], rfl, rfl, hK⟩⟩
end
/-- A law, walked. -/
theorem law_walkp {g : FuncId} {ts : List Ty} {p : Ds ts → Prop} (h : SpecOk Tryd.prog g ⟨ts, [.bool], p, fun _ => (true, ())⟩) (vs : List Value) (x : Ds ts) (W : World) (hG : glW W) (hx : KVs okA W ts x vs) (hp : p x) : Calls Tryd.prog g vs.toArray W fun e W' => e = .returned (.bool true) ∧ Below W.heap.size W W' := by
  refine (h.2 okA W vs x ⟨hG, fun b hb hk => hk hb⟩ hx hp).mono fun e w' he => ?_
  obtain ⟨v, rfl, hb, hR⟩ := he
  refine ⟨?_, hb⟩
  have hR : KV _ w' .bool true v := hR
  simp only [KV, Ty.agg, K, List.cons.injEq, and_true] at hR
  have hR' : v = .bool true := by simpa using hR
  rw [hR']
theorem law_walk {g : FuncId} {ts : List Ty} (h : SpecOk Tryd.prog g ⟨ts, [.bool], fun _ => True, fun _ => (true, ())⟩) (vs : List Value) (x : Ds ts) (W : World) (hG : glW W) (hx : KVs okA W ts x vs) : Calls Tryd.prog g vs.toArray W fun e W' => e = .returned (.bool true) ∧ Below W.heap.size W W' := law_walkp h vs x W hG hx trivial
theorem kv_str (ok : Nat → Prop) (W : World) (s : ByteArray) : KV ok W .str s (.string s) := by unfold KV; rw [if_neg (by decide)]; rfl
end Go.Proofs.YthmlejcfgbpcbaaDoor
set_option autoImplicit false
set_option linter.all false
namespace Go.Proofs.YthmlejcfgbpcbaaDoor
open Go
set_option maxRecDepth 100000
/-! ### the program's own closed facts, each once -/
theorem cEnter : Tryd.prog.mayEnter = true := by kernel_rfl
theorem cLaid : laidOutB Tryd.prog = true := by kernel_rfl
theorem cMaps : mapsRowed Tryd.prog = true := by kernel_rfl
theorem cHeard : Tryd.prog.stopsHeard = true := by kernel_rfl
theorem cLooks : true = Tryd.prog.looks [] := by kernel_rfl
theorem cMain : Tryd.prog.mainIs = some (true, "23c33b467d2bd80078b50dfb00103e5091ed1073ec3f27099c28af2820ef364f".toList) := by kernel_rfl
theorem cPlain : Tryd.prog.plainKeys = Rows.lexScansRow.plainKeys := by kernel_rfl
end Go.Proofs.YthmlejcfgbpcbaaDoor
