/- Proved: for every program and turns, BufferRight returns true, and both read as they did. Conditions: none. -/
import Derived.Test.YthfjgaifdadgnaaGreatKR16
/- Proved: for every program and turns, BufferRight returns true, and both read as they did. Conditions: none. -/
set_option autoImplicit false
set_option linter.all false
namespace Go.Proofs.YthfjgaifdadgnaaGreat
open Go Go.VM Go.ChangeShapes Go.WideShapes Go.ChangeAt Go.RowKit
open Go.Proofs.Tryz (Wk Sta U8 It Tu)
set_option maxRecDepth 100000
theorem bufferRight_lifted (os : Os) (started : os.Started) (H : Type) (enc : TypeId × Value → H) :
    ReturnsInHanded {} Tryz.checked os 16 .any (Rows.bufferRightSpec.pre6 enc Tryz.prog Tryz.f16 Rows.bufferRightRow.domain false)
      (Rows.bufferRightSpec.post enc Tryz.prog Tryz.f16 false true false false) := by
  refine returnsInHanded_of_change (C := Tryz.checked) own started (by kernel_rfl) Tryz.func16
    (ChangeSpec.witness6 (enc := enc) (C := Tryz.checked) false ⟨#[], #[.agg #[.slice none 0 0, .slice none 0 0, .int .i64 0], .agg #[.slice none 0 0]], []⟩ 8 (by kernel_rfl) (by kernel_rfl) (by kernel_rfl) (by kernel_rfl)) ?_
  intro W base args ds gs before hval0 hW _ _
  have hval : ∀ (j : Nat) t v, Tryz.f16.params[j]? = some t → args[j]? = some v → Value.okWide Tryz.prog W .any base t v := hval0
  have hW' := hW
  obtain ⟨p, q, hA0, hV, rfl, hfz, hnd⟩ := hW
  have hA : DataW.TrodAll enc Tryz.prog W 0 (fun _ => true) true Tryz.f16.params.toList args.toList ds p := hA0
  rw [Tryz.params16] at hA hval
  obtain ⟨v0, vs0, d0, ds0, p0, q0, hargs, rfl, rfl, h0, r0⟩ := trodAll_cons hA
  obtain ⟨v1, vs1, d1, ds1, p1, q1, rfl, rfl, rfl, h1, r1⟩ := trodAll_cons r0
  obtain ⟨rfl, rfl, rfl⟩ := trodAll_nil r1
  obtain rfl : args = #[v0, v1] := by cases args; simp_all
  obtain ⟨rfl, rfl⟩ := trodVars_none hV
  have lt0 : ∀ x ∈ p0, x.block < W.heap.size := by obtain ⟨m, hm⟩ := h0; exact DataW.trod_lt m _ _ _ hm
  obtain ⟨x0, k0, e0⟩ := open_agg (T := Wk) rfl opens_wk (agg_of Tryz.underlying25 (hval 0 25 v0 rfl rfl)) h0
  have lt1 : ∀ x ∈ p1, x.block < W.heap.size := by obtain ⟨m, hm⟩ := h1; exact DataW.trod_lt m _ _ _ hm
  obtain ⟨x1, k1, e1⟩ := open_agg (T := Tu) rfl opens_tu (agg_of Tryz.underlying93 (hval 1 93 v1 rfl rfl)) h1
  clear hA0 hval0
  refine (law_walk (ts := [Wk, Tu]) Tryz.h16 [v0, v1] (x0, x1, ()) W ⟨k0, k1, rfl⟩ ⟨e0, e1⟩).mono fun e W' ⟨he, bel⟩ => ?_
  subst he
  exact ⟨_, rfl, _, _, _, [], _, [], hW', trodAll_mk1 (shut_bool Tryz.underlying4 _), (trodAll_cons_mk (Below.trod cLaid (by kernel_rfl) (of_decide_eq_true (by kernel_rfl)) h0 bel lt0) (trodAll_cons_mk (Below.trod cLaid (by kernel_rfl) (of_decide_eq_true (by kernel_rfl)) h1 bel lt1) trodAll_mk0)), rfl, bel.frame _, fun h => by cases h⟩
theorem bufferRight_c0 : Rows.bufferRightRow.wf (OpenSpec.ofChange Rows.bufferRightSpec) = true := by kernel_rfl
theorem bufferRight_c1 : (Rows.bufferRightRow.inPlace == Tryz.prog.inPlace 16) = true := by kernel_rfl
theorem bufferRight_c2 : (Rows.bufferRightRow.unfollowed == Tryz.prog.unfollowed 16) = true := by kernel_rfl
theorem bufferRight_c3 : (Rows.bufferRightRow.recurses == Tryz.prog.recurses 16) = true := by kernel_rfl
theorem bufferRight_c4 : (Rows.bufferRightRow.named == Tryz.prog.varsNamed 16) = true := by kernel_rfl
theorem bufferRight_c5 : (Rows.bufferRightRow.plainKeys == Tryz.prog.plainKeys) = true := by rw [cPlain]; kernel_rfl
theorem bufferRight_c6 : namedTie Tryz.prog Rows.bufferRightRow.named Rows.bufferRightSpec.vars = true := by kernel_rfl
theorem bufferRight_facts : joinedFacts Tryz.prog 16 Tryz.f16 Rows.bufferRightSpec Rows.bufferRightRow = true := by
  unfold joinedFacts
  rw [cEnter, cLaid, cMaps, cHeard, bufferRight_c0, bufferRight_c1, bufferRight_c2, bufferRight_c3, bufferRight_c4, bufferRight_c5, bufferRight_c6]
  kernel_rfl
theorem bufferRight_said : Rows.BufferRightSaid :=
  OpenClaim.holds_of_wide 16 Tryz.f16 rfl rfl rfl rfl rfl rfl rfl ⟨rfl, rfl, rfl, rfl, rfl⟩ rfl rfl rfl rfl rfl (by kernel_rfl) Tryz.func16 bufferRight_facts
    (of_decide_eq_true (by kernel_rfl)) (by unfold Func.isWrapper; first | (rw [if_pos (by decide +kernel)]; kernel_rfl) | (rw [if_neg (by decide +kernel)]; exact ⟨rfl, rfl⟩))
    (fun os started H enc _ => bufferRight_lifted os started H enc)
end Go.Proofs.YthfjgaifdadgnaaGreat
