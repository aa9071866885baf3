/- Proved: for every program, BufferStrong returns true, and the program reads as it did. Conditions: none. -/
import Derived.Test.YthfjgaifdadgnaaGreatKR6
/- Proved: for every program, BufferStrong returns true, and the program reads as it did. Conditions: none. -/
set_option autoImplicit false
set_option linter.all false
namespace Go.Proofs.YthfjgaifdadgnaaGreat
open Go Go.VM Go.ChangeShapes Go.WideShapes Go.ChangeAt Go.RowKit
open Go.Proofs.Tryz (Wk Sta U8 It Tu)
set_option maxRecDepth 100000
theorem bufferStrong_lifted (os : Os) (started : os.Started) (H : Type) (enc : TypeId × Value → H) :
    ReturnsInHanded {} Tryz.checked os 6 .any (Rows.bufferStrongSpec.pre6 enc Tryz.prog Tryz.f6 Rows.bufferStrongRow.domain false)
      (Rows.bufferStrongSpec.post enc Tryz.prog Tryz.f6 false true false false) := by
  refine returnsInHanded_of_change (C := Tryz.checked) own started (by kernel_rfl) Tryz.func6
    (ChangeSpec.witness6 (enc := enc) (C := Tryz.checked) false ⟨#[], #[.agg #[.slice none 0 0, .slice none 0 0, .int .i64 0]], []⟩ 8 (by kernel_rfl) (by kernel_rfl) (by kernel_rfl) (by kernel_rfl)) ?_
  intro W base args ds gs before hval0 hW _ _
  have hval : ∀ (j : Nat) t v, Tryz.f6.params[j]? = some t → args[j]? = some v → Value.okWide Tryz.prog W .any base t v := hval0
  have hW' := hW
  obtain ⟨p, q, hA0, hV, rfl, hfz, hnd⟩ := hW
  have hA : DataW.TrodAll enc Tryz.prog W 0 (fun _ => true) true Tryz.f6.params.toList args.toList ds p := hA0
  rw [Tryz.params6] at hA hval
  obtain ⟨v0, vs0, d0, ds0, p0, q0, hargs, rfl, rfl, h0, r0⟩ := trodAll_cons hA
  obtain ⟨rfl, rfl, rfl⟩ := trodAll_nil r0
  obtain rfl : args = #[v0] := by cases args; simp_all
  obtain ⟨rfl, rfl⟩ := trodVars_none hV
  have lt0 : ∀ x ∈ p0, x.block < W.heap.size := by obtain ⟨m, hm⟩ := h0; exact DataW.trod_lt m _ _ _ hm
  obtain ⟨x0, k0, e0⟩ := open_agg (T := Wk) rfl opens_wk (agg_of Tryz.underlying25 (hval 0 25 v0 rfl rfl)) h0
  clear hA0 hval0
  refine (law_walk (ts := [Wk]) Tryz.h6 [v0] (x0, ()) W ⟨k0, rfl⟩ e0).mono fun e W' ⟨he, bel⟩ => ?_
  subst he
  exact ⟨_, rfl, _, _, _, [], _, [], hW', trodAll_mk1 (shut_bool Tryz.underlying4 _), (trodAll_cons_mk (Below.trod cLaid (by kernel_rfl) (of_decide_eq_true (by kernel_rfl)) h0 bel lt0) trodAll_mk0), rfl, bel.frame _, fun h => by cases h⟩
theorem bufferStrong_c0 : Rows.bufferStrongRow.wf (OpenSpec.ofChange Rows.bufferStrongSpec) = true := by kernel_rfl
theorem bufferStrong_c1 : (Rows.bufferStrongRow.inPlace == Tryz.prog.inPlace 6) = true := by kernel_rfl
theorem bufferStrong_c2 : (Rows.bufferStrongRow.unfollowed == Tryz.prog.unfollowed 6) = true := by kernel_rfl
theorem bufferStrong_c3 : (Rows.bufferStrongRow.recurses == Tryz.prog.recurses 6) = true := by kernel_rfl
theorem bufferStrong_c4 : (Rows.bufferStrongRow.named == Tryz.prog.varsNamed 6) = true := by kernel_rfl
theorem bufferStrong_c5 : (Rows.bufferStrongRow.plainKeys == Tryz.prog.plainKeys) = true := by rw [cPlain]; kernel_rfl
theorem bufferStrong_c6 : namedTie Tryz.prog Rows.bufferStrongRow.named Rows.bufferStrongSpec.vars = true := by kernel_rfl
theorem bufferStrong_facts : joinedFacts Tryz.prog 6 Tryz.f6 Rows.bufferStrongSpec Rows.bufferStrongRow = true := by
  unfold joinedFacts
  rw [cEnter, cLaid, cMaps, cHeard, bufferStrong_c0, bufferStrong_c1, bufferStrong_c2, bufferStrong_c3, bufferStrong_c4, bufferStrong_c5, bufferStrong_c6]
  kernel_rfl
theorem bufferStrong_said : Rows.BufferStrongSaid :=
  OpenClaim.holds_of_wide 6 Tryz.f6 rfl rfl rfl rfl rfl rfl rfl ⟨rfl, rfl, rfl, rfl, rfl⟩ rfl rfl rfl rfl rfl (by kernel_rfl) Tryz.func6 bufferStrong_facts
    (of_decide_eq_true (by kernel_rfl)) (by unfold Func.isWrapper; first | (rw [if_pos (by decide +kernel)]; kernel_rfl) | (rw [if_neg (by decide +kernel)]; exact ⟨rfl, rfl⟩))
    (fun os started H enc _ => bufferStrong_lifted os started H enc)
end Go.Proofs.YthfjgaifdadgnaaGreat
