/- Proved: for every program, BufferChecks returns true, and the program reads as it did. Conditions: none. -/
import Derived.Test.YthfjgaifdadgnaaGreatKR10
/- Proved: for every program, BufferChecks returns true, and the program reads as it did. Conditions: none. -/
set_option autoImplicit false
set_option linter.all false
namespace Go.Proofs.YthfjgaifdadgnaaGreat
open Go Go.VM Go.ChangeShapes Go.WideShapes Go.ChangeAt Go.RowKit
open Go.Proofs.Tryz (Wk Sta U8 It Tu)
set_option maxRecDepth 100000
theorem bufferChecks_lifted (os : Os) (started : os.Started) (H : Type) (enc : TypeId × Value → H) :
    ReturnsInHanded {} Tryz.checked os 10 .any (Rows.bufferChecksSpec.pre6 enc Tryz.prog Tryz.f10 Rows.bufferChecksRow.domain false)
      (Rows.bufferChecksSpec.post enc Tryz.prog Tryz.f10 false true false false) := by
  refine returnsInHanded_of_change (C := Tryz.checked) own started (by kernel_rfl) Tryz.func10
    (ChangeSpec.witness6 (enc := enc) (C := Tryz.checked) false ⟨#[], #[.agg #[.slice none 0 0, .slice none 0 0, .int .i64 0]], []⟩ 8 (by kernel_rfl) (by kernel_rfl) (by kernel_rfl) (by kernel_rfl)) ?_
  intro W base args ds gs before hval0 hW _ _
  have hval : ∀ (j : Nat) t v, Tryz.f10.params[j]? = some t → args[j]? = some v → Value.okWide Tryz.prog W .any base t v := hval0
  have hW' := hW
  obtain ⟨p, q, hA0, hV, rfl, hfz, hnd⟩ := hW
  have hA : DataW.TrodAll enc Tryz.prog W 0 (fun _ => true) true Tryz.f10.params.toList args.toList ds p := hA0
  rw [Tryz.params10] at hA hval
  obtain ⟨v0, vs0, d0, ds0, p0, q0, hargs, rfl, rfl, h0, r0⟩ := trodAll_cons hA
  obtain ⟨rfl, rfl, rfl⟩ := trodAll_nil r0
  obtain rfl : args = #[v0] := by cases args; simp_all
  obtain ⟨rfl, rfl⟩ := trodVars_none hV
  have lt0 : ∀ x ∈ p0, x.block < W.heap.size := by obtain ⟨m, hm⟩ := h0; exact DataW.trod_lt m _ _ _ hm
  obtain ⟨x0, k0, e0⟩ := open_agg (T := Wk) rfl opens_wk (agg_of Tryz.underlying25 (hval 0 25 v0 rfl rfl)) h0
  clear hA0 hval0
  refine (law_walk (ts := [Wk]) Tryz.h10 [v0] (x0, ()) W ⟨k0, rfl⟩ e0).mono fun e W' ⟨he, bel⟩ => ?_
  subst he
  exact ⟨_, rfl, _, _, _, [], _, [], hW', trodAll_mk1 (shut_bool Tryz.underlying4 _), (trodAll_cons_mk (Below.trod cLaid (by kernel_rfl) (of_decide_eq_true (by kernel_rfl)) h0 bel lt0) trodAll_mk0), rfl, bel.frame _, fun h => by cases h⟩
theorem bufferChecks_c0 : Rows.bufferChecksRow.wf (OpenSpec.ofChange Rows.bufferChecksSpec) = true := by kernel_rfl
theorem bufferChecks_c1 : (Rows.bufferChecksRow.inPlace == Tryz.prog.inPlace 10) = true := by kernel_rfl
theorem bufferChecks_c2 : (Rows.bufferChecksRow.unfollowed == Tryz.prog.unfollowed 10) = true := by kernel_rfl
theorem bufferChecks_c3 : (Rows.bufferChecksRow.recurses == Tryz.prog.recurses 10) = true := by kernel_rfl
theorem bufferChecks_c4 : (Rows.bufferChecksRow.named == Tryz.prog.varsNamed 10) = true := by kernel_rfl
theorem bufferChecks_c5 : (Rows.bufferChecksRow.plainKeys == Tryz.prog.plainKeys) = true := by rw [cPlain]; kernel_rfl
theorem bufferChecks_c6 : namedTie Tryz.prog Rows.bufferChecksRow.named Rows.bufferChecksSpec.vars = true := by kernel_rfl
theorem bufferChecks_facts : joinedFacts Tryz.prog 10 Tryz.f10 Rows.bufferChecksSpec Rows.bufferChecksRow = true := by
  unfold joinedFacts
  rw [cEnter, cLaid, cMaps, cHeard, bufferChecks_c0, bufferChecks_c1, bufferChecks_c2, bufferChecks_c3, bufferChecks_c4, bufferChecks_c5, bufferChecks_c6]
  kernel_rfl
theorem bufferChecks_said : Rows.BufferChecksSaid :=
  OpenClaim.holds_of_wide 10 Tryz.f10 rfl rfl rfl rfl rfl rfl rfl ⟨rfl, rfl, rfl, rfl, rfl⟩ rfl rfl rfl rfl rfl (by kernel_rfl) Tryz.func10 bufferChecks_facts
    (of_decide_eq_true (by kernel_rfl)) (by unfold Func.isWrapper; first | (rw [if_pos (by decide +kernel)]; kernel_rfl) | (rw [if_neg (by decide +kernel)]; exact ⟨rfl, rfl⟩))
    (fun os started H enc _ => bufferChecks_lifted os started H enc)
end Go.Proofs.YthfjgaifdadgnaaGreat
