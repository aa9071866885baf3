/- Proved: for every program and byte, BufferTurned returns true, and both read as they did. Conditions: none. -/
import Derived.Test.YthfjgaifdadgnaaGreatKR9
/- Proved: for every program and byte, BufferTurned returns true, and both read as they did. Conditions: none. -/
set_option autoImplicit false
set_option linter.all false
namespace Go.Proofs.YthfjgaifdadgnaaGreat
open Go Go.VM Go.ChangeShapes Go.WideShapes Go.ChangeAt Go.RowKit
open Go.Proofs.Tryz (Wk Sta U8 It Tu)
set_option maxRecDepth 100000
theorem bufferTurned_lifted (os : Os) (started : os.Started) (H : Type) (enc : TypeId × Value → H) :
    ReturnsInHanded {} Tryz.checked os 9 .any (Rows.bufferTurnedSpec.pre6 enc Tryz.prog Tryz.f9 Rows.bufferTurnedRow.domain false)
      (Rows.bufferTurnedSpec.post enc Tryz.prog Tryz.f9 false true false false) := by
  refine returnsInHanded_of_change (C := Tryz.checked) own started (by kernel_rfl) Tryz.func9
    (ChangeSpec.witness6 (enc := enc) (C := Tryz.checked) false ⟨#[], #[.agg #[.slice none 0 0, .slice none 0 0, .int .i64 0], .int .u8 0], []⟩ 8 (by kernel_rfl) (by kernel_rfl) (by kernel_rfl) (by kernel_rfl)) ?_
  intro W base args ds gs before hval0 hW _ _
  have hval : ∀ (j : Nat) t v, Tryz.f9.params[j]? = some t → args[j]? = some v → Value.okWide Tryz.prog W .any base t v := hval0
  have hW' := hW
  obtain ⟨p, q, hA0, hV, rfl, hfz, hnd⟩ := hW
  have hA : DataW.TrodAll enc Tryz.prog W 0 (fun _ => true) true Tryz.f9.params.toList args.toList ds p := hA0
  rw [Tryz.params9] at hA hval
  obtain ⟨v0, vs0, d0, ds0, p0, q0, hargs, rfl, rfl, h0, r0⟩ := trodAll_cons hA
  obtain ⟨v1, vs1, d1, ds1, p1, q1, rfl, rfl, rfl, h1, r1⟩ := trodAll_cons r0
  obtain ⟨rfl, rfl, rfl⟩ := trodAll_nil r1
  obtain rfl : args = #[v0, v1] := by cases args; simp_all
  obtain ⟨rfl, rfl⟩ := trodVars_none hV
  have lt0 : ∀ x ∈ p0, x.block < W.heap.size := by obtain ⟨m, hm⟩ := h0; exact DataW.trod_lt m _ _ _ hm
  obtain ⟨x0, k0, e0⟩ := open_agg (T := Wk) rfl opens_wk (agg_of Tryz.underlying25 (hval 0 25 v0 rfl rfl)) h0
  obtain ⟨s1, rfl, rfl, rfl, y1⟩ := open_int Tryz.underlying5 (hval 1 5 v1 rfl rfl) h1
  have e1 := u8_of y1
  clear hA0 hval0
  refine (law_walk (ts := [Wk, U8]) Tryz.h9 [v0, .int .u8 s1] (x0, s1, ()) W ⟨k0, kv_u8 okA W s1, rfl⟩ ⟨e0, e1⟩).mono fun e W' ⟨he, bel⟩ => ?_
  subst he
  exact ⟨_, rfl, _, _, _, [], _, [], hW', trodAll_mk1 (shut_bool Tryz.underlying4 _), (trodAll_cons_mk (Below.trod cLaid (by kernel_rfl) (of_decide_eq_true (by kernel_rfl)) h0 bel lt0) (trodAll_cons_mk (shut_int Tryz.underlying5 y1) trodAll_mk0)), rfl, bel.frame _, fun h => by cases h⟩
theorem bufferTurned_c0 : Rows.bufferTurnedRow.wf (OpenSpec.ofChange Rows.bufferTurnedSpec) = true := by kernel_rfl
theorem bufferTurned_c1 : (Rows.bufferTurnedRow.inPlace == Tryz.prog.inPlace 9) = true := by kernel_rfl
theorem bufferTurned_c2 : (Rows.bufferTurnedRow.unfollowed == Tryz.prog.unfollowed 9) = true := by kernel_rfl
theorem bufferTurned_c3 : (Rows.bufferTurnedRow.recurses == Tryz.prog.recurses 9) = true := by kernel_rfl
theorem bufferTurned_c4 : (Rows.bufferTurnedRow.named == Tryz.prog.varsNamed 9) = true := by kernel_rfl
theorem bufferTurned_c5 : (Rows.bufferTurnedRow.plainKeys == Tryz.prog.plainKeys) = true := by rw [cPlain]; kernel_rfl
theorem bufferTurned_c6 : namedTie Tryz.prog Rows.bufferTurnedRow.named Rows.bufferTurnedSpec.vars = true := by kernel_rfl
theorem bufferTurned_facts : joinedFacts Tryz.prog 9 Tryz.f9 Rows.bufferTurnedSpec Rows.bufferTurnedRow = true := by
  unfold joinedFacts
  rw [cEnter, cLaid, cMaps, cHeard, bufferTurned_c0, bufferTurned_c1, bufferTurned_c2, bufferTurned_c3, bufferTurned_c4, bufferTurned_c5, bufferTurned_c6]
  kernel_rfl
theorem bufferTurned_said : Rows.BufferTurnedSaid :=
  OpenClaim.holds_of_wide 9 Tryz.f9 rfl rfl rfl rfl rfl rfl rfl ⟨rfl, rfl, rfl, rfl, rfl⟩ rfl rfl rfl rfl rfl (by kernel_rfl) Tryz.func9 bufferTurned_facts
    (of_decide_eq_true (by kernel_rfl)) (by unfold Func.isWrapper; first | (rw [if_pos (by decide +kernel)]; kernel_rfl) | (rw [if_neg (by decide +kernel)]; exact ⟨rfl, rfl⟩))
    (fun os started H enc _ => bufferTurned_lifted os started H enc)
end Go.Proofs.YthfjgaifdadgnaaGreat
