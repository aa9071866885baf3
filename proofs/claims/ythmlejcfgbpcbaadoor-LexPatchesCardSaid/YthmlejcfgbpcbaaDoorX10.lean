/- Proved: for every list of tokens, edit and change, LexPatches returns true, and all read as they did. Conditions: the five listed package variables start as the program's text lays them (the card ties them); none of ours. -/
import Derived.Test.YthmlejcfgbpcbaaDoorR0
import Derived.Test.YthmlejcfgbpcbaaDoorP15_0
set_option autoImplicit false
set_option linter.all false
namespace Go.Proofs.YthmlejcfgbpcbaaDoor
open Go Go.VM Go.ChangeShapes Go.WideShapes Go.ChangeAt Go.RowKit
open Go.ChangeMaps (open_string shut_string)
set_option maxRecDepth 100000
theorem lexPatches_lifted (os : Os) (started : os.Started) (H : Type) (enc : TypeId × Value → H) :
    ReturnsInHanded {} Tryd.checked os 11 .any (fun w args => (Rows.lexPatchesSpec.pre enc Tryd.prog Tryd.f11 Rows.lexPatchesRow.domain false w args ∧ laidMetH Tryd.prog laid5 w) ∧ sizedMet enc Tryd.prog Tryd.f11 (OpenSpec.ofChange Rows.lexPatchesSpec) false w args)
      (Rows.lexPatchesSpec.post enc Tryd.prog Tryd.f11 false true false false) := by
  refine returnsInHanded_of_change_and (C := Tryd.checked) (X := fun w _ => laidMetH Tryd.prog laid5 w) (fun _ _ _ hh h => h.of_heap hh) own started (by kernel_rfl) Tryd.func11
    (ChangeSpec.witness_shaped (enc := enc) (C := Tryd.checked) (os := os) (X := fun w _ => laidMetH Tryd.prog laid5 w) false (World.doorLaid Tryd.prog 72 os) #[.slice none 0 0, .agg #[.int .i64 0, .int .i64 0, .string ⟨#[]⟩], .agg #[.int .i64 0, .int .i64 0, .slice none 0 0]] 8 rfl (World.shaped_of_RefB (by kernel_rfl) (by kernel_rfl)) (by kernel_rfl) (by kernel_rfl) (by kernel_rfl) (door_met os _)) ?_
  intro W base args ds gs before hval0 hW _ hsz0 hL _
  have hval : ∀ (j : Nat) t v, Tryd.f11.params[j]? = some t → args[j]? = some v → Value.okWide Tryd.prog W .any base t v := hval0
  have hW' := hW
  obtain ⟨p, q, hA0, hV, rfl, hfz, hnd⟩ := hW
  have hA : DataW.TrodAll enc Tryd.prog W 0 (fun _ => true) true Tryd.f11.params.toList args.toList ds p := hA0
  rw [Tryd.params11] at hA hval
  obtain ⟨v0, vs0, d0, ds0, p0, q0, hargs, rfl, rfl, h0, r0⟩ := trodAll_cons hA
  obtain ⟨v1, vs1, d1, ds1, p1, q1, rfl, rfl, rfl, h1, r1⟩ := trodAll_cons r0
  obtain ⟨v2, vs2, d2, ds2, p2, q2, rfl, rfl, rfl, h2, r2⟩ := trodAll_cons r1
  obtain ⟨rfl, rfl, rfl⟩ := trodAll_nil r2
  obtain rfl : args = #[v0, v1, v2] := by cases args; simp_all
  obtain ⟨rfl, rfl⟩ := trodVars_none hV
  have lt0 : ∀ x ∈ p0, x.block < W.heap.size := by obtain ⟨m, hm⟩ := h0; exact DataW.trod_lt m _ _ _ hm
  obtain ⟨x0, k0⟩ := open_lexs (gl_all hL).2 (hval 0 24 v0 rfl rfl) h0
  have lt1 : ∀ x ∈ p1, x.block < W.heap.size := by obtain ⟨m, hm⟩ := h1; exact DataW.trod_lt m _ _ _ hm
  obtain ⟨x1, k1, b1⟩ := open_edit_b (hval 1 35 v1 rfl rfl) h1
  have lt2 : ∀ x ∈ p2, x.block < W.heap.size := by obtain ⟨m, hm⟩ := h2; exact DataW.trod_lt m _ _ _ hm
  obtain ⟨x2, k2⟩ := open_change (gl_all hL).2 (hval 2 40 v2 rfl rfl) h2
  clear hA0 hval0
  refine (law_walk (ts := [.sl Tryd.Lt, Tryd.Et, Tryd.Ct]) Tryd.h11 [v0, v1, v2] (x0, x1, x2, ()) W (gl_of hL) ⟨k0, k1, k2, rfl⟩).mono fun e W' ⟨he, bel⟩ => ?_
  subst he
  exact ⟨_, rfl, _, _, _, [], _, [], hW', trodAll_mk1 (shut_bool Tryd.underlying4 _), (trodAll_cons_mk (Below.trod cLaid (by kernel_rfl) (of_decide_eq_true (by kernel_rfl)) h0 bel lt0) (trodAll_cons_mk (Below.trod cLaid (by kernel_rfl) (of_decide_eq_true (by kernel_rfl)) h1 bel lt1) (trodAll_cons_mk (Below.trod cLaid (by kernel_rfl) (of_decide_eq_true (by kernel_rfl)) h2 bel lt2) trodAll_mk0))), rfl, bel.frame _, fun h => by cases h⟩
theorem lexPatches_c0 : Rows.lexPatchesRow.wf (OpenSpec.ofChange Rows.lexPatchesSpec) = true := by kernel_rfl
theorem lexPatches_c1 : (Rows.lexPatchesRow.inPlace == Tryd.prog.inPlace 11) = true := by kernel_rfl
theorem lexPatches_c2 : (Rows.lexPatchesRow.unfollowed == Tryd.prog.unfollowed 11) = true := by kernel_rfl
theorem lexPatches_c3 : (Rows.lexPatchesRow.recurses == Tryd.prog.recurses 11) = true := by kernel_rfl
theorem lexPatches_c4 : (Rows.lexPatchesRow.named == Tryd.prog.varsNamed 11) = true := by kernel_rfl
theorem lexPatches_c5 : (Rows.lexPatchesRow.plainKeys == Tryd.prog.plainKeys) = true := by rw [cPlain]; kernel_rfl
theorem lexPatches_c6 : namedTie Tryd.prog Rows.lexPatchesRow.named Rows.lexPatchesSpec.vars = true := by kernel_rfl
theorem lexPatches_facts : joinedFacts Tryd.prog 11 Tryd.f11 Rows.lexPatchesSpec Rows.lexPatchesRow = true := by
  unfold joinedFacts
  rw [cEnter, cLaid, cMaps, cHeard, lexPatches_c0, lexPatches_c1, lexPatches_c2, lexPatches_c3, lexPatches_c4, lexPatches_c5, lexPatches_c6]
  kernel_rfl
theorem lexPatches_said : Rows.LexPatchesSaid :=
  OpenClaim.holds_of_wide 11 Tryd.f11 rfl rfl rfl rfl rfl rfl rfl ⟨rfl, rfl, rfl, rfl, rfl⟩ rfl rfl rfl rfl rfl (by kernel_rfl) Tryd.func11 lexPatches_facts
    (of_decide_eq_true (by kernel_rfl)) (by unfold Func.isWrapper; first | (rw [if_pos (by decide +kernel)]; kernel_rfl) | (rw [if_neg (by decide +kernel)]; exact ⟨rfl, rfl⟩))
    (fun os started H enc _ => lexPatches_lifted os started H enc)
theorem lexPatches_params (f : FuncId) (fn : Func) (hf : Tryd.prog.funcNamed "dripstone/dripstonelaw01.LexPatches" = some f) (hfn : Tryd.prog.funcs[f]? = some fn) : true = Tryd.prog.looks [] ∧ ∀ (j : Nat) t, fn.params[j]? = some t → Tryd.prog.wantsStandIn t = false := by
  obtain rfl : f = 11 := Option.some.inj ((show Tryd.prog.funcNamed "dripstone/dripstonelaw01.LexPatches" = some 11 by kernel_rfl).symm.trans hf) |>.symm
  obtain rfl : fn = Tryd.f11 := (Option.some.inj (Tryd.func11.symm.trans hfn)).symm
  exact ⟨cLooks, fun j t ht => by
    rw [Tryd.params11] at ht
    have hm : t ∈ ([24, 35, 40] : List Nat) := by simpa using Array.mem_of_getElem? ht
    have hall : (([24, 35, 40] : List Nat).all fun u => !Tryd.prog.wantsStandIn u) = true := by kernel_rfl
    exact (show Tryd.prog.wantsStandIn t = false by simpa using List.all_eq_true.1 hall t hm)⟩
theorem lexPatches_wf : Rows.lexPatchesRow.wfByText (OpenSpec.ofChange Rows.lexPatchesSpec) = true := by kernel_rfl
theorem lexPatches_goes : false = Rows.lexPatchesRow.goesBy Tryd.prog := by kernel_rfl
theorem lexPatches_card_said : Rows.LexPatchesCardSaid :=
  Claim7.holds_tied_plain_at .later [] [.data, .data, .data, .sentinel, .sentinel] true (true, "23c33b467d2bd80078b50dfb00103e5091ed1073ec3f27099c28af2820ef364f") true
    lexPatches_said (fun _ h => by cases h) lexPatches_wf (fun _ h => by cases h) lexPatches_row_tie rfl ⟨rfl, rfl⟩ cMain rfl
    lexPatches_params lexPatches_goes
end Go.Proofs.YthmlejcfgbpcbaaDoor
