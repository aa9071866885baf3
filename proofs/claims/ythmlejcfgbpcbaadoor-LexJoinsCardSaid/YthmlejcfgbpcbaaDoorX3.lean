/- Proved: for every list of tokens, LexJoins returns true, and the list reads as it did. Conditions: the five listed package variables start as the program's text lays them (the card ties them); none of ours. -/
import Derived.Test.YthmlejcfgbpcbaaDoorR0
set_option autoImplicit false
set_option linter.all false
namespace Go.Proofs.YthmlejcfgbpcbaaDoor
open Go Go.VM Go.ChangeShapes Go.WideShapes Go.ChangeAt Go.RowKit
open Go.ChangeMaps (open_string shut_string)
set_option maxRecDepth 100000
theorem lexJoins_lifted (os : Os) (started : os.Started) (H : Type) (enc : TypeId × Value → H) :
    ReturnsInHanded {} Tryd.checked os 5 .any (fun w args => (Rows.lexJoinsSpec.pre enc Tryd.prog Tryd.f5 Rows.lexJoinsRow.domain false w args ∧ laidMetH Tryd.prog laid5 w) ∧ sizedMet enc Tryd.prog Tryd.f5 (OpenSpec.ofChange Rows.lexJoinsSpec) false w args)
      (Rows.lexJoinsSpec.post enc Tryd.prog Tryd.f5 false true false false) := by
  refine returnsInHanded_of_change_and (C := Tryd.checked) (X := fun w _ => laidMetH Tryd.prog laid5 w) (fun _ _ _ hh h => h.of_heap hh) own started (by kernel_rfl) Tryd.func5
    (ChangeSpec.witness_shaped (enc := enc) (C := Tryd.checked) (os := os) (X := fun w _ => laidMetH Tryd.prog laid5 w) false (World.doorLaid Tryd.prog 72 os) #[.slice none 0 0] 8 rfl (World.shaped_of_RefB (by kernel_rfl) (by kernel_rfl)) (by kernel_rfl) (by kernel_rfl) (by kernel_rfl) (door_met os _)) ?_
  intro W base args ds gs before hval0 hW _ hsz0 hL _
  have hval : ∀ (j : Nat) t v, Tryd.f5.params[j]? = some t → args[j]? = some v → Value.okWide Tryd.prog W .any base t v := hval0
  have hW' := hW
  obtain ⟨p, q, hA0, hV, rfl, hfz, hnd⟩ := hW
  have hA : DataW.TrodAll enc Tryd.prog W 0 (fun _ => true) true Tryd.f5.params.toList args.toList ds p := hA0
  rw [Tryd.params5] at hA hval
  obtain ⟨v0, vs0, d0, ds0, p0, q0, hargs, rfl, rfl, h0, r0⟩ := trodAll_cons hA
  obtain ⟨rfl, rfl, rfl⟩ := trodAll_nil r0
  obtain rfl : args = #[v0] := by cases args; simp_all
  obtain ⟨rfl, rfl⟩ := trodVars_none hV
  have lt0 : ∀ x ∈ p0, x.block < W.heap.size := by obtain ⟨m, hm⟩ := h0; exact DataW.trod_lt m _ _ _ hm
  obtain ⟨x0, k0⟩ := open_lexs (gl_all hL).2 (hval 0 24 v0 rfl rfl) h0
  clear hA0 hval0
  refine (law_walk (ts := [.sl Tryd.Lt]) Tryd.h5 [v0] (x0, ()) W (gl_of hL) ⟨k0, rfl⟩).mono fun e W' ⟨he, bel⟩ => ?_
  subst he
  exact ⟨_, rfl, _, _, _, [], _, [], hW', trodAll_mk1 (shut_bool Tryd.underlying4 _), (trodAll_cons_mk (Below.trod cLaid (by kernel_rfl) (of_decide_eq_true (by kernel_rfl)) h0 bel lt0) trodAll_mk0), rfl, bel.frame _, fun h => by cases h⟩
theorem lexJoins_c0 : Rows.lexJoinsRow.wf (OpenSpec.ofChange Rows.lexJoinsSpec) = true := by kernel_rfl
theorem lexJoins_c1 : (Rows.lexJoinsRow.inPlace == Tryd.prog.inPlace 5) = true := by kernel_rfl
theorem lexJoins_c2 : (Rows.lexJoinsRow.unfollowed == Tryd.prog.unfollowed 5) = true := by kernel_rfl
theorem lexJoins_c3 : (Rows.lexJoinsRow.recurses == Tryd.prog.recurses 5) = true := by kernel_rfl
theorem lexJoins_c4 : (Rows.lexJoinsRow.named == Tryd.prog.varsNamed 5) = true := by kernel_rfl
theorem lexJoins_c5 : (Rows.lexJoinsRow.plainKeys == Tryd.prog.plainKeys) = true := by rw [cPlain]; kernel_rfl
theorem lexJoins_c6 : namedTie Tryd.prog Rows.lexJoinsRow.named Rows.lexJoinsSpec.vars = true := by kernel_rfl
theorem lexJoins_facts : joinedFacts Tryd.prog 5 Tryd.f5 Rows.lexJoinsSpec Rows.lexJoinsRow = true := by
  unfold joinedFacts
  rw [cEnter, cLaid, cMaps, cHeard, lexJoins_c0, lexJoins_c1, lexJoins_c2, lexJoins_c3, lexJoins_c4, lexJoins_c5, lexJoins_c6]
  kernel_rfl
theorem lexJoins_said : Rows.LexJoinsSaid :=
  OpenClaim.holds_of_wide 5 Tryd.f5 rfl rfl rfl rfl rfl rfl rfl ⟨rfl, rfl, rfl, rfl, rfl⟩ rfl rfl rfl rfl rfl (by kernel_rfl) Tryd.func5 lexJoins_facts
    (of_decide_eq_true (by kernel_rfl)) (by unfold Func.isWrapper; first | (rw [if_pos (by decide +kernel)]; kernel_rfl) | (rw [if_neg (by decide +kernel)]; exact ⟨rfl, rfl⟩))
    (fun os started H enc _ => lexJoins_lifted os started H enc)
theorem lexJoins_params (f : FuncId) (fn : Func) (hf : Tryd.prog.funcNamed "dripstone/dripstonelaw01.LexJoins" = some f) (hfn : Tryd.prog.funcs[f]? = some fn) : true = Tryd.prog.looks [] ∧ ∀ (j : Nat) t, fn.params[j]? = some t → Tryd.prog.wantsStandIn t = false := by
  obtain rfl : f = 5 := Option.some.inj ((show Tryd.prog.funcNamed "dripstone/dripstonelaw01.LexJoins" = some 5 by kernel_rfl).symm.trans hf) |>.symm
  obtain rfl : fn = Tryd.f5 := (Option.some.inj (Tryd.func5.symm.trans hfn)).symm
  exact ⟨cLooks, fun j t ht => by
    rw [Tryd.params5] at ht
    have hm : t ∈ ([24] : List Nat) := by simpa using Array.mem_of_getElem? ht
    have hall : (([24] : List Nat).all fun u => !Tryd.prog.wantsStandIn u) = true := by kernel_rfl
    exact (show Tryd.prog.wantsStandIn t = false by simpa using List.all_eq_true.1 hall t hm)⟩
theorem lexJoins_wf : Rows.lexJoinsRow.wfByText (OpenSpec.ofChange Rows.lexJoinsSpec) = true := by kernel_rfl
theorem lexJoins_goes : false = Rows.lexJoinsRow.goesBy Tryd.prog := by kernel_rfl
theorem lexJoins_card_said : Rows.LexJoinsCardSaid :=
  Claim7.holds_tied_plain_at .later [] [.data, .data, .data, .sentinel, .sentinel] true (true, "23c33b467d2bd80078b50dfb00103e5091ed1073ec3f27099c28af2820ef364f") true
    lexJoins_said (fun _ h => by cases h) lexJoins_wf (fun _ h => by cases h) lexJoins_row_tie rfl ⟨rfl, rfl⟩ cMain rfl
    lexJoins_params lexJoins_goes
end Go.Proofs.YthmlejcfgbpcbaaDoor
