/- Proved: for every text, LexKinds returns true, and the text reads as it did. Conditions: the five listed package variables start as the program's text lays them (the card ties them); none of ours. -/
import Derived.Test.YthmlejcfgbpcbaaDoorR0
set_option autoImplicit false
set_option linter.all false
namespace Go.Proofs.YthmlejcfgbpcbaaDoor
open Go Go.VM Go.ChangeShapes Go.WideShapes Go.ChangeAt Go.RowKit
open Go.ChangeMaps (open_string shut_string)
set_option maxRecDepth 100000
theorem lexKinds_lifted (os : Os) (started : os.Started) (H : Type) (enc : TypeId × Value → H) :
    ReturnsInHanded {} Tryd.checked os 4 .any (fun w args => (Rows.lexKindsSpec.pre enc Tryd.prog Tryd.f4 Rows.lexKindsRow.domain false w args ∧ laidMetH Tryd.prog laid5 w) ∧ sizedMet enc Tryd.prog Tryd.f4 (OpenSpec.ofChange Rows.lexKindsSpec) false w args)
      (Rows.lexKindsSpec.post enc Tryd.prog Tryd.f4 false true false false) := by
  refine returnsInHanded_of_change_and (C := Tryd.checked) (X := fun w _ => laidMetH Tryd.prog laid5 w) (fun _ _ _ hh h => h.of_heap hh) own started (by kernel_rfl) Tryd.func4
    (ChangeSpec.witness_shaped (enc := enc) (C := Tryd.checked) (os := os) (X := fun w _ => laidMetH Tryd.prog laid5 w) false (World.doorLaid Tryd.prog 72 os) #[.string ⟨#[]⟩] 8 rfl (World.shaped_of_RefB (by kernel_rfl) (by kernel_rfl)) (by kernel_rfl) (by kernel_rfl) (by kernel_rfl) (door_met os _)) ?_
  intro W base args ds gs before hval0 hW _ hsz0 hL _
  have hval : ∀ (j : Nat) t v, Tryd.f4.params[j]? = some t → args[j]? = some v → Value.okWide Tryd.prog W .any base t v := hval0
  have hW' := hW
  obtain ⟨p, q, hA0, hV, rfl, hfz, hnd⟩ := hW
  have hA : DataW.TrodAll enc Tryd.prog W 0 (fun _ => true) true Tryd.f4.params.toList args.toList ds p := hA0
  rw [Tryd.params4] at hA hval
  obtain ⟨v0, vs0, d0, ds0, p0, q0, hargs, rfl, rfl, h0, r0⟩ := trodAll_cons hA
  obtain ⟨rfl, rfl, rfl⟩ := trodAll_nil r0
  obtain rfl : args = #[v0] := by cases args; simp_all
  obtain ⟨rfl, rfl⟩ := trodVars_none hV
  obtain ⟨s0, rfl, rfl, rfl, y0⟩ := open_string Tryd.underlying9 (hval 0 9 v0 rfl rfl) h0
  clear hA0 hval0
  refine (law_walk (ts := [.str]) Tryd.h4 [.string s0] (s0, ()) W (gl_of hL) ⟨kv_str okA W s0, rfl⟩).mono fun e W' ⟨he, bel⟩ => ?_
  subst he
  exact ⟨_, rfl, _, _, _, [], _, [], hW', trodAll_mk1 (shut_bool Tryd.underlying4 _), (trodAll_cons_mk (shut_string Tryd.underlying9 y0) trodAll_mk0), rfl, bel.frame _, fun h => by cases h⟩
theorem lexKinds_c0 : Rows.lexKindsRow.wf (OpenSpec.ofChange Rows.lexKindsSpec) = true := by kernel_rfl
theorem lexKinds_c1 : (Rows.lexKindsRow.inPlace == Tryd.prog.inPlace 4) = true := by kernel_rfl
theorem lexKinds_c2 : (Rows.lexKindsRow.unfollowed == Tryd.prog.unfollowed 4) = true := by kernel_rfl
theorem lexKinds_c3 : (Rows.lexKindsRow.recurses == Tryd.prog.recurses 4) = true := by kernel_rfl
theorem lexKinds_c4 : (Rows.lexKindsRow.named == Tryd.prog.varsNamed 4) = true := by kernel_rfl
theorem lexKinds_c5 : (Rows.lexKindsRow.plainKeys == Tryd.prog.plainKeys) = true := by rw [cPlain]; kernel_rfl
theorem lexKinds_c6 : namedTie Tryd.prog Rows.lexKindsRow.named Rows.lexKindsSpec.vars = true := by kernel_rfl
theorem lexKinds_facts : joinedFacts Tryd.prog 4 Tryd.f4 Rows.lexKindsSpec Rows.lexKindsRow = true := by
  unfold joinedFacts
  rw [cEnter, cLaid, cMaps, cHeard, lexKinds_c0, lexKinds_c1, lexKinds_c2, lexKinds_c3, lexKinds_c4, lexKinds_c5, lexKinds_c6]
  kernel_rfl
theorem lexKinds_said : Rows.LexKindsSaid :=
  OpenClaim.holds_of_wide 4 Tryd.f4 rfl rfl rfl rfl rfl rfl rfl ⟨rfl, rfl, rfl, rfl, rfl⟩ rfl rfl rfl rfl rfl (by kernel_rfl) Tryd.func4 lexKinds_facts
    (of_decide_eq_true (by kernel_rfl)) (by unfold Func.isWrapper; first | (rw [if_pos (by decide +kernel)]; kernel_rfl) | (rw [if_neg (by decide +kernel)]; exact ⟨rfl, rfl⟩))
    (fun os started H enc _ => lexKinds_lifted os started H enc)
theorem lexKinds_params (f : FuncId) (fn : Func) (hf : Tryd.prog.funcNamed "dripstone/dripstonelaw01.LexKinds" = some f) (hfn : Tryd.prog.funcs[f]? = some fn) : true = Tryd.prog.looks [] ∧ ∀ (j : Nat) t, fn.params[j]? = some t → Tryd.prog.wantsStandIn t = false := by
  obtain rfl : f = 4 := Option.some.inj ((show Tryd.prog.funcNamed "dripstone/dripstonelaw01.LexKinds" = some 4 by kernel_rfl).symm.trans hf) |>.symm
  obtain rfl : fn = Tryd.f4 := (Option.some.inj (Tryd.func4.symm.trans hfn)).symm
  exact ⟨cLooks, fun j t ht => by
    rw [Tryd.params4] at ht
    have hm : t ∈ ([9] : List Nat) := by simpa using Array.mem_of_getElem? ht
    have hall : (([9] : List Nat).all fun u => !Tryd.prog.wantsStandIn u) = true := by kernel_rfl
    exact (show Tryd.prog.wantsStandIn t = false by simpa using List.all_eq_true.1 hall t hm)⟩
theorem lexKinds_wf : Rows.lexKindsRow.wfByText (OpenSpec.ofChange Rows.lexKindsSpec) = true := by kernel_rfl
theorem lexKinds_goes : false = Rows.lexKindsRow.goesBy Tryd.prog := by kernel_rfl
theorem lexKinds_card_said : Rows.LexKindsCardSaid :=
  Claim7.holds_tied_plain_at .later [] [.data, .data, .data, .sentinel, .sentinel] true (true, "23c33b467d2bd80078b50dfb00103e5091ed1073ec3f27099c28af2820ef364f") true
    lexKinds_said (fun _ h => by cases h) lexKinds_wf (fun _ h => by cases h) lexKinds_row_tie rfl ⟨rfl, rfl⟩ cMain rfl
    lexKinds_params lexKinds_goes
end Go.Proofs.YthmlejcfgbpcbaaDoor
