/- Proved: LexSigns returns true. Conditions: the five listed package variables start as the program's text lays them (the card ties them); none of ours. -/
import Derived.Test.YthmlejcfgbpcbaaDoorR0
import Derived.Test.YthmlejcfgbpcbaaDoorP16_0
set_option autoImplicit false
set_option linter.all false
namespace Go.Proofs.YthmlejcfgbpcbaaDoor
open Go Go.VM Go.ChangeShapes Go.WideShapes Go.ChangeAt Go.RowKit
open Go.ChangeMaps (open_string shut_string)
set_option maxRecDepth 100000
theorem lexSigns_lifted (os : Os) (started : os.Started) (H : Type) (enc : TypeId × Value → H) :
    ReturnsInHanded {} Tryd.checked os 9 .any (fun w args => (Rows.lexSignsSpec.pre enc Tryd.prog Tryd.f9 Rows.lexSignsRow.domain false w args ∧ laidMetH Tryd.prog laid5 w) ∧ sizedMet enc Tryd.prog Tryd.f9 (OpenSpec.ofChange Rows.lexSignsSpec) false w args)
      (Rows.lexSignsSpec.post enc Tryd.prog Tryd.f9 false true false false) := by
  refine returnsInHanded_of_change_and (C := Tryd.checked) (X := fun w _ => laidMetH Tryd.prog laid5 w) (fun _ _ _ hh h => h.of_heap hh) own started (by kernel_rfl) Tryd.func9
    (ChangeSpec.witness_shaped (enc := enc) (C := Tryd.checked) (os := os) (X := fun w _ => laidMetH Tryd.prog laid5 w) false (World.doorLaid Tryd.prog 72 os) #[] 8 rfl (World.shaped_of_RefB (by kernel_rfl) (by kernel_rfl)) (by kernel_rfl) (by kernel_rfl) (by kernel_rfl) (door_met os _)) ?_
  intro W base args ds gs before hval0 hW _ hsz0 hL _
  have hval : ∀ (j : Nat) t v, Tryd.f9.params[j]? = some t → args[j]? = some v → Value.okWide Tryd.prog W .any base t v := hval0
  have hW' := hW
  obtain ⟨p, q, hA0, hV, rfl, hfz, hnd⟩ := hW
  have hA : DataW.TrodAll enc Tryd.prog W 0 (fun _ => true) true Tryd.f9.params.toList args.toList ds p := hA0
  rw [Tryd.params9] at hA hval
  obtain ⟨rfl, rfl, rfl⟩ := trodAll_none hA
  obtain ⟨rfl, rfl⟩ := trodVars_none hV
  clear hA0 hval0
  refine (law_walk (ts := []) Tryd.h9 [] (()) W (gl_of hL) rfl).mono fun e W' ⟨he, bel⟩ => ?_
  subst he
  exact ⟨_, rfl, _, _, _, [], _, [], hW', trodAll_mk1 (shut_bool Tryd.underlying4 _), trodAll_mk0, rfl, bel.frame _, fun h => by cases h⟩
theorem lexSigns_c0 : Rows.lexSignsRow.wf (OpenSpec.ofChange Rows.lexSignsSpec) = true := by kernel_rfl
theorem lexSigns_c1 : (Rows.lexSignsRow.inPlace == Tryd.prog.inPlace 9) = true := by kernel_rfl
theorem lexSigns_c2 : (Rows.lexSignsRow.unfollowed == Tryd.prog.unfollowed 9) = true := by kernel_rfl
theorem lexSigns_c3 : (Rows.lexSignsRow.recurses == Tryd.prog.recurses 9) = true := by kernel_rfl
theorem lexSigns_c4 : (Rows.lexSignsRow.named == Tryd.prog.varsNamed 9) = true := by kernel_rfl
theorem lexSigns_c5 : (Rows.lexSignsRow.plainKeys == Tryd.prog.plainKeys) = true := by rw [cPlain]; kernel_rfl
theorem lexSigns_c6 : namedTie Tryd.prog Rows.lexSignsRow.named Rows.lexSignsSpec.vars = true := by kernel_rfl
theorem lexSigns_facts : joinedFacts Tryd.prog 9 Tryd.f9 Rows.lexSignsSpec Rows.lexSignsRow = true := by
  unfold joinedFacts
  rw [cEnter, cLaid, cMaps, cHeard, lexSigns_c0, lexSigns_c1, lexSigns_c2, lexSigns_c3, lexSigns_c4, lexSigns_c5, lexSigns_c6]
  kernel_rfl
theorem lexSigns_said : Rows.LexSignsSaid :=
  OpenClaim.holds_of_wide 9 Tryd.f9 rfl rfl rfl rfl rfl rfl rfl ⟨rfl, rfl, rfl, rfl, rfl⟩ rfl rfl rfl rfl rfl (by kernel_rfl) Tryd.func9 lexSigns_facts
    (of_decide_eq_true (by kernel_rfl)) (by unfold Func.isWrapper; first | (rw [if_pos (by decide +kernel)]; kernel_rfl) | (rw [if_neg (by decide +kernel)]; exact ⟨rfl, rfl⟩))
    (fun os started H enc _ => lexSigns_lifted os started H enc)
theorem lexSigns_params (f : FuncId) (fn : Func) (hf : Tryd.prog.funcNamed "dripstone/dripstonelaw01.LexSigns" = some f) (hfn : Tryd.prog.funcs[f]? = some fn) : true = Tryd.prog.looks [] ∧ ∀ (j : Nat) t, fn.params[j]? = some t → Tryd.prog.wantsStandIn t = false := by
  obtain rfl : f = 9 := Option.some.inj ((show Tryd.prog.funcNamed "dripstone/dripstonelaw01.LexSigns" = some 9 by kernel_rfl).symm.trans hf) |>.symm
  obtain rfl : fn = Tryd.f9 := (Option.some.inj (Tryd.func9.symm.trans hfn)).symm
  exact ⟨cLooks, fun j t ht => by
    rw [Tryd.params9] at ht
    have hm : t ∈ ([] : List Nat) := by simpa using Array.mem_of_getElem? ht
    have hall : (([] : List Nat).all fun u => !Tryd.prog.wantsStandIn u) = true := by kernel_rfl
    exact (show Tryd.prog.wantsStandIn t = false by simpa using List.all_eq_true.1 hall t hm)⟩
theorem lexSigns_wf : Rows.lexSignsRow.wfByText (OpenSpec.ofChange Rows.lexSignsSpec) = true := by kernel_rfl
theorem lexSigns_goes : false = Rows.lexSignsRow.goesBy Tryd.prog := by kernel_rfl
theorem lexSigns_card_said : Rows.LexSignsCardSaid :=
  Claim7.holds_tied_plain_at .later [] [.data, .data, .data, .sentinel, .sentinel] true (true, "23c33b467d2bd80078b50dfb00103e5091ed1073ec3f27099c28af2820ef364f") true
    lexSigns_said (fun _ h => by cases h) lexSigns_wf (fun _ h => by cases h) lexSigns_row_tie rfl ⟨rfl, rfl⟩ cMain rfl
    lexSigns_params lexSigns_goes
end Go.Proofs.YthmlejcfgbpcbaaDoor
