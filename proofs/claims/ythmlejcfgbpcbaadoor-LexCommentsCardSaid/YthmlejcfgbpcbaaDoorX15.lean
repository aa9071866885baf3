/- LexComments: the comments of any text, and the text without them, or the errors and their places, are what the document says. Conditions: the five listed package variables start as the program's text lays them (the card ties them); none of ours. -/
import Derived.Test.YthmlejcfgbpcbaaDoorR0
import Derived.Test.YthmlejcfgbpcbaaDoorP23x0
set_option autoImplicit false
set_option linter.all false
namespace Go.Proofs.YthmlejcfgbpcbaaDoor
open Go Go.VM Go.ChangeShapes Go.WideShapes Go.ChangeAt Go.RowKit
open Go.ChangeMaps (open_string shut_string)
set_option maxRecDepth 100000
theorem lexComments_lifted (os : Os) (started : os.Started) (H : Type) (enc : TypeId × Value → H) :
    ReturnsInHanded {} Tryd.checked os 18 .any (fun w args => (Rows.lexCommentsSpec.pre enc Tryd.prog Tryd.f18 Rows.lexCommentsRow.domain false w args ∧ laidMetH Tryd.prog laid5 w) ∧ sizedMet enc Tryd.prog Tryd.f18 (OpenSpec.ofChange Rows.lexCommentsSpec) false w args)
      (Rows.lexCommentsSpec.post enc Tryd.prog Tryd.f18 false true false false) := by
  refine returnsInHanded_of_change_and (C := Tryd.checked) (X := fun w _ => laidMetH Tryd.prog laid5 w) (fun _ _ _ hh h => h.of_heap hh) own started (by kernel_rfl) Tryd.func18
    (ChangeSpec.witness_shaped (enc := enc) (C := Tryd.checked) (os := os) (X := fun w _ => laidMetH Tryd.prog laid5 w) false (World.doorLaid Tryd.prog 72 os) #[.string ⟨#[]⟩] 8 rfl (World.shaped_of_RefB (by kernel_rfl) (by kernel_rfl)) (by kernel_rfl) (by kernel_rfl) (by kernel_rfl) (door_met os _)) ?_
  intro W base args ds gs before hval0 hW _ hsz0 hL _
  have hval : ∀ (j : Nat) t v, Tryd.f18.params[j]? = some t → args[j]? = some v → Value.okWide Tryd.prog W .any base t v := hval0
  have hW' := hW
  obtain ⟨p, q, hA0, hV, rfl, hfz, hnd⟩ := hW
  have hA : DataW.TrodAll enc Tryd.prog W 0 (fun _ => true) true Tryd.f18.params.toList args.toList ds p := hA0
  rw [Tryd.params18] at hA hval
  obtain ⟨v0, vs0, d0, ds0, p0, q0, hargs, rfl, rfl, h0, r0⟩ := trodAll_cons hA
  obtain ⟨rfl, rfl, rfl⟩ := trodAll_nil r0
  obtain rfl : args = #[v0] := by cases args; simp_all
  obtain ⟨rfl, rfl⟩ := trodVars_none hV
  obtain ⟨s0, rfl, rfl, rfl, y0⟩ := open_string Tryd.underlying9 (hval 0 9 v0 rfl rfl) h0
  clear hA0 hval0
  refine (law_walk (ts := [.str]) Tryd.h18 [.string s0] (s0, ()) W (gl_of hL) ⟨kv_str okA W s0, rfl⟩).mono fun e W' ⟨he, bel⟩ => ?_
  subst he
  exact ⟨_, rfl, _, _, _, [], _, [], hW', trodAll_mk1 (shut_bool Tryd.underlying4 _), (trodAll_cons_mk (shut_string Tryd.underlying9 y0) trodAll_mk0), rfl, bel.frame _, fun h => by cases h⟩
theorem lexComments_c0 : Rows.lexCommentsRow.wf (OpenSpec.ofChange Rows.lexCommentsSpec) = true := by kernel_rfl
theorem lexComments_c1 : (Rows.lexCommentsRow.inPlace == Tryd.prog.inPlace 18) = true := by kernel_rfl
theorem lexComments_c2 : (Rows.lexCommentsRow.unfollowed == Tryd.prog.unfollowed 18) = true := by kernel_rfl
theorem lexComments_c3 : (Rows.lexCommentsRow.recurses == Tryd.prog.recurses 18) = true := by kernel_rfl
theorem lexComments_c4 : (Rows.lexCommentsRow.named == Tryd.prog.varsNamed 18) = true := by kernel_rfl
theorem lexComments_c5 : (Rows.lexCommentsRow.plainKeys == Tryd.prog.plainKeys) = true := by rw [cPlain]; kernel_rfl
theorem lexComments_c6 : namedTie Tryd.prog Rows.lexCommentsRow.named Rows.lexCommentsSpec.vars = true := by kernel_rfl
theorem lexComments_facts : joinedFacts Tryd.prog 18 Tryd.f18 Rows.lexCommentsSpec Rows.lexCommentsRow = true := by
  unfold joinedFacts
  rw [cEnter, cLaid, cMaps, cHeard, lexComments_c0, lexComments_c1, lexComments_c2, lexComments_c3, lexComments_c4, lexComments_c5, lexComments_c6]
  kernel_rfl
theorem lexComments_said : Rows.LexCommentsSaid :=
  OpenClaim.holds_of_wide 18 Tryd.f18 rfl rfl rfl rfl rfl rfl rfl ⟨rfl, rfl, rfl, rfl, rfl⟩ rfl rfl rfl rfl rfl (by kernel_rfl) Tryd.func18 lexComments_facts
    (of_decide_eq_true (by kernel_rfl)) (by unfold Func.isWrapper; first | (rw [if_pos (by decide +kernel)]; kernel_rfl) | (rw [if_neg (by decide +kernel)]; exact ⟨rfl, rfl⟩))
    (fun os started H enc _ => lexComments_lifted os started H enc)
theorem lexComments_params (f : FuncId) (fn : Func) (hf : Tryd.prog.funcNamed "dripstone/dripstonelaw01.LexComments" = some f) (hfn : Tryd.prog.funcs[f]? = some fn) : true = Tryd.prog.looks [] ∧ ∀ (j : Nat) t, fn.params[j]? = some t → Tryd.prog.wantsStandIn t = false := by
  obtain rfl : f = 18 := Option.some.inj ((show Tryd.prog.funcNamed "dripstone/dripstonelaw01.LexComments" = some 18 by kernel_rfl).symm.trans hf) |>.symm
  obtain rfl : fn = Tryd.f18 := (Option.some.inj (Tryd.func18.symm.trans hfn)).symm
  exact ⟨cLooks, fun j t ht => by
    rw [Tryd.params18] at ht
    have hm : t ∈ ([9] : List Nat) := by simpa using Array.mem_of_getElem? ht
    have hall : (([9] : List Nat).all fun u => !Tryd.prog.wantsStandIn u) = true := by kernel_rfl
    exact (show Tryd.prog.wantsStandIn t = false by simpa using List.all_eq_true.1 hall t hm)⟩
theorem lexComments_wf : Rows.lexCommentsRow.wfByText (OpenSpec.ofChange Rows.lexCommentsSpec) = true := by kernel_rfl
theorem lexComments_goes : false = Rows.lexCommentsRow.goesBy Tryd.prog := by kernel_rfl
theorem lexComments_card_said : Rows.LexCommentsCardSaid :=
  Claim7.holds_tied_plain_at .later [] [.data, .data, .data, .sentinel, .sentinel] true (true, "23c33b467d2bd80078b50dfb00103e5091ed1073ec3f27099c28af2820ef364f") true
    lexComments_said (fun _ h => by cases h) lexComments_wf (fun _ h => by cases h) lexComments_row_tie rfl ⟨rfl, rfl⟩ cMain rfl
    lexComments_params lexComments_goes
end Go.Proofs.YthmlejcfgbpcbaaDoor
