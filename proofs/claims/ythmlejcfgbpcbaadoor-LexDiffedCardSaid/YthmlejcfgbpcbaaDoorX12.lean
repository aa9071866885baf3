/- Proved: for every two texts, LexDiffed returns true, and both read as they did. Conditions: the five listed package variables start as the program's text lays them (the card ties them); none of ours. -/
import Derived.Test.YthmlejcfgbpcbaaDoorR0
import Derived.Test.YthmlejcfgbpcbaaDoorP17_0
set_option autoImplicit false
set_option linter.all false
namespace Go.Proofs.YthmlejcfgbpcbaaDoor
open Go Go.VM Go.ChangeShapes Go.WideShapes Go.ChangeAt Go.RowKit
open Go.ChangeMaps (open_string shut_string)
set_option maxRecDepth 100000
theorem lexDiffed_lifted (os : Os) (started : os.Started) (H : Type) (enc : TypeId × Value → H) :
    ReturnsInHanded {} Tryd.checked os 10 .any (fun w args => (Rows.lexDiffedSpec.pre enc Tryd.prog Tryd.f10 Rows.lexDiffedRow.domain false w args ∧ laidMetH Tryd.prog laid5 w) ∧ sizedMet enc Tryd.prog Tryd.f10 (OpenSpec.ofChange Rows.lexDiffedSpec) false w args)
      (Rows.lexDiffedSpec.post enc Tryd.prog Tryd.f10 false true false false) := by
  refine returnsInHanded_of_change_and (C := Tryd.checked) (X := fun w _ => laidMetH Tryd.prog laid5 w) (fun _ _ _ hh h => h.of_heap hh) own started (by kernel_rfl) Tryd.func10
    (ChangeSpec.witness_shaped (enc := enc) (C := Tryd.checked) (os := os) (X := fun w _ => laidMetH Tryd.prog laid5 w) false (World.doorLaid Tryd.prog 72 os) #[.string ⟨#[]⟩, .string ⟨#[]⟩] 8 rfl (World.shaped_of_RefB (by kernel_rfl) (by kernel_rfl)) (by kernel_rfl) (by kernel_rfl) (by kernel_rfl) (door_met os _)) ?_
  intro W base args ds gs before hval0 hW _ hsz0 hL _
  have hval : ∀ (j : Nat) t v, Tryd.f10.params[j]? = some t → args[j]? = some v → Value.okWide Tryd.prog W .any base t v := hval0
  have hW' := hW
  obtain ⟨p, q, hA0, hV, rfl, hfz, hnd⟩ := hW
  have hA : DataW.TrodAll enc Tryd.prog W 0 (fun _ => true) true Tryd.f10.params.toList args.toList ds p := hA0
  rw [Tryd.params10] at hA hval
  obtain ⟨v0, vs0, d0, ds0, p0, q0, hargs, rfl, rfl, h0, r0⟩ := trodAll_cons hA
  obtain ⟨v1, vs1, d1, ds1, p1, q1, rfl, rfl, rfl, h1, r1⟩ := trodAll_cons r0
  obtain ⟨rfl, rfl, rfl⟩ := trodAll_nil r1
  obtain rfl : args = #[v0, v1] := by cases args; simp_all
  obtain ⟨rfl, rfl⟩ := trodVars_none hV
  obtain ⟨s0, rfl, rfl, rfl, y0⟩ := open_string Tryd.underlying9 (hval 0 9 v0 rfl rfl) h0
  obtain ⟨s1, rfl, rfl, rfl, y1⟩ := open_string Tryd.underlying9 (hval 1 9 v1 rfl rfl) h1
  clear hA0 hval0
  refine (law_walk (ts := [.str, .str]) Tryd.h10 [.string s0, .string s1] (s0, s1, ()) W (gl_of hL) ⟨kv_str okA W s0, kv_str okA W s1, rfl⟩).mono fun e W' ⟨he, bel⟩ => ?_
  subst he
  exact ⟨_, rfl, _, _, _, [], _, [], hW', trodAll_mk1 (shut_bool Tryd.underlying4 _), (trodAll_cons_mk (shut_string Tryd.underlying9 y0) (trodAll_cons_mk (shut_string Tryd.underlying9 y1) trodAll_mk0)), rfl, bel.frame _, fun h => by cases h⟩
theorem lexDiffed_c0 : Rows.lexDiffedRow.wf (OpenSpec.ofChange Rows.lexDiffedSpec) = true := by kernel_rfl
theorem lexDiffed_c1 : (Rows.lexDiffedRow.inPlace == Tryd.prog.inPlace 10) = true := by kernel_rfl
theorem lexDiffed_c2 : (Rows.lexDiffedRow.unfollowed == Tryd.prog.unfollowed 10) = true := by kernel_rfl
theorem lexDiffed_c3 : (Rows.lexDiffedRow.recurses == Tryd.prog.recurses 10) = true := by kernel_rfl
theorem lexDiffed_c4 : (Rows.lexDiffedRow.named == Tryd.prog.varsNamed 10) = true := by kernel_rfl
theorem lexDiffed_c5 : (Rows.lexDiffedRow.plainKeys == Tryd.prog.plainKeys) = true := by rw [cPlain]; kernel_rfl
theorem lexDiffed_c6 : namedTie Tryd.prog Rows.lexDiffedRow.named Rows.lexDiffedSpec.vars = true := by kernel_rfl
theorem lexDiffed_facts : joinedFacts Tryd.prog 10 Tryd.f10 Rows.lexDiffedSpec Rows.lexDiffedRow = true := by
  unfold joinedFacts
  rw [cEnter, cLaid, cMaps, cHeard, lexDiffed_c0, lexDiffed_c1, lexDiffed_c2, lexDiffed_c3, lexDiffed_c4, lexDiffed_c5, lexDiffed_c6]
  kernel_rfl
theorem lexDiffed_said : Rows.LexDiffedSaid :=
  OpenClaim.holds_of_wide 10 Tryd.f10 rfl rfl rfl rfl rfl rfl rfl ⟨rfl, rfl, rfl, rfl, rfl⟩ rfl rfl rfl rfl rfl (by kernel_rfl) Tryd.func10 lexDiffed_facts
    (of_decide_eq_true (by kernel_rfl)) (by unfold Func.isWrapper; first | (rw [if_pos (by decide +kernel)]; kernel_rfl) | (rw [if_neg (by decide +kernel)]; exact ⟨rfl, rfl⟩))
    (fun os started H enc _ => lexDiffed_lifted os started H enc)
theorem lexDiffed_params (f : FuncId) (fn : Func) (hf : Tryd.prog.funcNamed "dripstone/dripstonelaw01.LexDiffed" = some f) (hfn : Tryd.prog.funcs[f]? = some fn) : true = Tryd.prog.looks [] ∧ ∀ (j : Nat) t, fn.params[j]? = some t → Tryd.prog.wantsStandIn t = false := by
  obtain rfl : f = 10 := Option.some.inj ((show Tryd.prog.funcNamed "dripstone/dripstonelaw01.LexDiffed" = some 10 by kernel_rfl).symm.trans hf) |>.symm
  obtain rfl : fn = Tryd.f10 := (Option.some.inj (Tryd.func10.symm.trans hfn)).symm
  exact ⟨cLooks, fun j t ht => by
    rw [Tryd.params10] at ht
    have hm : t ∈ ([9, 9] : List Nat) := by simpa using Array.mem_of_getElem? ht
    have hall : (([9, 9] : List Nat).all fun u => !Tryd.prog.wantsStandIn u) = true := by kernel_rfl
    exact (show Tryd.prog.wantsStandIn t = false by simpa using List.all_eq_true.1 hall t hm)⟩
theorem lexDiffed_wf : Rows.lexDiffedRow.wfByText (OpenSpec.ofChange Rows.lexDiffedSpec) = true := by kernel_rfl
theorem lexDiffed_goes : false = Rows.lexDiffedRow.goesBy Tryd.prog := by kernel_rfl
theorem lexDiffed_card_said : Rows.LexDiffedCardSaid :=
  Claim7.holds_tied_plain_at .later [] [.data, .data, .data, .sentinel, .sentinel] true (true, "23c33b467d2bd80078b50dfb00103e5091ed1073ec3f27099c28af2820ef364f") true
    lexDiffed_said (fun _ h => by cases h) lexDiffed_wf (fun _ h => by cases h) lexDiffed_row_tie rfl ⟨rfl, rfl⟩ cMain rfl
    lexDiffed_params lexDiffed_goes
end Go.Proofs.YthmlejcfgbpcbaaDoor
