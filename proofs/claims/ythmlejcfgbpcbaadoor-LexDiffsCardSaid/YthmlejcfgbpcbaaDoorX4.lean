/- Proved: for all two texts, LexDiffs returns true, and the texts read as they did. Conditions: the five listed package variables start as the program's text lays them (the card ties them); none of ours. -/
import Derived.Test.YthmlejcfgbpcbaaDoorR0
set_option autoImplicit false
set_option linter.all false
namespace Go.Proofs.YthmlejcfgbpcbaaDoor
open Go Go.VM Go.ChangeShapes Go.WideShapes Go.ChangeAt Go.RowKit
open Go.ChangeMaps (open_string shut_string)
set_option maxRecDepth 100000
theorem lexDiffs_lifted (os : Os) (started : os.Started) (H : Type) (enc : TypeId × Value → H) :
    ReturnsInHanded {} Tryd.checked os 6 .any (fun w args => (Rows.lexDiffsSpec.pre enc Tryd.prog Tryd.f6 Rows.lexDiffsRow.domain false w args ∧ laidMetH Tryd.prog laid5 w) ∧ sizedMet enc Tryd.prog Tryd.f6 (OpenSpec.ofChange Rows.lexDiffsSpec) false w args)
      (Rows.lexDiffsSpec.post enc Tryd.prog Tryd.f6 false true false false) := by
  refine returnsInHanded_of_change_and (C := Tryd.checked) (X := fun w _ => laidMetH Tryd.prog laid5 w) (fun _ _ _ hh h => h.of_heap hh) own started (by kernel_rfl) Tryd.func6
    (ChangeSpec.witness_shaped (enc := enc) (C := Tryd.checked) (os := os) (X := fun w _ => laidMetH Tryd.prog laid5 w) false (World.doorLaid Tryd.prog 72 os) #[.string ⟨#[]⟩, .string ⟨#[]⟩] 8 rfl (World.shaped_of_RefB (by kernel_rfl) (by kernel_rfl)) (by kernel_rfl) (by kernel_rfl) (by kernel_rfl) (door_met os _)) ?_
  intro W base args ds gs before hval0 hW _ hsz0 hL _
  have hval : ∀ (j : Nat) t v, Tryd.f6.params[j]? = some t → args[j]? = some v → Value.okWide Tryd.prog W .any base t v := hval0
  have hW' := hW
  obtain ⟨p, q, hA0, hV, rfl, hfz, hnd⟩ := hW
  have hA : DataW.TrodAll enc Tryd.prog W 0 (fun _ => true) true Tryd.f6.params.toList args.toList ds p := hA0
  rw [Tryd.params6] at hA hval
  obtain ⟨v0, vs0, d0, ds0, p0, q0, hargs, rfl, rfl, h0, r0⟩ := trodAll_cons hA
  obtain ⟨v1, vs1, d1, ds1, p1, q1, rfl, rfl, rfl, h1, r1⟩ := trodAll_cons r0
  obtain ⟨rfl, rfl, rfl⟩ := trodAll_nil r1
  obtain rfl : args = #[v0, v1] := by cases args; simp_all
  obtain ⟨rfl, rfl⟩ := trodVars_none hV
  obtain ⟨s0, rfl, rfl, rfl, y0⟩ := open_string Tryd.underlying9 (hval 0 9 v0 rfl rfl) h0
  obtain ⟨s1, rfl, rfl, rfl, y1⟩ := open_string Tryd.underlying9 (hval 1 9 v1 rfl rfl) h1
  clear hA0 hval0
  refine (law_walk (ts := [.str, .str]) Tryd.h6 [.string s0, .string s1] (s0, s1, ()) W (gl_of hL) ⟨kv_str okA W s0, kv_str okA W s1, rfl⟩).mono fun e W' ⟨he, bel⟩ => ?_
  subst he
  exact ⟨_, rfl, _, _, _, [], _, [], hW', trodAll_mk1 (shut_bool Tryd.underlying4 _), (trodAll_cons_mk (shut_string Tryd.underlying9 y0) (trodAll_cons_mk (shut_string Tryd.underlying9 y1) trodAll_mk0)), rfl, bel.frame _, fun h => by cases h⟩
theorem lexDiffs_c0 : Rows.lexDiffsRow.wf (OpenSpec.ofChange Rows.lexDiffsSpec) = true := by kernel_rfl
theorem lexDiffs_c1 : (Rows.lexDiffsRow.inPlace == Tryd.prog.inPlace 6) = true := by kernel_rfl
theorem lexDiffs_c2 : (Rows.lexDiffsRow.unfollowed == Tryd.prog.unfollowed 6) = true := by kernel_rfl
theorem lexDiffs_c3 : (Rows.lexDiffsRow.recurses == Tryd.prog.recurses 6) = true := by kernel_rfl
theorem lexDiffs_c4 : (Rows.lexDiffsRow.named == Tryd.prog.varsNamed 6) = true := by kernel_rfl
theorem lexDiffs_c5 : (Rows.lexDiffsRow.plainKeys == Tryd.prog.plainKeys) = true := by rw [cPlain]; kernel_rfl
theorem lexDiffs_c6 : namedTie Tryd.prog Rows.lexDiffsRow.named Rows.lexDiffsSpec.vars = true := by kernel_rfl
theorem lexDiffs_facts : joinedFacts Tryd.prog 6 Tryd.f6 Rows.lexDiffsSpec Rows.lexDiffsRow = true := by
  unfold joinedFacts
  rw [cEnter, cLaid, cMaps, cHeard, lexDiffs_c0, lexDiffs_c1, lexDiffs_c2, lexDiffs_c3, lexDiffs_c4, lexDiffs_c5, lexDiffs_c6]
  kernel_rfl
theorem lexDiffs_said : Rows.LexDiffsSaid :=
  OpenClaim.holds_of_wide 6 Tryd.f6 rfl rfl rfl rfl rfl rfl rfl ⟨rfl, rfl, rfl, rfl, rfl⟩ rfl rfl rfl rfl rfl (by kernel_rfl) Tryd.func6 lexDiffs_facts
    (of_decide_eq_true (by kernel_rfl)) (by unfold Func.isWrapper; first | (rw [if_pos (by decide +kernel)]; kernel_rfl) | (rw [if_neg (by decide +kernel)]; exact ⟨rfl, rfl⟩))
    (fun os started H enc _ => lexDiffs_lifted os started H enc)
theorem lexDiffs_params (f : FuncId) (fn : Func) (hf : Tryd.prog.funcNamed "dripstone/dripstonelaw01.LexDiffs" = some f) (hfn : Tryd.prog.funcs[f]? = some fn) : true = Tryd.prog.looks [] ∧ ∀ (j : Nat) t, fn.params[j]? = some t → Tryd.prog.wantsStandIn t = false := by
  obtain rfl : f = 6 := Option.some.inj ((show Tryd.prog.funcNamed "dripstone/dripstonelaw01.LexDiffs" = some 6 by kernel_rfl).symm.trans hf) |>.symm
  obtain rfl : fn = Tryd.f6 := (Option.some.inj (Tryd.func6.symm.trans hfn)).symm
  exact ⟨cLooks, fun j t ht => by
    rw [Tryd.params6] at ht
    have hm : t ∈ ([9, 9] : List Nat) := by simpa using Array.mem_of_getElem? ht
    have hall : (([9, 9] : List Nat).all fun u => !Tryd.prog.wantsStandIn u) = true := by kernel_rfl
    exact (show Tryd.prog.wantsStandIn t = false by simpa using List.all_eq_true.1 hall t hm)⟩
theorem lexDiffs_wf : Rows.lexDiffsRow.wfByText (OpenSpec.ofChange Rows.lexDiffsSpec) = true := by kernel_rfl
theorem lexDiffs_goes : false = Rows.lexDiffsRow.goesBy Tryd.prog := by kernel_rfl
theorem lexDiffs_card_said : Rows.LexDiffsCardSaid :=
  Claim7.holds_tied_plain_at .later [] [.data, .data, .data, .sentinel, .sentinel] true (true, "23c33b467d2bd80078b50dfb00103e5091ed1073ec3f27099c28af2820ef364f") true
    lexDiffs_said (fun _ h => by cases h) lexDiffs_wf (fun _ h => by cases h) lexDiffs_row_tie rfl ⟨rfl, rfl⟩ cMain rfl
    lexDiffs_params lexDiffs_goes
end Go.Proofs.YthmlejcfgbpcbaaDoor
