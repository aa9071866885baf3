/- Proved: for every text, LexScans returns true, and the text reads as it did. Conditions: the five listed package variables start as the program's text lays them (the card ties them); none of ours. -/
import Derived.Test.YthmlejcfgbpcbaaDoorR0
set_option autoImplicit false
set_option linter.all false
namespace Go.Proofs.YthmlejcfgbpcbaaDoor
open Go Go.VM Go.ChangeShapes Go.WideShapes Go.ChangeAt Go.RowKit
open Go.ChangeMaps (open_string shut_string)
set_option maxRecDepth 100000
theorem lexScans_lifted (os : Os) (started : os.Started) (H : Type) (enc : TypeId × Value → H) :
    ReturnsInHanded {} Tryd.checked os 3 .any (fun w args => (Rows.lexScansSpec.pre enc Tryd.prog Tryd.f3 Rows.lexScansRow.domain false w args ∧ laidMetH Tryd.prog laid5 w) ∧ sizedMet enc Tryd.prog Tryd.f3 (OpenSpec.ofChange Rows.lexScansSpec) false w args)
      (Rows.lexScansSpec.post enc Tryd.prog Tryd.f3 false true false false) := by
  refine returnsInHanded_of_change_and (C := Tryd.checked) (X := fun w _ => laidMetH Tryd.prog laid5 w) (fun _ _ _ hh h => h.of_heap hh) own started (by kernel_rfl) Tryd.func3
    (ChangeSpec.witness_shaped (enc := enc) (C := Tryd.checked) (os := os) (X := fun w _ => laidMetH Tryd.prog laid5 w) false (World.doorLaid Tryd.prog 72 os) #[.string ⟨#[]⟩] 8 rfl (World.shaped_of_RefB (by kernel_rfl) (by kernel_rfl)) (by kernel_rfl) (by kernel_rfl) (by kernel_rfl) (door_met os _)) ?_
  intro W base args ds gs before hval0 hW _ hsz0 hL _
  have hval : ∀ (j : Nat) t v, Tryd.f3.params[j]? = some t → args[j]? = some v → Value.okWide Tryd.prog W .any base t v := hval0
  have hW' := hW
  obtain ⟨p, q, hA0, hV, rfl, hfz, hnd⟩ := hW
  have hA : DataW.TrodAll enc Tryd.prog W 0 (fun _ => true) true Tryd.f3.params.toList args.toList ds p := hA0
  rw [Tryd.params3] at hA hval
  obtain ⟨v0, vs0, d0, ds0, p0, q0, hargs, rfl, rfl, h0, r0⟩ := trodAll_cons hA
  obtain ⟨rfl, rfl, rfl⟩ := trodAll_nil r0
  obtain rfl : args = #[v0] := by cases args; simp_all
  obtain ⟨rfl, rfl⟩ := trodVars_none hV
  obtain ⟨s0, rfl, rfl, rfl, y0⟩ := open_string Tryd.underlying9 (hval 0 9 v0 rfl rfl) h0
  clear hA0 hval0
  refine (law_walk (ts := [.str]) Tryd.h3 [.string s0] (s0, ()) W (gl_of hL) ⟨kv_str okA W s0, rfl⟩).mono fun e W' ⟨he, bel⟩ => ?_
  subst he
  exact ⟨_, rfl, _, _, _, [], _, [], hW', trodAll_mk1 (shut_bool Tryd.underlying4 _), (trodAll_cons_mk (shut_string Tryd.underlying9 y0) trodAll_mk0), rfl, bel.frame _, fun h => by cases h⟩
theorem lexScans_c0 : Rows.lexScansRow.wf (OpenSpec.ofChange Rows.lexScansSpec) = true := by kernel_rfl
theorem lexScans_c1 : (Rows.lexScansRow.inPlace == Tryd.prog.inPlace 3) = true := by kernel_rfl
theorem lexScans_c2 : (Rows.lexScansRow.unfollowed == Tryd.prog.unfollowed 3) = true := by kernel_rfl
theorem lexScans_c3 : (Rows.lexScansRow.recurses == Tryd.prog.recurses 3) = true := by kernel_rfl
theorem lexScans_c4 : (Rows.lexScansRow.named == Tryd.prog.varsNamed 3) = true := by kernel_rfl
theorem lexScans_c5 : (Rows.lexScansRow.plainKeys == Tryd.prog.plainKeys) = true := by rw [cPlain]; kernel_rfl
theorem lexScans_c6 : namedTie Tryd.prog Rows.lexScansRow.named Rows.lexScansSpec.vars = true := by kernel_rfl
theorem lexScans_facts : joinedFacts Tryd.prog 3 Tryd.f3 Rows.lexScansSpec Rows.lexScansRow = true := by
  unfold joinedFacts
  rw [cEnter, cLaid, cMaps, cHeard, lexScans_c0, lexScans_c1, lexScans_c2, lexScans_c3, lexScans_c4, lexScans_c5, lexScans_c6]
  kernel_rfl
theorem lexScans_said : Rows.LexScansSaid :=
  OpenClaim.holds_of_wide 3 Tryd.f3 rfl rfl rfl rfl rfl rfl rfl ⟨rfl, rfl, rfl, rfl, rfl⟩ rfl rfl rfl rfl rfl (by kernel_rfl) Tryd.func3 lexScans_facts
    (of_decide_eq_true (by kernel_rfl)) (by unfold Func.isWrapper; first | (rw [if_pos (by decide +kernel)]; kernel_rfl) | (rw [if_neg (by decide +kernel)]; exact ⟨rfl, rfl⟩))
    (fun os started H enc _ => lexScans_lifted os started H enc)
theorem lexScans_params (f : FuncId) (fn : Func) (hf : Tryd.prog.funcNamed "dripstone/dripstonelaw01.LexScans" = some f) (hfn : Tryd.prog.funcs[f]? = some fn) : true = Tryd.prog.looks [] ∧ ∀ (j : Nat) t, fn.params[j]? = some t → Tryd.prog.wantsStandIn t = false := by
  obtain rfl : f = 3 := Option.some.inj ((show Tryd.prog.funcNamed "dripstone/dripstonelaw01.LexScans" = some 3 by kernel_rfl).symm.trans hf) |>.symm
  obtain rfl : fn = Tryd.f3 := (Option.some.inj (Tryd.func3.symm.trans hfn)).symm
  exact ⟨cLooks, fun j t ht => by
    rw [Tryd.params3] at ht
    have hm : t ∈ ([9] : List Nat) := by simpa using Array.mem_of_getElem? ht
    have hall : (([9] : List Nat).all fun u => !Tryd.prog.wantsStandIn u) = true := by kernel_rfl
    exact (show Tryd.prog.wantsStandIn t = false by simpa using List.all_eq_true.1 hall t hm)⟩
theorem lexScans_wf : Rows.lexScansRow.wfByText (OpenSpec.ofChange Rows.lexScansSpec) = true := by kernel_rfl
theorem lexScans_goes : false = Rows.lexScansRow.goesBy Tryd.prog := by kernel_rfl
theorem lexScans_card_said : Rows.LexScansCardSaid :=
  Claim7.holds_tied_plain_at .later [] [.data, .data, .data, .sentinel, .sentinel] true (true, "23c33b467d2bd80078b50dfb00103e5091ed1073ec3f27099c28af2820ef364f") true
    lexScans_said (fun _ h => by cases h) lexScans_wf (fun _ h => by cases h) lexScans_row_tie rfl ⟨rfl, rfl⟩ cMain rfl
    lexScans_params lexScans_goes
end Go.Proofs.YthmlejcfgbpcbaaDoor
