/- LexBlanks: a text whose comments are blanked has the same length, line feeds, and tokens with their places. Conditions: the five listed package variables start as the program's text lays them (the card ties them); none of ours. -/
import Derived.Test.YthmlejcfgbpcbaaDoorR0
import Derived.Test.YthmlejcfgbpcbaaDoorP26x0
set_option autoImplicit false
set_option linter.all false
namespace Go.Proofs.YthmlejcfgbpcbaaDoor
open Go Go.VM Go.ChangeShapes Go.WideShapes Go.ChangeAt Go.RowKit
open Go.ChangeMaps (open_string shut_string)
set_option maxRecDepth 100000
theorem lexBlanks_lifted (os : Os) (started : os.Started) (H : Type) (enc : TypeId × Value → H) :
    ReturnsInHanded {} Tryd.checked os 17 .any (fun w args => (Rows.lexBlanksSpec.pre enc Tryd.prog Tryd.f17 Rows.lexBlanksRow.domain false w args ∧ laidMetH Tryd.prog laid5 w) ∧ sizedMet enc Tryd.prog Tryd.f17 (OpenSpec.ofChange Rows.lexBlanksSpec) false w args)
      (Rows.lexBlanksSpec.post enc Tryd.prog Tryd.f17 false true false false) := by
  refine returnsInHanded_of_change_and (C := Tryd.checked) (X := fun w _ => laidMetH Tryd.prog laid5 w) (fun _ _ _ hh h => h.of_heap hh) own started (by kernel_rfl) Tryd.func17
    (ChangeSpec.witness_shaped (enc := enc) (C := Tryd.checked) (os := os) (X := fun w _ => laidMetH Tryd.prog laid5 w) false (World.doorLaid Tryd.prog 72 os) #[.string ⟨#[]⟩] 8 rfl (World.shaped_of_RefB (by kernel_rfl) (by kernel_rfl)) (by kernel_rfl) (by kernel_rfl) (by kernel_rfl) (door_met os _)) ?_
  intro W base args ds gs before hval0 hW _ hsz0 hL _
  have hval : ∀ (j : Nat) t v, Tryd.f17.params[j]? = some t → args[j]? = some v → Value.okWide Tryd.prog W .any base t v := hval0
  have hW' := hW
  obtain ⟨p, q, hA0, hV, rfl, hfz, hnd⟩ := hW
  have hA : DataW.TrodAll enc Tryd.prog W 0 (fun _ => true) true Tryd.f17.params.toList args.toList ds p := hA0
  rw [Tryd.params17] at hA hval
  obtain ⟨v0, vs0, d0, ds0, p0, q0, hargs, rfl, rfl, h0, r0⟩ := trodAll_cons hA
  obtain ⟨rfl, rfl, rfl⟩ := trodAll_nil r0
  obtain rfl : args = #[v0] := by cases args; simp_all
  obtain ⟨rfl, rfl⟩ := trodVars_none hV
  obtain ⟨s0, rfl, rfl, rfl, y0⟩ := open_string Tryd.underlying9 (hval 0 9 v0 rfl rfl) h0
  clear hA0 hval0
  refine (law_walk (ts := [.str]) Tryd.h17 [.string s0] (s0, ()) W (gl_of hL) ⟨kv_str okA W s0, rfl⟩).mono fun e W' ⟨he, bel⟩ => ?_
  subst he
  exact ⟨_, rfl, _, _, _, [], _, [], hW', trodAll_mk1 (shut_bool Tryd.underlying4 _), (trodAll_cons_mk (shut_string Tryd.underlying9 y0) trodAll_mk0), rfl, bel.frame _, fun h => by cases h⟩
theorem lexBlanks_c0 : Rows.lexBlanksRow.wf (OpenSpec.ofChange Rows.lexBlanksSpec) = true := by kernel_rfl
theorem lexBlanks_c1 : (Rows.lexBlanksRow.inPlace == Tryd.prog.inPlace 17) = true := by kernel_rfl
theorem lexBlanks_c2 : (Rows.lexBlanksRow.unfollowed == Tryd.prog.unfollowed 17) = true := by kernel_rfl
theorem lexBlanks_c3 : (Rows.lexBlanksRow.recurses == Tryd.prog.recurses 17) = true := by kernel_rfl
theorem lexBlanks_c4 : (Rows.lexBlanksRow.named == Tryd.prog.varsNamed 17) = true := by kernel_rfl
theorem lexBlanks_c5 : (Rows.lexBlanksRow.plainKeys == Tryd.prog.plainKeys) = true := by rw [cPlain]; kernel_rfl
theorem lexBlanks_c6 : namedTie Tryd.prog Rows.lexBlanksRow.named Rows.lexBlanksSpec.vars = true := by kernel_rfl
theorem lexBlanks_facts : joinedFacts Tryd.prog 17 Tryd.f17 Rows.lexBlanksSpec Rows.lexBlanksRow = true := by
  unfold joinedFacts
  rw [cEnter, cLaid, cMaps, cHeard, lexBlanks_c0, lexBlanks_c1, lexBlanks_c2, lexBlanks_c3, lexBlanks_c4, lexBlanks_c5, lexBlanks_c6]
  kernel_rfl
theorem lexBlanks_said : Rows.LexBlanksSaid :=
  OpenClaim.holds_of_wide 17 Tryd.f17 rfl rfl rfl rfl rfl rfl rfl ⟨rfl, rfl, rfl, rfl, rfl⟩ rfl rfl rfl rfl rfl (by kernel_rfl) Tryd.func17 lexBlanks_facts
    (of_decide_eq_true (by kernel_rfl)) (by unfold Func.isWrapper; first | (rw [if_pos (by decide +kernel)]; kernel_rfl) | (rw [if_neg (by decide +kernel)]; exact ⟨rfl, rfl⟩))
    (fun os started H enc _ => lexBlanks_lifted os started H enc)
theorem lexBlanks_params (f : FuncId) (fn : Func) (hf : Tryd.prog.funcNamed "dripstone/dripstonelaw01.LexBlanks" = some f) (hfn : Tryd.prog.funcs[f]? = some fn) : true = Tryd.prog.looks [] ∧ ∀ (j : Nat) t, fn.params[j]? = some t → Tryd.prog.wantsStandIn t = false := by
  obtain rfl : f = 17 := Option.some.inj ((show Tryd.prog.funcNamed "dripstone/dripstonelaw01.LexBlanks" = some 17 by kernel_rfl).symm.trans hf) |>.symm
  obtain rfl : fn = Tryd.f17 := (Option.some.inj (Tryd.func17.symm.trans hfn)).symm
  exact ⟨cLooks, fun j t ht => by
    rw [Tryd.params17] at ht
    have hm : t ∈ ([9] : List Nat) := by simpa using Array.mem_of_getElem? ht
    have hall : (([9] : List Nat).all fun u => !Tryd.prog.wantsStandIn u) = true := by kernel_rfl
    exact (show Tryd.prog.wantsStandIn t = false by simpa using List.all_eq_true.1 hall t hm)⟩
theorem lexBlanks_wf : Rows.lexBlanksRow.wfByText (OpenSpec.ofChange Rows.lexBlanksSpec) = true := by kernel_rfl
theorem lexBlanks_goes : false = Rows.lexBlanksRow.goesBy Tryd.prog := by kernel_rfl
theorem lexBlanks_card_said : Rows.LexBlanksCardSaid :=
  Claim7.holds_tied_plain_at .later [] [.data, .data, .data, .sentinel, .sentinel] true (true, "23c33b467d2bd80078b50dfb00103e5091ed1073ec3f27099c28af2820ef364f") true
    lexBlanks_said (fun _ h => by cases h) lexBlanks_wf (fun _ h => by cases h) lexBlanks_row_tie rfl ⟨rfl, rfl⟩ cMain rfl
    lexBlanks_params lexBlanks_goes
end Go.Proofs.YthmlejcfgbpcbaaDoor
