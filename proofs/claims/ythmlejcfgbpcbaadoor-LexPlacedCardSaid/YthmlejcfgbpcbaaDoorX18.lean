/- LexPlaced: every index of a text has its line and column, and they lead back to it. Conditions: the seven listed package variables start as the program's text lays them (the card ties them); none of ours. -/
import Derived.Test.YthmlejcfgbpcbaaDoorQ0
import Derived.Test.YthmlejcfgbpcbaaDoorP29x0
set_option autoImplicit false
set_option linter.all false
namespace Go.Proofs.YthmlejcfgbpcbaaDoor
open Go Go.VM Go.ChangeShapes Go.WideShapes Go.ChangeAt Go.RowKit
open Go.ChangeMaps (open_string shut_string)
set_option maxRecDepth 100000
theorem lexPlaced_lifted (os : Os) (started : os.Started) (H : Type) (enc : TypeId × Value → H) :
    ReturnsInHanded {} Tryd.checked os 20 .any (fun w args => (Rows.lexPlacedSpec.pre enc Tryd.prog Tryd.f20 Rows.lexPlacedRow.domain false w args ∧ laidMetH Tryd.prog laid7 w) ∧ sizedMet enc Tryd.prog Tryd.f20 (OpenSpec.ofChange Rows.lexPlacedSpec) false w args)
      (Rows.lexPlacedSpec.post enc Tryd.prog Tryd.f20 false true false false) := by
  refine returnsInHanded_of_change_and (C := Tryd.checked) (X := fun w _ => laidMetH Tryd.prog laid7 w) (fun _ _ _ hh h => h.of_heap hh) own started (by kernel_rfl) Tryd.func20
    (ChangeSpec.witness_shaped (enc := enc) (C := Tryd.checked) (os := os) (X := fun w _ => laidMetH Tryd.prog laid7 w) false (World.laidAll Tryd.prog os laid7) #[.string ⟨#[]⟩] 8 (World.laidAll_os _ _ _) (World.shaped_of_ZipB (by kernel_rfl) (by kernel_rfl)) (by kernel_rfl) (by kernel_rfl) (by kernel_rfl) (door_met7 os _)) ?_
  intro W base args ds gs before hval0 hW _ hsz0 hL _
  have hval : ∀ (j : Nat) t v, Tryd.f20.params[j]? = some t → args[j]? = some v → Value.okWide Tryd.prog W .any base t v := hval0
  have hW' := hW
  obtain ⟨p, q, hA0, hV, rfl, hfz, hnd⟩ := hW
  have hA : DataW.TrodAll enc Tryd.prog W 0 (fun _ => true) true Tryd.f20.params.toList args.toList ds p := hA0
  rw [Tryd.params20] at hA hval
  obtain ⟨v0, vs0, d0, ds0, p0, q0, hargs, rfl, rfl, h0, r0⟩ := trodAll_cons hA
  obtain ⟨rfl, rfl, rfl⟩ := trodAll_nil r0
  obtain rfl : args = #[v0] := by cases args; simp_all
  obtain ⟨rfl, rfl⟩ := trodVars_none hV
  obtain ⟨s0, rfl, rfl, rfl, y0⟩ := open_string Tryd.underlying9 (hval 0 9 v0 rfl rfl) h0
  clear hA0 hval0
  refine (law_walk (ts := [.str]) Tryd.h20 [.string s0] (s0, ()) W (gl_of7 hL) ⟨kv_str okA W s0, rfl⟩).mono fun e W' ⟨he, bel⟩ => ?_
  subst he
  exact ⟨_, rfl, _, _, _, [], _, [], hW', trodAll_mk1 (shut_bool Tryd.underlying4 _), (trodAll_cons_mk (shut_string Tryd.underlying9 y0) trodAll_mk0), rfl, bel.frame _, fun h => by cases h⟩
theorem lexPlaced_c0 : Rows.lexPlacedRow.wf (OpenSpec.ofChange Rows.lexPlacedSpec) = true := by kernel_rfl
theorem lexPlaced_c1 : (Rows.lexPlacedRow.inPlace == Tryd.prog.inPlace 20) = true := by kernel_rfl
theorem lexPlaced_c2 : (Rows.lexPlacedRow.unfollowed == Tryd.prog.unfollowed 20) = true := by kernel_rfl
theorem lexPlaced_c3 : (Rows.lexPlacedRow.recurses == Tryd.prog.recurses 20) = true := by kernel_rfl
theorem lexPlaced_c4 : (Rows.lexPlacedRow.named == Tryd.prog.varsNamed 20) = true := by kernel_rfl
theorem lexPlaced_c5 : (Rows.lexPlacedRow.plainKeys == Tryd.prog.plainKeys) = true := by rw [cPlain]; kernel_rfl
theorem lexPlaced_c6 : namedTie Tryd.prog Rows.lexPlacedRow.named Rows.lexPlacedSpec.vars = true := by kernel_rfl
theorem lexPlaced_facts : joinedFacts Tryd.prog 20 Tryd.f20 Rows.lexPlacedSpec Rows.lexPlacedRow = true := by
  unfold joinedFacts
  rw [cEnter, cLaid, cMaps, cHeard, lexPlaced_c0, lexPlaced_c1, lexPlaced_c2, lexPlaced_c3, lexPlaced_c4, lexPlaced_c5, lexPlaced_c6]
  kernel_rfl
theorem lexPlaced_said : Rows.LexPlacedSaid :=
  OpenClaim.holds_of_wide 20 Tryd.f20 rfl rfl rfl rfl rfl rfl rfl ⟨rfl, rfl, rfl, rfl, rfl⟩ rfl rfl rfl rfl rfl (by kernel_rfl) Tryd.func20 lexPlaced_facts
    (of_decide_eq_true (by kernel_rfl)) (by unfold Func.isWrapper; first | (rw [if_pos (by decide +kernel)]; kernel_rfl) | (rw [if_neg (by decide +kernel)]; exact ⟨rfl, rfl⟩))
    (fun os started H enc _ => lexPlaced_lifted os started H enc)
theorem lexPlaced_params (f : FuncId) (fn : Func) (hf : Tryd.prog.funcNamed "dripstone/dripstonelaw01.LexPlaced" = some f) (hfn : Tryd.prog.funcs[f]? = some fn) : true = Tryd.prog.looks [] ∧ ∀ (j : Nat) t, fn.params[j]? = some t → Tryd.prog.wantsStandIn t = false := by
  obtain rfl : f = 20 := Option.some.inj ((show Tryd.prog.funcNamed "dripstone/dripstonelaw01.LexPlaced" = some 20 by kernel_rfl).symm.trans hf) |>.symm
  obtain rfl : fn = Tryd.f20 := (Option.some.inj (Tryd.func20.symm.trans hfn)).symm
  exact ⟨cLooks, fun j t ht => by
    rw [Tryd.params20] at ht
    have hm : t ∈ ([9] : List Nat) := by simpa using Array.mem_of_getElem? ht
    have hall : (([9] : List Nat).all fun u => !Tryd.prog.wantsStandIn u) = true := by kernel_rfl
    exact (show Tryd.prog.wantsStandIn t = false by simpa using List.all_eq_true.1 hall t hm)⟩
theorem lexPlaced_wf : Rows.lexPlacedRow.wfByText (OpenSpec.ofChange Rows.lexPlacedSpec) = true := by kernel_rfl
theorem lexPlaced_goes : false = Rows.lexPlacedRow.goesBy Tryd.prog := by kernel_rfl
theorem lexPlaced_card_said : Rows.LexPlacedCardSaid :=
  Claim7.holds_tied_plain_at .later [] [.data, .data, .data, .data, .sentinel, .sentinel, .pinned] true (true, "23c33b467d2bd80078b50dfb00103e5091ed1073ec3f27099c28af2820ef364f") true
    lexPlaced_said (fun _ h => by cases h) lexPlaced_wf (fun _ h => by cases h) lexPlaced_row_tie rfl ⟨rfl, rfl⟩ cMain rfl
    lexPlaced_params lexPlaced_goes
end Go.Proofs.YthmlejcfgbpcbaaDoor
