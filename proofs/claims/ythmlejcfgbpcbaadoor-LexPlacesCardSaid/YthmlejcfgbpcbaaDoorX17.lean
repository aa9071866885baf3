/- LexPlaces: at any text, any byte index and any place, the line and column of the index and the index of the place, or their errors, are what the document says. Conditions: the seven listed package variables start as the program's text lays them (the card ties them); none of ours. -/
import Derived.Test.YthmlejcfgbpcbaaDoorQ0
import Derived.Test.YthmlejcfgbpcbaaDoorP29x0
set_option autoImplicit false
set_option linter.all false
namespace Go.Proofs.YthmlejcfgbpcbaaDoor
open Go Go.VM Go.ChangeShapes Go.WideShapes Go.ChangeAt Go.RowKit
open Go.ChangeMaps (open_string shut_string)
set_option maxRecDepth 100000
theorem lexPlaces_lifted (os : Os) (started : os.Started) (H : Type) (enc : TypeId × Value → H) :
    ReturnsInHanded {} Tryd.checked os 19 .any (fun w args => (Rows.lexPlacesSpec.pre enc Tryd.prog Tryd.f19 Rows.lexPlacesRow.domain false w args ∧ laidMetH Tryd.prog laid7 w) ∧ sizedMet enc Tryd.prog Tryd.f19 (OpenSpec.ofChange Rows.lexPlacesSpec) false w args)
      (Rows.lexPlacesSpec.post enc Tryd.prog Tryd.f19 false true false false) := by
  refine returnsInHanded_of_change_and (C := Tryd.checked) (X := fun w _ => laidMetH Tryd.prog laid7 w) (fun _ _ _ hh h => h.of_heap hh) own started (by kernel_rfl) Tryd.func19
    (ChangeSpec.witness_shaped (enc := enc) (C := Tryd.checked) (os := os) (X := fun w _ => laidMetH Tryd.prog laid7 w) false (World.laidAll Tryd.prog os laid7) #[.string ⟨#[]⟩, .int .i64 0, .agg #[.int .i64 0, .int .i64 0]] 8 (World.laidAll_os _ _ _) (World.shaped_of_ZipB (by kernel_rfl) (by kernel_rfl)) (by kernel_rfl) (by kernel_rfl) (by kernel_rfl) (door_met7 os _)) ?_
  intro W base args ds gs before hval0 hW _ hsz0 hL _
  have hval : ∀ (j : Nat) t v, Tryd.f19.params[j]? = some t → args[j]? = some v → Value.okWide Tryd.prog W .any base t v := hval0
  have hW' := hW
  obtain ⟨p, q, hA0, hV, rfl, hfz, hnd⟩ := hW
  have hA : DataW.TrodAll enc Tryd.prog W 0 (fun _ => true) true Tryd.f19.params.toList args.toList ds p := hA0
  rw [Tryd.params19] at hA hval
  obtain ⟨v0, vs0, d0, ds0, p0, q0, hargs, rfl, rfl, h0, r0⟩ := trodAll_cons hA
  obtain ⟨v1, vs1, d1, ds1, p1, q1, rfl, rfl, rfl, h1, r1⟩ := trodAll_cons r0
  obtain ⟨v2, vs2, d2, ds2, p2, q2, rfl, rfl, rfl, h2, r2⟩ := trodAll_cons r1
  obtain ⟨rfl, rfl, rfl⟩ := trodAll_nil r2
  obtain rfl : args = #[v0, v1, v2] := by cases args; simp_all
  obtain ⟨rfl, rfl⟩ := trodVars_none hV
  obtain ⟨s0, rfl, rfl, rfl, y0⟩ := open_string Tryd.underlying9 (hval 0 9 v0 rfl rfl) h0
  obtain ⟨s1, rfl, rfl, rfl, y1⟩ := open_int Tryd.underlying3 (hval 1 3 v1 rfl rfl) h1
  have lt2 : ∀ x ∈ p2, x.block < W.heap.size := by obtain ⟨m, hm⟩ := h2; exact DataW.trod_lt m _ _ _ hm
  obtain ⟨x2, k2⟩ := open_place (hval 2 63 v2 rfl rfl) h2
  clear hA0 hval0
  refine (law_walk (ts := [.str, Tryd.It, Tryd.Pt]) Tryd.h19 [.string s0, .int .i64 s1, v2] (s0, s1, x2, ()) W (gl_of7 hL) ⟨kv_str okA W s0, kv_int okA W s1, k2, rfl⟩).mono fun e W' ⟨he, bel⟩ => ?_
  subst he
  exact ⟨_, rfl, _, _, _, [], _, [], hW', trodAll_mk1 (shut_bool Tryd.underlying4 _), (trodAll_cons_mk (shut_string Tryd.underlying9 y0) (trodAll_cons_mk (shut_int Tryd.underlying3 y1) (trodAll_cons_mk (Below.trod cLaid (by kernel_rfl) (of_decide_eq_true (by kernel_rfl)) h2 bel lt2) trodAll_mk0))), rfl, bel.frame _, fun h => by cases h⟩
theorem lexPlaces_c0 : Rows.lexPlacesRow.wf (OpenSpec.ofChange Rows.lexPlacesSpec) = true := by kernel_rfl
theorem lexPlaces_c1 : (Rows.lexPlacesRow.inPlace == Tryd.prog.inPlace 19) = true := by kernel_rfl
theorem lexPlaces_c2 : (Rows.lexPlacesRow.unfollowed == Tryd.prog.unfollowed 19) = true := by kernel_rfl
theorem lexPlaces_c3 : (Rows.lexPlacesRow.recurses == Tryd.prog.recurses 19) = true := by kernel_rfl
theorem lexPlaces_c4 : (Rows.lexPlacesRow.named == Tryd.prog.varsNamed 19) = true := by kernel_rfl
theorem lexPlaces_c5 : (Rows.lexPlacesRow.plainKeys == Tryd.prog.plainKeys) = true := by rw [cPlain]; kernel_rfl
theorem lexPlaces_c6 : namedTie Tryd.prog Rows.lexPlacesRow.named Rows.lexPlacesSpec.vars = true := by kernel_rfl
theorem lexPlaces_facts : joinedFacts Tryd.prog 19 Tryd.f19 Rows.lexPlacesSpec Rows.lexPlacesRow = true := by
  unfold joinedFacts
  rw [cEnter, cLaid, cMaps, cHeard, lexPlaces_c0, lexPlaces_c1, lexPlaces_c2, lexPlaces_c3, lexPlaces_c4, lexPlaces_c5, lexPlaces_c6]
  kernel_rfl
theorem lexPlaces_said : Rows.LexPlacesSaid :=
  OpenClaim.holds_of_wide 19 Tryd.f19 rfl rfl rfl rfl rfl rfl rfl ⟨rfl, rfl, rfl, rfl, rfl⟩ rfl rfl rfl rfl rfl (by kernel_rfl) Tryd.func19 lexPlaces_facts
    (of_decide_eq_true (by kernel_rfl)) (by unfold Func.isWrapper; first | (rw [if_pos (by decide +kernel)]; kernel_rfl) | (rw [if_neg (by decide +kernel)]; exact ⟨rfl, rfl⟩))
    (fun os started H enc _ => lexPlaces_lifted os started H enc)
theorem lexPlaces_params (f : FuncId) (fn : Func) (hf : Tryd.prog.funcNamed "dripstone/dripstonelaw01.LexPlaces" = some f) (hfn : Tryd.prog.funcs[f]? = some fn) : true = Tryd.prog.looks [] ∧ ∀ (j : Nat) t, fn.params[j]? = some t → Tryd.prog.wantsStandIn t = false := by
  obtain rfl : f = 19 := Option.some.inj ((show Tryd.prog.funcNamed "dripstone/dripstonelaw01.LexPlaces" = some 19 by kernel_rfl).symm.trans hf) |>.symm
  obtain rfl : fn = Tryd.f19 := (Option.some.inj (Tryd.func19.symm.trans hfn)).symm
  exact ⟨cLooks, fun j t ht => by
    rw [Tryd.params19] at ht
    have hm : t ∈ ([9, 3, 63] : List Nat) := by simpa using Array.mem_of_getElem? ht
    have hall : (([9, 3, 63] : List Nat).all fun u => !Tryd.prog.wantsStandIn u) = true := by kernel_rfl
    exact (show Tryd.prog.wantsStandIn t = false by simpa using List.all_eq_true.1 hall t hm)⟩
theorem lexPlaces_wf : Rows.lexPlacesRow.wfByText (OpenSpec.ofChange Rows.lexPlacesSpec) = true := by kernel_rfl
theorem lexPlaces_goes : false = Rows.lexPlacesRow.goesBy Tryd.prog := by kernel_rfl
theorem lexPlaces_card_said : Rows.LexPlacesCardSaid :=
  Claim7.holds_tied_plain_at .later [] [.data, .data, .data, .data, .sentinel, .sentinel, .pinned] true (true, "23c33b467d2bd80078b50dfb00103e5091ed1073ec3f27099c28af2820ef364f") true
    lexPlaces_said (fun _ h => by cases h) lexPlaces_wf (fun _ h => by cases h) lexPlaces_row_tie rfl ⟨rfl, rfl⟩ cMain rfl
    lexPlaces_params lexPlaces_goes
end Go.Proofs.YthmlejcfgbpcbaaDoor
