/- Proved: for every text and edit, LexKept returns true, and both read as they did. Conditions: the five listed package variables start as the program's text lays them (the card ties them); none of ours. -/
import Derived.Test.YthmlejcfgbpcbaaDoorR0
import Derived.Test.YthmlejcfgbpcbaaDoorP21x0
set_option autoImplicit false
set_option linter.all false
namespace Go.Proofs.YthmlejcfgbpcbaaDoor
open Go Go.VM Go.ChangeShapes Go.WideShapes Go.ChangeAt Go.RowKit
open Go.ChangeMaps (open_string shut_string)
set_option maxRecDepth 100000
theorem lexKept_lifted (os : Os) (started : os.Started) (H : Type) (enc : TypeId × Value → H) :
    ReturnsInHanded {} Tryd.checked os 16 .any (fun w args => (Rows.lexKeptSpec.pre enc Tryd.prog Tryd.f16 Rows.lexKeptRow.domain false w args ∧ laidMetH Tryd.prog laid5 w) ∧ sizedMet enc Tryd.prog Tryd.f16 (OpenSpec.ofChange Rows.lexKeptSpec) false w args)
      (Rows.lexKeptSpec.post enc Tryd.prog Tryd.f16 false true false false) := by
  refine returnsInHanded_of_change_and (C := Tryd.checked) (X := fun w _ => laidMetH Tryd.prog laid5 w) (fun _ _ _ hh h => h.of_heap hh) own started (by kernel_rfl) Tryd.func16
    (ChangeSpec.witness_shaped (enc := enc) (C := Tryd.checked) (os := os) (X := fun w _ => laidMetH Tryd.prog laid5 w) false (World.doorLaid Tryd.prog 72 os) #[.string ⟨#[]⟩, .agg #[.int .i64 0, .int .i64 0, .string ⟨#[]⟩]] 8 rfl (World.shaped_of_RefB (by kernel_rfl) (by kernel_rfl)) (by kernel_rfl) (by kernel_rfl) (by kernel_rfl) (door_met os _)) ?_
  intro W base args ds gs before hval0 hW _ hsz0 hL _
  have hval : ∀ (j : Nat) t v, Tryd.f16.params[j]? = some t → args[j]? = some v → Value.okWide Tryd.prog W .any base t v := hval0
  have hW' := hW
  obtain ⟨p, q, hA0, hV, rfl, hfz, hnd⟩ := hW
  have hA : DataW.TrodAll enc Tryd.prog W 0 (fun _ => true) true Tryd.f16.params.toList args.toList ds p := hA0
  rw [Tryd.params16] at hA hval
  obtain ⟨v0, vs0, d0, ds0, p0, q0, hargs, rfl, rfl, h0, r0⟩ := trodAll_cons hA
  obtain ⟨v1, vs1, d1, ds1, p1, q1, rfl, rfl, rfl, h1, r1⟩ := trodAll_cons r0
  obtain ⟨rfl, rfl, rfl⟩ := trodAll_nil r1
  obtain rfl : args = #[v0, v1] := by cases args; simp_all
  have hsz := hsz0
  rw [Tryd.params16] at hsz
  obtain ⟨rfl, rfl⟩ := trodVars_none hV
  obtain ⟨s0, rfl, rfl, rfl, y0⟩ := open_string Tryd.underlying9 (hval 0 9 v0 rfl rfl) h0
  have lt1 : ∀ x ∈ p1, x.block < W.heap.size := by obtain ⟨m, hm⟩ := h1; exact DataW.trod_lt m _ _ _ hm
  obtain ⟨x1, k1, b1⟩ := open_edit_b (hval 1 35 v1 rfl rfl) h1
  replace b1 := b1 fun n hn => by simpa using List.all_eq_true.1 hsz n (DataW.weights_mem_each (j := 1) (t := 35) rfl rfl n hn)
  clear hA0 hval0
  refine (law_walkp (ts := [.str, Tryd.Et]) Tryd.h16 [.string s0, v1] (s0, x1, ()) W (gl_of hL) ⟨kv_str okA W s0, k1, rfl⟩ b1).mono fun e W' ⟨he, bel⟩ => ?_
  subst he
  exact ⟨_, rfl, _, _, _, [], _, [], hW', trodAll_mk1 (shut_bool Tryd.underlying4 _), (trodAll_cons_mk (shut_string Tryd.underlying9 y0) (trodAll_cons_mk (Below.trod cLaid (by kernel_rfl) (of_decide_eq_true (by kernel_rfl)) h1 bel lt1) trodAll_mk0)), rfl, bel.frame _, fun h => by cases h⟩
theorem lexKept_c0 : Rows.lexKeptRow.wf (OpenSpec.ofChange Rows.lexKeptSpec) = true := by kernel_rfl
theorem lexKept_c1 : (Rows.lexKeptRow.inPlace == Tryd.prog.inPlace 16) = true := by kernel_rfl
theorem lexKept_c2 : (Rows.lexKeptRow.unfollowed == Tryd.prog.unfollowed 16) = true := by kernel_rfl
theorem lexKept_c3 : (Rows.lexKeptRow.recurses == Tryd.prog.recurses 16) = true := by kernel_rfl
theorem lexKept_c4 : (Rows.lexKeptRow.named == Tryd.prog.varsNamed 16) = true := by kernel_rfl
theorem lexKept_c5 : (Rows.lexKeptRow.plainKeys == Tryd.prog.plainKeys) = true := by rw [cPlain]; kernel_rfl
theorem lexKept_c6 : namedTie Tryd.prog Rows.lexKeptRow.named Rows.lexKeptSpec.vars = true := by kernel_rfl
theorem lexKept_facts : joinedFacts Tryd.prog 16 Tryd.f16 Rows.lexKeptSpec Rows.lexKeptRow = true := by
  unfold joinedFacts
  rw [cEnter, cLaid, cMaps, cHeard, lexKept_c0, lexKept_c1, lexKept_c2, lexKept_c3, lexKept_c4, lexKept_c5, lexKept_c6]
  kernel_rfl
theorem lexKept_said : Rows.LexKeptSaid :=
  OpenClaim.holds_of_wide 16 Tryd.f16 rfl rfl rfl rfl rfl rfl rfl ⟨rfl, rfl, rfl, rfl, rfl⟩ rfl rfl rfl rfl rfl (by kernel_rfl) Tryd.func16 lexKept_facts
    (of_decide_eq_true (by kernel_rfl)) (by unfold Func.isWrapper; first | (rw [if_pos (by decide +kernel)]; kernel_rfl) | (rw [if_neg (by decide +kernel)]; exact ⟨rfl, rfl⟩))
    (fun os started H enc _ => lexKept_lifted os started H enc)
theorem lexKept_params (f : FuncId) (fn : Func) (hf : Tryd.prog.funcNamed "dripstone/dripstonelaw01.LexKept" = some f) (hfn : Tryd.prog.funcs[f]? = some fn) : true = Tryd.prog.looks [] ∧ ∀ (j : Nat) t, fn.params[j]? = some t → Tryd.prog.wantsStandIn t = false := by
  obtain rfl : f = 16 := Option.some.inj ((show Tryd.prog.funcNamed "dripstone/dripstonelaw01.LexKept" = some 16 by kernel_rfl).symm.trans hf) |>.symm
  obtain rfl : fn = Tryd.f16 := (Option.some.inj (Tryd.func16.symm.trans hfn)).symm
  exact ⟨cLooks, fun j t ht => by
    rw [Tryd.params16] at ht
    have hm : t ∈ ([9, 35] : List Nat) := by simpa using Array.mem_of_getElem? ht
    have hall : (([9, 35] : List Nat).all fun u => !Tryd.prog.wantsStandIn u) = true := by kernel_rfl
    exact (show Tryd.prog.wantsStandIn t = false by simpa using List.all_eq_true.1 hall t hm)⟩
theorem lexKept_wf : Rows.lexKeptRow.wfByText (OpenSpec.ofChange Rows.lexKeptSpec) = true := by kernel_rfl
theorem lexKept_goes : false = Rows.lexKeptRow.goesBy Tryd.prog := by kernel_rfl
theorem lexKept_card_said : Rows.LexKeptCardSaid :=
  Claim7.holds_tied_plain_at .later [] [.data, .data, .data, .sentinel, .sentinel] true (true, "23c33b467d2bd80078b50dfb00103e5091ed1073ec3f27099c28af2820ef364f") true
    lexKept_said (fun _ h => by cases h) lexKept_wf (fun _ h => by cases h) lexKept_row_tie rfl ⟨rfl, rfl⟩ cMain rfl
    lexKept_params lexKept_goes
end Go.Proofs.YthmlejcfgbpcbaaDoor
