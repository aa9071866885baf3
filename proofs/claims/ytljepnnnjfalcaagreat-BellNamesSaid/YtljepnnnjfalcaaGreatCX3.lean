/- Proved: BellNames returns true. Conditions: none. -/
import Derived.Test.YtljepnnnjfalcaaGreatCR3
set_option autoImplicit false
set_option maxRecDepth 100000
set_option linter.all false
/- Proved: BellNames returns true. Conditions: none. -/
namespace Go.Proofs.YtljepnnnjfalcaaGreat
open Go Go.VM Go.ChangeShapes Go.WideShapes Go.ChangeAt Go.RowKit
open Go.Proofs.Tryz (Sta U8 It Bl Be)
theorem bellNames_lifted (os:Os) (started:os.Started) (H:Type) (enc:TypeId × Value→H) :
  ReturnsInHanded {} Tryz.checked os 3 .any (Rows.bellNamesSpec.pre6 enc Tryz.prog Tryz.f3 Rows.bellNamesRow.domain false)
   (Rows.bellNamesSpec.post enc Tryz.prog Tryz.f3 false true false false):=by
 refine returnsInHanded_of_change (C:=Tryz.checked) own started (by kernel_rfl) Tryz.func3
  (ChangeSpec.witness6 (enc:=enc) (C:=Tryz.checked) false ⟨#[],#[],[]⟩ 8 (by kernel_rfl) (by kernel_rfl) (by kernel_rfl) (by kernel_rfl)) ?_
 intro W base args ds gs before hval0 hW _ _
 have hval:∀ (j:Nat) t v,Tryz.f3.params[j]? = some t→args[j]? = some v→Value.okWide Tryz.prog W .any base t v:=hval0
 have hW':=hW
 obtain ⟨p,q,hA0,hV,rfl,hfz,hnd⟩:=hW
 have hA:DataW.TrodAll enc Tryz.prog W 0 (fun _=>true) true Tryz.f3.params.toList args.toList ds p:=hA0
 rw [Tryz.params3] at hA hval
 obtain ⟨hargs,rfl,rfl⟩:=trodAll_nil hA
 obtain rfl:args = #[]:=by cases args; simp_all
 obtain ⟨rfl,rfl⟩:=trodVars_none hV
 clear hA0 hval0
 refine (law_walk (ts:=[]) Tryz.hb3 [] (()) W rfl trivial).mono fun e W' ⟨he,bel⟩=>?_
 subst he
 exact ⟨_,rfl,_,_,_,[],_,[],hW',trodAll_mk1 (shut_bool Tryz.underlying4 _),trodAll_mk0,rfl,bel.frame _,fun h=>by cases h⟩
theorem bellNames_c0:Rows.bellNamesRow.wf (OpenSpec.ofChange Rows.bellNamesSpec) = true:=by kernel_rfl
theorem bellNames_c1:(Rows.bellNamesRow.inPlace == Tryz.prog.inPlace 3) = true:=by kernel_rfl
theorem bellNames_c2:(Rows.bellNamesRow.unfollowed == Tryz.prog.unfollowed 3) = true:=by kernel_rfl
theorem bellNames_c3:(Rows.bellNamesRow.recurses == Tryz.prog.recurses 3) = true:=by kernel_rfl
theorem bellNames_c4:(Rows.bellNamesRow.named == Tryz.prog.varsNamed 3) = true:=by kernel_rfl
theorem bellNames_c5:(Rows.bellNamesRow.plainKeys == Tryz.prog.plainKeys) = true:=by rw [cPlain]; kernel_rfl
theorem bellNames_c6:namedTie Tryz.prog Rows.bellNamesRow.named Rows.bellNamesSpec.vars = true:=by kernel_rfl
theorem bellNames_facts:joinedFacts Tryz.prog 3 Tryz.f3 Rows.bellNamesSpec Rows.bellNamesRow = true:=by
 unfold joinedFacts
 rw [cEnter,cLaid,cMaps,cHeard,bellNames_c0,bellNames_c1,bellNames_c2,bellNames_c3,bellNames_c4,bellNames_c5,bellNames_c6]
 kernel_rfl
theorem bellNames_said:Rows.BellNamesSaid :=
 OpenClaim.holds_of_wide 3 Tryz.f3 rfl rfl rfl rfl rfl rfl rfl ⟨rfl,rfl,rfl,rfl,rfl⟩ rfl rfl rfl rfl rfl (by kernel_rfl) Tryz.func3 bellNames_facts
  (of_decide_eq_true (by kernel_rfl)) (by unfold Func.isWrapper; first | (rw [if_pos (by decide +kernel)]; kernel_rfl) | (rw [if_neg (by decide +kernel)]; exact ⟨rfl,rfl⟩))
  (fun os started H enc _=>bellNames_lifted os started H enc)
end Go.Proofs.YtljepnnnjfalcaaGreat
