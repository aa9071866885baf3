/- Proved: for all bells and states, BellViews returns true, and both read as they did. Conditions: none. -/
import Derived.Test.YtljepnnnjfalcaaGreatBR9
set_option autoImplicit false
set_option maxRecDepth 100000
set_option linter.all false
/- Proved: for all bells and states,BellViews returns true,and both read as they did. Conditions: none. -/
namespace Go.Proofs.YtljepnnnjfalcaaGreat
open Go Go.VM Go.ChangeShapes Go.WideShapes Go.ChangeAt Go.RowKit
open Go.Proofs.Tryz (Sta U8 It Bl Be)
theorem bellViews_lifted (os:Os) (started:os.Started) (H:Type) (enc:TypeId × Value→H) :
  ReturnsInHanded {} Tryz.checked os 9 .any (Rows.bellViewsSpec.pre6 enc Tryz.prog Tryz.f9 Rows.bellViewsRow.domain false)
   (Rows.bellViewsSpec.post enc Tryz.prog Tryz.f9 false true false false):=by
 refine returnsInHanded_of_change (C:=Tryz.checked) own started (by kernel_rfl) Tryz.func9
  (ChangeSpec.witness6 (enc:=enc) (C:=Tryz.checked) false ⟨#[],#[.agg #[.int .i64 0,.int .i64 0,.bool false,.slice none 0 0,.slice none 0 0],.agg #[.slice none 0 0,.slice none 0 0]],[]⟩ 8 (by kernel_rfl) (by kernel_rfl) (by kernel_rfl) (by kernel_rfl)) ?_
 intro W base args ds gs before hval0 hW _ _
 have hval:∀ (j:Nat) t v,Tryz.f9.params[j]? = some t→args[j]? = some v→Value.okWide Tryz.prog W .any base t v:=hval0
 have hW':=hW
 obtain ⟨p,q,hA0,hV,rfl,hfz,hnd⟩:=hW
 have hA:DataW.TrodAll enc Tryz.prog W 0 (fun _=>true) true Tryz.f9.params.toList args.toList ds p:=hA0
 rw [Tryz.params9] at hA hval
 obtain ⟨v0,vs0,d0,ds0,p0,q0,hargs,rfl,rfl,h0,r0⟩:=trodAll_cons hA
 obtain ⟨v1,vs1,d1,ds1,p1,q1,rfl,rfl,rfl,h1,r1⟩:=trodAll_cons r0
 obtain ⟨rfl,rfl,rfl⟩:=trodAll_nil r1
 obtain rfl:args = #[v0,v1]:=by cases args; simp_all
 obtain ⟨rfl,rfl⟩:=trodVars_none hV
 have lt0:∀ x ∈ p0,x.block < W.heap.size:=by obtain ⟨m,hm⟩:=h0; exact DataW.trod_lt m _ _ _ hm
 obtain ⟨x0,k0,e0⟩:=open_agg (T:=Bl) rfl opens_bl (agg_of Tryz.underlying28 (hval 0 28 v0 rfl rfl)) h0
 have lt1:∀ x ∈ p1,x.block < W.heap.size:=by obtain ⟨m,hm⟩:=h1; exact DataW.trod_lt m _ _ _ hm
 obtain ⟨x1,k1,e1⟩:=open_agg (T:=Sta) rfl opens_sta (agg_of Tryz.underlying45 (hval 1 45 v1 rfl rfl)) h1
 clear hA0 hval0
 refine (law_walk (ts:=[Bl,Sta]) Tryz.hb9 [v0,v1] (x0,x1,()) W ⟨k0,k1,rfl⟩ ⟨e0,e1⟩).mono fun e W' ⟨he,bel⟩=>?_
 subst he
 exact ⟨_,rfl,_,_,_,[],_,[],hW',trodAll_mk1 (shut_bool Tryz.underlying4 _),(trodAll_cons_mk (Below.trod cLaid (by kernel_rfl) (of_decide_eq_true (by kernel_rfl)) h0 bel lt0) (trodAll_cons_mk (Below.trod cLaid (by kernel_rfl) (of_decide_eq_true (by kernel_rfl)) h1 bel lt1) trodAll_mk0)),rfl,bel.frame _,fun h=>by cases h⟩
theorem bellViews_c0:Rows.bellViewsRow.wf (OpenSpec.ofChange Rows.bellViewsSpec) = true:=by kernel_rfl
theorem bellViews_c1:(Rows.bellViewsRow.inPlace == Tryz.prog.inPlace 9) = true:=by kernel_rfl
theorem bellViews_c2:(Rows.bellViewsRow.unfollowed == Tryz.prog.unfollowed 9) = true:=by kernel_rfl
theorem bellViews_c3:(Rows.bellViewsRow.recurses == Tryz.prog.recurses 9) = true:=by kernel_rfl
theorem bellViews_c4:(Rows.bellViewsRow.named == Tryz.prog.varsNamed 9) = true:=by kernel_rfl
theorem bellViews_c5:(Rows.bellViewsRow.plainKeys == Tryz.prog.plainKeys) = true:=by rw [cPlain]; kernel_rfl
theorem bellViews_c6:namedTie Tryz.prog Rows.bellViewsRow.named Rows.bellViewsSpec.vars = true:=by kernel_rfl
theorem bellViews_facts:joinedFacts Tryz.prog 9 Tryz.f9 Rows.bellViewsSpec Rows.bellViewsRow = true:=by
 unfold joinedFacts
 rw [cEnter,cLaid,cMaps,cHeard,bellViews_c0,bellViews_c1,bellViews_c2,bellViews_c3,bellViews_c4,bellViews_c5,bellViews_c6]
 kernel_rfl
theorem bellViews_said:Rows.BellViewsSaid :=
 OpenClaim.holds_of_wide 9 Tryz.f9 rfl rfl rfl rfl rfl rfl rfl ⟨rfl,rfl,rfl,rfl,rfl⟩ rfl rfl rfl rfl rfl (by kernel_rfl) Tryz.func9 bellViews_facts
  (of_decide_eq_true (by kernel_rfl)) (by unfold Func.isWrapper; first | (rw [if_pos (by decide +kernel)]; kernel_rfl) | (rw [if_neg (by decide +kernel)]; exact ⟨rfl,rfl⟩))
  (fun os started H enc _=>bellViews_lifted os started H enc)
end Go.Proofs.YtljepnnnjfalcaaGreat
