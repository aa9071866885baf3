/- Proved: for all bells, BellChecks returns true, and they read as they did. Conditions: none. -/
import Derived.Test.YtljepnnnjfalcaaGreatBR7
set_option autoImplicit false
set_option maxRecDepth 100000
set_option linter.all false
/- Proved: for all bells,BellChecks returns true,and they read as they did. Conditions: none. -/
namespace Go.Proofs.YtljepnnnjfalcaaGreat
open Go Go.VM Go.ChangeShapes Go.WideShapes Go.ChangeAt Go.RowKit
open Go.Proofs.Tryz (Sta U8 It Bl Be)
theorem bellChecks_lifted (os:Os) (started:os.Started) (H:Type) (enc:TypeId × Value→H) :
  ReturnsInHanded {} Tryz.checked os 7 .any (Rows.bellChecksSpec.pre6 enc Tryz.prog Tryz.f7 Rows.bellChecksRow.domain false)
   (Rows.bellChecksSpec.post enc Tryz.prog Tryz.f7 false true false false):=by
 refine returnsInHanded_of_change (C:=Tryz.checked) own started (by kernel_rfl) Tryz.func7
  (ChangeSpec.witness6 (enc:=enc) (C:=Tryz.checked) false ⟨#[],#[.agg #[.int .i64 0,.int .i64 0,.bool false,.slice none 0 0,.slice none 0 0]],[]⟩ 8 (by kernel_rfl) (by kernel_rfl) (by kernel_rfl) (by kernel_rfl)) ?_
 intro W base args ds gs before hval0 hW _ _
 have hval:∀ (j:Nat) t v,Tryz.f7.params[j]? = some t→args[j]? = some v→Value.okWide Tryz.prog W .any base t v:=hval0
 have hW':=hW
 obtain ⟨p,q,hA0,hV,rfl,hfz,hnd⟩:=hW
 have hA:DataW.TrodAll enc Tryz.prog W 0 (fun _=>true) true Tryz.f7.params.toList args.toList ds p:=hA0
 rw [Tryz.params7] at hA hval
 obtain ⟨v0,vs0,d0,ds0,p0,q0,hargs,rfl,rfl,h0,r0⟩:=trodAll_cons hA
 obtain ⟨rfl,rfl,rfl⟩:=trodAll_nil r0
 obtain rfl:args = #[v0]:=by cases args; simp_all
 obtain ⟨rfl,rfl⟩:=trodVars_none hV
 have lt0:∀ x ∈ p0,x.block < W.heap.size:=by obtain ⟨m,hm⟩:=h0; exact DataW.trod_lt m _ _ _ hm
 obtain ⟨x0,k0,e0⟩:=open_agg (T:=Bl) rfl opens_bl (agg_of Tryz.underlying28 (hval 0 28 v0 rfl rfl)) h0
 clear hA0 hval0
 refine (law_walk (ts:=[Bl]) Tryz.hb7 [v0] (x0,()) W ⟨k0,rfl⟩ e0).mono fun e W' ⟨he,bel⟩=>?_
 subst he
 exact ⟨_,rfl,_,_,_,[],_,[],hW',trodAll_mk1 (shut_bool Tryz.underlying4 _),(trodAll_cons_mk (Below.trod cLaid (by kernel_rfl) (of_decide_eq_true (by kernel_rfl)) h0 bel lt0) trodAll_mk0),rfl,bel.frame _,fun h=>by cases h⟩
theorem bellChecks_c0:Rows.bellChecksRow.wf (OpenSpec.ofChange Rows.bellChecksSpec) = true:=by kernel_rfl
theorem bellChecks_c1:(Rows.bellChecksRow.inPlace == Tryz.prog.inPlace 7) = true:=by kernel_rfl
theorem bellChecks_c2:(Rows.bellChecksRow.unfollowed == Tryz.prog.unfollowed 7) = true:=by kernel_rfl
theorem bellChecks_c3:(Rows.bellChecksRow.recurses == Tryz.prog.recurses 7) = true:=by kernel_rfl
theorem bellChecks_c4:(Rows.bellChecksRow.named == Tryz.prog.varsNamed 7) = true:=by kernel_rfl
theorem bellChecks_c5:(Rows.bellChecksRow.plainKeys == Tryz.prog.plainKeys) = true:=by rw [cPlain]; kernel_rfl
theorem bellChecks_c6:namedTie Tryz.prog Rows.bellChecksRow.named Rows.bellChecksSpec.vars = true:=by kernel_rfl
theorem bellChecks_facts:joinedFacts Tryz.prog 7 Tryz.f7 Rows.bellChecksSpec Rows.bellChecksRow = true:=by
 unfold joinedFacts
 rw [cEnter,cLaid,cMaps,cHeard,bellChecks_c0,bellChecks_c1,bellChecks_c2,bellChecks_c3,bellChecks_c4,bellChecks_c5,bellChecks_c6]
 kernel_rfl
theorem bellChecks_said:Rows.BellChecksSaid :=
 OpenClaim.holds_of_wide 7 Tryz.f7 rfl rfl rfl rfl rfl rfl rfl ⟨rfl,rfl,rfl,rfl,rfl⟩ rfl rfl rfl rfl rfl (by kernel_rfl) Tryz.func7 bellChecks_facts
  (of_decide_eq_true (by kernel_rfl)) (by unfold Func.isWrapper; first | (rw [if_pos (by decide +kernel)]; kernel_rfl) | (rw [if_neg (by decide +kernel)]; exact ⟨rfl,rfl⟩))
  (fun os started H enc _=>bellChecks_lifted os started H enc)
end Go.Proofs.YtljepnnnjfalcaaGreat
