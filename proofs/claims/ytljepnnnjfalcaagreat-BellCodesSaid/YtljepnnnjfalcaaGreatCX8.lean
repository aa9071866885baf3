/- Proved: for all bells and numbers, BellCodes returns true, and the bells read as they did. Conditions: none. -/
import Derived.Test.YtljepnnnjfalcaaGreatCR8
set_option autoImplicit false
set_option maxRecDepth 100000
set_option linter.all false
/- Proved: for all bells and numbers,BellCodes returns true,and the bells read as they did. Conditions: none. -/
namespace Go.Proofs.YtljepnnnjfalcaaGreat
open Go Go.VM Go.ChangeShapes Go.WideShapes Go.ChangeAt Go.RowKit
open Go.Proofs.Tryz (Sta U8 It Bl Be)
theorem bellCodes_lifted (os:Os) (started:os.Started) (H:Type) (enc:TypeId × Value→H) :
  ReturnsInHanded {} Tryz.checked os 8 .any (Rows.bellCodesSpec.pre6 enc Tryz.prog Tryz.f8 Rows.bellCodesRow.domain false)
   (Rows.bellCodesSpec.post enc Tryz.prog Tryz.f8 false true false false):=by
 refine returnsInHanded_of_change (C:=Tryz.checked) own started (by kernel_rfl) Tryz.func8
  (ChangeSpec.witness6 (enc:=enc) (C:=Tryz.checked) false ⟨#[],#[.agg #[.int .i64 0,.int .i64 0,.bool false,.slice none 0 0,.slice none 0 0],.int .i64 0,.int .i64 0],[]⟩ 8 (by kernel_rfl) (by kernel_rfl) (by kernel_rfl) (by kernel_rfl)) ?_
 intro W base args ds gs before hval0 hW _ _
 have hval:∀ (j:Nat) t v,Tryz.f8.params[j]? = some t→args[j]? = some v→Value.okWide Tryz.prog W .any base t v:=hval0
 have hW':=hW
 obtain ⟨p,q,hA0,hV,rfl,hfz,hnd⟩:=hW
 have hA:DataW.TrodAll enc Tryz.prog W 0 (fun _=>true) true Tryz.f8.params.toList args.toList ds p:=hA0
 rw [Tryz.params8] at hA hval
 obtain ⟨v0,vs0,d0,ds0,p0,q0,hargs,rfl,rfl,h0,r0⟩:=trodAll_cons hA
 obtain ⟨v1,vs1,d1,ds1,p1,q1,rfl,rfl,rfl,h1,r1⟩:=trodAll_cons r0
 obtain ⟨v2,vs2,d2,ds2,p2,q2,rfl,rfl,rfl,h2,r2⟩:=trodAll_cons r1
 obtain ⟨rfl,rfl,rfl⟩:=trodAll_nil r2
 obtain rfl:args = #[v0,v1,v2]:=by cases args; simp_all
 obtain ⟨rfl,rfl⟩:=trodVars_none hV
 have lt0:∀ x ∈ p0,x.block < W.heap.size:=by obtain ⟨m,hm⟩:=h0; exact DataW.trod_lt m _ _ _ hm
 obtain ⟨x0,k0,e0⟩:=open_agg (T:=Bl) rfl opens_bl (agg_of Tryz.underlying28 (hval 0 28 v0 rfl rfl)) h0
 obtain ⟨s1,rfl,rfl,rfl,y1⟩:=open_int Tryz.underlying3 (hval 1 3 v1 rfl rfl) h1
 obtain ⟨s2,rfl,rfl,rfl,y2⟩:=open_int Tryz.underlying3 (hval 2 3 v2 rfl rfl) h2
 clear hA0 hval0
 refine (law_walk (ts:=[Bl,It,It]) Tryz.hb8 [v0,.int .i64 s1,.int .i64 s2] (x0,s1,s2,()) W ⟨k0,kv_i64 okA W s1,kv_i64 okA W s2,rfl⟩ e0).mono fun e W' ⟨he,bel⟩=>?_
 subst he
 exact ⟨_,rfl,_,_,_,[],_,[],hW',trodAll_mk1 (shut_bool Tryz.underlying4 _),(trodAll_cons_mk (Below.trod cLaid (by kernel_rfl) (of_decide_eq_true (by kernel_rfl)) h0 bel lt0) (trodAll_cons_mk (shut_int Tryz.underlying3 y1) (trodAll_cons_mk (shut_int Tryz.underlying3 y2) trodAll_mk0))),rfl,bel.frame _,fun h=>by cases h⟩
theorem bellCodes_c0:Rows.bellCodesRow.wf (OpenSpec.ofChange Rows.bellCodesSpec) = true:=by kernel_rfl
theorem bellCodes_c1:(Rows.bellCodesRow.inPlace == Tryz.prog.inPlace 8) = true:=by kernel_rfl
theorem bellCodes_c2:(Rows.bellCodesRow.unfollowed == Tryz.prog.unfollowed 8) = true:=by kernel_rfl
theorem bellCodes_c3:(Rows.bellCodesRow.recurses == Tryz.prog.recurses 8) = true:=by kernel_rfl
theorem bellCodes_c4:(Rows.bellCodesRow.named == Tryz.prog.varsNamed 8) = true:=by kernel_rfl
theorem bellCodes_c5:(Rows.bellCodesRow.plainKeys == Tryz.prog.plainKeys) = true:=by rw [cPlain]; kernel_rfl
theorem bellCodes_c6:namedTie Tryz.prog Rows.bellCodesRow.named Rows.bellCodesSpec.vars = true:=by kernel_rfl
theorem bellCodes_facts:joinedFacts Tryz.prog 8 Tryz.f8 Rows.bellCodesSpec Rows.bellCodesRow = true:=by
 unfold joinedFacts
 rw [cEnter,cLaid,cMaps,cHeard,bellCodes_c0,bellCodes_c1,bellCodes_c2,bellCodes_c3,bellCodes_c4,bellCodes_c5,bellCodes_c6]
 kernel_rfl
theorem bellCodes_said:Rows.BellCodesSaid :=
 OpenClaim.holds_of_wide 8 Tryz.f8 rfl rfl rfl rfl rfl rfl rfl ⟨rfl,rfl,rfl,rfl,rfl⟩ rfl rfl rfl rfl rfl (by kernel_rfl) Tryz.func8 bellCodes_facts
  (of_decide_eq_true (by kernel_rfl)) (by unfold Func.isWrapper; first | (rw [if_pos (by decide +kernel)]; kernel_rfl) | (rw [if_neg (by decide +kernel)]; exact ⟨rfl,rfl⟩))
  (fun os started H enc _=>bellCodes_lifted os started H enc)
end Go.Proofs.YtljepnnnjfalcaaGreat
