/- How the arguments are read into plain data. Conditions: none. -/
import Derived.Test.YtljepnnnjfalcaaGreatRows
import Derived.WalkKit
import Derived.ProofKit
import Derived.OpenShut
import Derived.ShutString
import Derived.ChangeOld
import Derived.Below
import Derived.SizedLaws
import Derived.WideShapes
import Derived.ChangeArms
import Derived.JoinedOf
import Derived.Test.YtljepnnnjfalcaaGreatCE3x0
set_option autoImplicit false
set_option maxRecDepth 100000
set_option linter.all false
namespace Go.Proofs.YtljepnnnjfalcaaGreat
open Go Go.VM Go.ChangeShapes Go.WideShapes Go.ChangeAt Go.RowKit
open Go.Proofs.Tryz (Wk Sta Th Kp In En Mv U8 It Bl Be WkD StD ThD KpD InD BlD BeD bsTF bTF bETF)
abbrev Tu:Ty:=.wrap (.sl U8)
theorem own:ownKnob Tryz.prog.godebug = none:=by kernel_rfl
theorem exists_list {α:Type} {R:Nat→α→Prop}:∀ n:Nat,(∀ i,i < n→∃ y,R i y)→∃ l:List α,l.length = n∧∀ i y,l[i]? = some y→R i y
 | 0,_=>⟨[],rfl,fun i y h=>by simp at h⟩
 | n + 1,h=>by
   obtain ⟨l,h1,h2⟩:=exists_list n fun i hi=>h i (by omega)
   obtain ⟨y,hy⟩:=h n (by omega)
   refine ⟨l ++ [y],by simp [h1],fun i z hz=>?_⟩
   rw [List.getElem?_append] at hz
   split at hz
   ·exact h2 i z hz
   ·rename_i hl
    have:i = n:=by
     have:=(List.getElem?_eq_some_iff.1 hz).1
     simp at this
     omega
    subst this
    simp [h1] at hz
    subst hz
    exact hy
def okA (_:Nat):Prop:=True
section
variable {H:Type} {enc:TypeId × Value→H} {W:World} {base:Nat} {sp:Nat→Bool} {held:Bool}
def Opens (enc:TypeId × Value→H) (W:World) (base:Nat) (sp:Nat→Bool) (held:Bool) (t:TypeId) (T:Ty) (Q:T.D→Prop):Prop :=
 ∀ (n:Nat) (cs:List Value) (x:DataW H × List MemPlace),DataW.trod enc Tryz.prog W base sp held n t cs = some x→∃ y:T.D,K okA W T y cs∧Q y
theorem opens_int {t:TypeId} {k:IntKind} (ht:Tryz.prog.underlying t = some (.int k)):Opens enc W base sp held t (.int k) fun z=>(Lit.int k z).wf = true:=fun n cs x h=>by
 obtain ⟨z,e,_,hw⟩:=DataW.trod_int ht h
 exact ⟨z,e,hw⟩
theorem opens_bool {t:TypeId} (ht:Tryz.prog.underlying t = some .bool):Opens enc W base sp held t .bool fun _=>True:=fun n cs x h=>by
 obtain ⟨z,e,_⟩:=DataW.trod_bool ht h
 exact ⟨z,e,trivial⟩
theorem opens_sl {t e:TypeId} {T:Ty} {Q:T.D→Prop} (ht:Tryz.prog.underlying t = some (.slice e)) (hc:Tryz.prog.cellsOf e = T.n) (he:Opens enc W base sp held e T Q):Opens enc W base sp held t (.sl T) fun l=>List.length (α:=T.D) l≤9223372036854775807∧∀ y:T.D,y ∈ (show List T.D from l)→Q y:=fun n cs x h=>by
 rcases DataW.trod_slice ht h with ⟨rfl,_⟩ | ⟨a,len,cap,elems,rest,m,_,rfl,_,_,hlc,hcm,hel,hi,_,_⟩
 ·exact ⟨([]:List T.D),⟨none,0,rfl,Nat.le_refl _,fun h=>absurd h (by simp)⟩,by simp,fun y hy=>by cases hy⟩
 ·obtain ⟨l,hl,hR⟩:=exists_list (R:=fun i (y:T.D)=>(∃ vs,K okA W T y vs∧∀ j u,vs[j]? = some u→W.cell? (a.add (i * T.n + j)) = some u)∧Q y) len (fun i hlt=>by
   have e1:=hi i hlt
   rw [List.getElem?_eq_getElem (by omega),hc] at e1
   obtain ⟨vs,hvs,htr⟩:=Option.bind_eq_some_iff.1 e1
   obtain ⟨y,hK,hQ⟩:=he m vs _ htr
   obtain ⟨_,hlen,hcell⟩:=World.cells?_some hvs
   refine ⟨y,⟨vs,hK,fun j u hu=>?_⟩,hQ⟩
   have hj:j < T.n:=by rw [← hlen]; exact (List.getElem?_eq_some_iff.1 hu).1
   have:=hcell j hj
   rw [Addr.add_add] at this
   rw [this,hu])
  refine ⟨l,⟨some a,cap,by rw [hl],by rw [hl]; exact hlc,fun _=>⟨a,rfl,trivial,fun j y hy=>(hR j y hy).1⟩⟩,?_,fun y hy=>?_⟩
  ·have:maxLen = 9223372036854775807:=by decide
   rw [hl]; omega
  ·obtain ⟨j,hj⟩:=List.getElem?_of_mem hy
   exact (hR j y hj).2
theorem Opens.mono {t:TypeId} {T:Ty} {Q Q':T.D→Prop} (h:Opens enc W base sp held t T Q) (hq:∀ y,Q y→Q' y):Opens enc W base sp held t T Q':=fun n cs x hx=>by
 obtain ⟨y,h1,h2⟩:=h n cs x hx
 exact ⟨y,h1,hq y h2⟩
theorem ci (t:TypeId) (h:Tryz.prog.cellsOf t = 1):Tryz.prog.cellsOf t = 1:=h
theorem c3:Tryz.prog.cellsOf 3 = 1:=by kernel_rfl
theorem c4:Tryz.prog.cellsOf 4 = 1:=by kernel_rfl
theorem c5:Tryz.prog.cellsOf 5 = 1:=by kernel_rfl
theorem c22:Tryz.prog.cellsOf 22 = 1:=by kernel_rfl
theorem c48:Tryz.prog.cellsOf 48 = 1:=by kernel_rfl
theorem c50:Tryz.prog.cellsOf 50 = 3:=by kernel_rfl
theorem c54:Tryz.prog.cellsOf 54 = 1:=by kernel_rfl
theorem c36:Tryz.prog.cellsOf 36 = 1:=by kernel_rfl
theorem c140:Tryz.prog.cellsOf 140 = 6:=by kernel_rfl
theorem c43:Tryz.prog.cellsOf 43 = 1:=by kernel_rfl
theorem c45:Tryz.prog.cellsOf 45 = 2:=by kernel_rfl
theorem c59:Tryz.prog.cellsOf 59 = 1:=by kernel_rfl
theorem c135:Tryz.prog.cellsOf 135 = 1:=by kernel_rfl
theorem c137:Tryz.prog.cellsOf 137 = 5:=by kernel_rfl
theorem c190:Tryz.prog.cellsOf 190 = 2:=by kernel_rfl
theorem fields_at {t:TypeId} {fs:Array Field} {n:Nat} {cs:List Value} {x:DataW H × List MemPlace} (ht:Tryz.prog.underlying t = some (.struct fs)) (h:DataW.trod enc Tryz.prog W base sp held n t cs = some x) :
  cs.length = Tryz.prog.cellsOf t∧∀ (i:Nat) (f:Field),fs[i]? = some f→∃ m y,DataW.trod enc Tryz.prog W base sp held m f.type ((cs.drop f.offset).take (Tryz.prog.cellsOf f.type)) = some y:=by
 obtain ⟨xs,m,_,_,hl,hlen,hf⟩:=DataW.trod_struct ht h
 refine ⟨hl,fun i f hi=>?_⟩
 have hlt:i < xs.length:=by rw [hlen]; exact (Array.getElem?_eq_some_iff.1 hi).1
 exact ⟨m,xs[i],by rw [hf i f hi,List.getElem?_eq_getElem hlt]⟩
theorem opens_in:Opens enc W base sp held 140 In fun _=>True:=fun n cs x h=>by
 obtain ⟨hl,hf⟩:=fields_at Tryz.underlying140 h
 rw [c140] at hl
 match cs,hl with
 | [a,b,c,d,e,f],_ =>
   obtain ⟨_,_,h0⟩:=hf 0 _ rfl
   obtain ⟨_,_,h1⟩:=hf 1 _ rfl
   obtain ⟨_,_,h2⟩:=hf 2 _ rfl
   obtain ⟨_,_,h3⟩:=hf 3 _ rfl
   obtain ⟨_,_,h4⟩:=hf 4 _ rfl
   obtain ⟨_,_,h5⟩:=hf 5 _ rfl
   simp only [c3,c5,List.getElem_toArray,List.getElem_cons_zero,List.getElem_cons_succ,List.drop_zero,List.drop_succ_cons,List.take_succ_cons,List.take_zero] at h0 h1 h2 h3 h4 h5
   obtain ⟨y0,k0,_⟩:=opens_int Tryz.underlying5 _ _ _ h0
   obtain ⟨y1,k1,_⟩:=opens_int Tryz.underlying3 _ _ _ h1
   obtain ⟨y2,k2,_⟩:=opens_int Tryz.underlying3 _ _ _ h2
   obtain ⟨y3,k3,_⟩:=opens_int Tryz.underlying3 _ _ _ h3
   obtain ⟨y4,k4,_⟩:=opens_int Tryz.underlying3 _ _ _ h4
   obtain ⟨y5,k5,_⟩:=opens_int Tryz.underlying3 _ _ _ h5
   exact ⟨(y0,y1,y2,y3,y4,y5),⟨[a],[b,c,d,e,f],rfl,k0,[b],[c,d,e,f],rfl,k1,[c],[d,e,f],rfl,k2,[d],[e,f],rfl,k3,[e],[f],rfl,k4,k5⟩,trivial⟩
theorem opens_kp:Opens enc W base sp held 190 Kp fun _=>True:=fun n cs x h=>by
 obtain ⟨hl,hf⟩:=fields_at Tryz.underlying190 h
 rw [c190] at hl
 match cs,hl with
 | [a,b],_ =>
   obtain ⟨_,_,h0⟩:=hf 0 _ rfl
   obtain ⟨_,_,h1⟩:=hf 1 _ rfl
   simp only [c3,List.getElem_toArray,List.getElem_cons_zero,List.getElem_cons_succ,List.drop_zero,List.drop_succ_cons,List.take_succ_cons,List.take_zero] at h0 h1
   obtain ⟨y0,k0,_⟩:=opens_int Tryz.underlying3 _ _ _ h0
   obtain ⟨y1,k1,_⟩:=opens_int Tryz.underlying3 _ _ _ h1
   exact ⟨(y0,y1),⟨[a],[b],rfl,k0,k1⟩,trivial⟩
theorem opens_th:Opens enc W base sp held 137 Th fun _=>True:=fun n cs x h=>by
 obtain ⟨hl,hf⟩:=fields_at Tryz.underlying137 h
 rw [c137] at hl
 match cs,hl with
 | [a,b,c,d,e],_ =>
   obtain ⟨_,_,h0⟩:=hf 0 _ rfl
   obtain ⟨_,_,h1⟩:=hf 1 _ rfl
   obtain ⟨_,_,h2⟩:=hf 2 _ rfl
   obtain ⟨_,_,h3⟩:=hf 3 _ rfl
   obtain ⟨_,_,h4⟩:=hf 4 _ rfl
   simp only [c3,c4,c22,c135,List.getElem_toArray,List.getElem_cons_zero,List.getElem_cons_succ,List.drop_zero,List.drop_succ_cons,List.take_succ_cons,List.take_zero] at h0 h1 h2 h3 h4
   obtain ⟨y0,k0,_⟩:=opens_int Tryz.underlying3 _ _ _ h0
   obtain ⟨y1,k1,_⟩:=opens_sl Tryz.underlying22 (T:=It) c3 (opens_int Tryz.underlying3) _ _ _ h1
   obtain ⟨y2,k2,_⟩:=opens_sl Tryz.underlying135 (T:=Kp) c190 opens_kp _ _ _ h2
   obtain ⟨y3,k3,_⟩:=opens_sl Tryz.underlying22 (T:=It) c3 (opens_int Tryz.underlying3) _ _ _ h3
   obtain ⟨y4,k4,_⟩:=opens_bool Tryz.underlying4 _ _ _ h4
   exact ⟨(y0,y1,y2,y3,y4),⟨[a],[b,c,d,e],rfl,k0,[b],[c,d,e],rfl,k1,[c],[d,e],rfl,k2,[d],[e],rfl,k3,k4⟩,trivial⟩
theorem opens_sta:Opens enc W base sp held 45 Sta bsTF:=fun n cs x h=>by
 obtain ⟨hl,hf⟩:=fields_at Tryz.underlying45 h
 rw [c45] at hl
 match cs,hl with
 | [a,b],_ =>
   obtain ⟨_,_,h0⟩:=hf 0 _ rfl
   obtain ⟨_,_,h1⟩:=hf 1 _ rfl
   simp only [c22,c43,List.getElem_toArray,List.getElem_cons_zero,List.getElem_cons_succ,List.drop_zero,List.drop_succ_cons,List.take_succ_cons,List.take_zero] at h0 h1
   obtain ⟨y0,k0,q0⟩:=opens_sl Tryz.underlying22 (T:=It) c3 (opens_int Tryz.underlying3) _ _ _ h0
   obtain ⟨y1,k1,q1⟩:=opens_sl Tryz.underlying43 (T:=Th) c137 opens_th _ _ _ h1
   exact ⟨(y0,y1),⟨[a],[b],rfl,k0,k1⟩,q0.1,q1.1⟩
def u8R (z:Int):Prop:=0≤z∧z < 256
theorem u8_of {z:Int} (h:(Lit.int .u8 z).wf = true):u8R z:=by
 have e1:IntKind.u8.min = 0:=rfl
 have e2:IntKind.u8.max = 255:=rfl
 have:0≤z∧z≤255:=by simpa [Lit.wf,e1,e2] using h
 exact ⟨this.1,by have:=this.2; omega⟩
theorem opens_u8:Opens enc W base sp held 5 U8 u8R:=(opens_int Tryz.underlying5).mono fun z hz=>u8_of hz
def tuR (l:List Int):Prop:=l.length≤9223372036854775807∧∀ z ∈ l,u8R z
theorem opens_tu:Opens enc W base sp held 59 Tu tuR:=fun n cs x h=>by
 obtain ⟨hl,hf⟩:=fields_at Tryz.underlying59 h
 rw [c59] at hl
 match cs,hl with
 | [a],_ =>
   obtain ⟨_,_,h0⟩:=hf 0 _ rfl
   simp only [c54,List.getElem_toArray,List.getElem_cons_zero,List.getElem_cons_succ,List.drop_zero,List.take_succ_cons,List.take_zero] at h0
   obtain ⟨y0,k0,q0⟩:=opens_sl Tryz.underlying54 (T:=U8) c5 opens_u8 _ _ _ h0
   exact ⟨y0,k0,q0⟩
theorem c26:Tryz.prog.cellsOf 26 = 1:=by kernel_rfl
theorem c28:Tryz.prog.cellsOf 28 = 5:=by kernel_rfl
theorem c31:Tryz.prog.cellsOf 31 = 3:=by kernel_rfl
theorem opens_bl:Opens enc W base sp held 28 Bl bTF:=fun n cs x h=>by
 obtain ⟨hl,hf⟩:=fields_at Tryz.underlying28 h
 rw [c28] at hl
 match cs,hl with
 | [a,b,c,d,e],_ =>
   obtain ⟨_,_,h0⟩:=hf 0 _ rfl
   obtain ⟨_,_,h1⟩:=hf 1 _ rfl
   obtain ⟨_,_,h2⟩:=hf 2 _ rfl
   obtain ⟨_,_,h3⟩:=hf 3 _ rfl
   obtain ⟨_,_,h4⟩:=hf 4 _ rfl
   simp only [c3,c4,c22,c26,List.getElem_toArray,List.getElem_cons_zero,List.getElem_cons_succ,List.drop_zero,List.drop_succ_cons,List.take_succ_cons,List.take_zero] at h0 h1 h2 h3 h4
   obtain ⟨y0,k0,_⟩:=opens_int Tryz.underlying3 _ _ _ h0
   obtain ⟨y1,k1,_⟩:=opens_int Tryz.underlying3 _ _ _ h1
   obtain ⟨y2,k2,_⟩:=opens_bool Tryz.underlying4 _ _ _ h2
   obtain ⟨y3,k3,q3⟩:=opens_sl Tryz.underlying22 (T:=It) c3 (opens_int Tryz.underlying3) _ _ _ h3
   obtain ⟨y4,k4,q4⟩:=opens_sl Tryz.underlying26 (T:=.sl It) c22 (opens_sl Tryz.underlying22 (T:=It) c3 (opens_int Tryz.underlying3)) _ _ _ h4
   exact ⟨(y0,y1,y2,y3,y4),⟨[a],[b,c,d,e],rfl,k0,[b],[c,d,e],rfl,k1,[c],[d,e],rfl,k2,[d],[e],rfl,k3,k4⟩,q3.1,q4.1,fun l hl=>(q4.2 l hl).1⟩
theorem opens_be:Opens enc W base sp held 31 Be bETF:=fun n cs x h=>by
 obtain ⟨hl,hf⟩:=fields_at Tryz.underlying31 h
 rw [c31] at hl
 match cs,hl with
 | [a,b,c],_ =>
   obtain ⟨_,_,h0⟩:=hf 0 _ rfl
   obtain ⟨_,_,h1⟩:=hf 1 _ rfl
   obtain ⟨_,_,h2⟩:=hf 2 _ rfl
   simp only [c3,c22,c26,List.getElem_toArray,List.getElem_cons_zero,List.getElem_cons_succ,List.drop_zero,List.drop_succ_cons,List.take_succ_cons,List.take_zero] at h0 h1 h2
   obtain ⟨y0,k0,_⟩:=opens_int Tryz.underlying3 _ _ _ h0
   obtain ⟨y1,k1,q1⟩:=opens_sl Tryz.underlying26 (T:=.sl It) c22 (opens_sl Tryz.underlying22 (T:=It) c3 (opens_int Tryz.underlying3)) _ _ _ h1
   obtain ⟨y2,k2,q2⟩:=opens_sl Tryz.underlying22 (T:=It) c3 (opens_int Tryz.underlying3) _ _ _ h2
   exact ⟨(y0,y1,y2),⟨[a],[b,c],rfl,k0,[b],[c],rfl,k1,k2⟩,q1.1,q2.1,fun l hl=>(q1.2 l hl).1⟩
theorem open_agg {t:TypeId} {T:Ty} {Q:T.D→Prop} (ha:T.agg = true) (ho:Opens enc W base sp held t T Q) {v:Value} {d:DataW H} {p:List MemPlace} (hv:∃ cs,v = .agg cs) (h:DataW.Trod enc Tryz.prog W base sp held t v d p):∃ x:T.D,KV okA W T x v∧Q x:=by
 obtain ⟨cs,rfl⟩:=hv
 obtain ⟨fuel,hf⟩:=h
 obtain ⟨y,hK,hQ⟩:=ho _ _ _ hf
 refine ⟨y,?_,hQ⟩
 unfold KV
 rw [if_pos ha]
 exact ⟨cs.toList,by simp,hK⟩
end
theorem agg_of {t:TypeId} {fs:Array Field} {r:Reach} {W:World} {b0:Nat} {v:Value} (ht:Tryz.prog.underlying t = some (.struct fs)) (h:Value.okWide Tryz.prog W r b0 t v):∃ cs,v = .agg cs:=by
 obtain ⟨cs,e,_⟩:=okWide_struct ht h
 exact ⟨cs,e⟩
theorem law_walk {g:FuncId} {ts:List Ty} {p:Ds ts→Prop} (h:SpecOk Tryz.prog g ⟨ts,[.bool],p,fun _=>(true,())⟩) (vs:List Value) (x:Ds ts) (W:World) (hx:KVs okA W ts x vs) (hp:p x):Calls Tryz.prog g vs.toArray W fun e W'=>e = .returned (.bool true)∧Below W.heap.size W W':=by
 refine (h.2 okA W vs x ⟨⟨Nat.zero_le _⟩,fun b hb=>hb.elim⟩ hx hp).mono fun e w' he=>?_
 obtain ⟨v,rfl,hb,hR⟩:=he
 refine ⟨?_,hb⟩
 have hR:KV _ w' .bool true v:=hR
 simp only [KV,Ty.agg,K,List.cons.injEq,and_true] at hR
 have hR':v = .bool true:=by simpa using hR
 rw [hR']
theorem kv_u8 (ok:Nat→Prop) (W:World) (n:Int):KV ok W (.int .u8) n (.int .u8 n):=by unfold KV; rw [if_neg (by decide)]; rfl
theorem kv_i64 (ok:Nat→Prop) (W:World) (n:Int):KV ok W (.int .i64) n (.int .i64 n):=by unfold KV; rw [if_neg (by decide)]; rfl
theorem cEnter:Tryz.prog.mayEnter = true:=by kernel_rfl
theorem cLaid:laidOutB Tryz.prog = true:=by kernel_rfl
theorem cMaps:mapsRowed Tryz.prog = true:=by kernel_rfl
theorem cHeard:Tryz.prog.stopsHeard = true:=by kernel_rfl
theorem cPlain:Tryz.prog.plainKeys = Rows.bellEndsRow.plainKeys:=by kernel_rfl
end Go.Proofs.YtljepnnnjfalcaaGreat
