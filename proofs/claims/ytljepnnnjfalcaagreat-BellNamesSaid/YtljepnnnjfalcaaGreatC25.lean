/- What functions of the weak memory compute, proved through the condition generator, and plain facts of it. Conditions: none of ours. -/
import Derived.Test.YtljepnnnjfalcaaGreatC10
import Derived.Test.YtljepnnnjfalcaaGreatC24
import Derived.WalkKit
import Derived.StillTactics
import Derived.Laws.Pointers
import Derived.Laws.NewBlocks
import Derived.Laws.Rows
import Derived.Handy
import Derived.Lib.SliceRun
import Derived.Test.YtljepnnnjfalcaaGreatC19
set_option autoImplicit false
set_option maxRecDepth 100000
set_option linter.all false
namespace Go.Proofs.Tryz
open Go Go.VM Go.Lib
def growX (et:TypeId) (e:Ty):XOp where
 fr:=fun L h f xs=>match xs with
  | [.c .nils,.c (.int .i64 n)]=>.o (L.mkOk n n 8) (.new (.c (.own f 0)) [.row et e ([]:List e.D)] [])
  | _=>.bad
theorem okGrow:XOk prog 184 (growX 3 (.int .i64)) where
 has:=⟨_,func184,rfl,rfl⟩
 mono:=fun L h h' f xs hl=>.inr rfl
 num:=fun L h f f' xs l hl hn=>by
  unfold growX at hl
  simp only at hl
  split at hl
  ·obtain ⟨_,hl⟩:=hl; cases hl; cases hn
  ·exact hl.elim
 run:=fun φ hp f w xs vs l hh hv hl=>by
  have hl0:=hl
  unfold growX at hl
  simp only at hl
  split at hl
  rotate_left
  ·exact hl.elim
  rename_i n
  obtain ⟨⟨h0,_,h1,h2⟩,hl⟩:=hl
  match vs,hv with
  | [v,u],⟨hx,hy,_⟩ =>
  obtain rfl:v = _:=hx
  obtain rfl:u = _:=hy
  obtain ⟨n,rfl⟩:∃ k:Nat,n = k:=⟨n.toNat,by omega⟩
  have fin:∀ (v:Value) (w':World),VM.Good φ hp w f (.c (.own f 0)) [.row 3 (.int .i64) ([]:List Int)] [] (.ok v w')→LeafOk φ hp w f (l.nx f) l v w':=fun v w' hg=>by
   obtain ⟨v',w'',e1,hk⟩:=fr_leaf (FR.new (.c (.own f 0)) [.row 3 (.int .i64) ([]:List Int)] []) hl hg
   cases e1
   exact hk
  rcases Nat.eq_zero_or_pos n with hz | hz
  ·subst hz
   refine (Any8.slices_Grow_room growL none 0 0 0 w (Nat.le_refl 0) (by decide) (by decide) (Nat.le_refl 0)).mono fun e w' he=>?_
   obtain ⟨rfl,rfl⟩:=he
   refine ⟨_,rfl,fin _ _ ?_⟩
   exact YK hh [] _ .nil rfl (Go.RowKit.Below.refl _ _) (fun b hb=>hb.elim) (.inl ⟨Zw _ _ _,rfl⟩) (.inl ⟨Zw _ _ _,by omega,none,rfl⟩)
  ·obtain ⟨i0,hi0,his,hib,hiz⟩:=(hE 3 _ rfl).info
   obtain ⟨z,hz0,hzc⟩:∃ z,i0.zero = some z∧z.cells.toList.length = 1:=by
    cases h:i0.zero with
    | none=>simp [h] at hiz
    | some z=>refine ⟨z,rfl,?_⟩; rw [h] at hiz; simp only [Option.map_some,Option.some.injEq] at hiz; rw [hiz]; rfl
   have hs1:i0.size = 1:=his
   have hb8:i0.bytes = 8:=hib
   refine (Any8.slices_Grow_grow growL i0 z hi0 hz0 (by omega) none 0 0 n [] w (Nat.le_refl 0) (by omega) (by rw [hb8]; omega) (by omega) (by simp) (fun _=>rfl) (fun a h=>by cases h)).mono fun e w' he=>?_
   obtain ⟨rfl,rfl⟩:=he
   refine ⟨_,rfl,fin _ _ ?_⟩
   have hB:=(Go.RowKit.Below.refl w.heap.size w).drew.alloc (Nat.le_refl _) (.cells (([]:List Value).toArray ++ Builtin.zeroCells z.cells (0 + n - 0) ++ Builtin.zeroCells z.cells (grownCap w (0 + n) 0 (growL_ren.t 25) - (0 + n))) (growL_ren.t 25) (0,0))
   have hge:=grownCap_ge w (0 + n) 0 (growL_ren.t 25)
   refine YK hh [] _ (.at w.heap.size 1 (grownCap w (0 + n) 0 (growL_ren.t 25)) 0) rfl hB (fun b hb=>by cases hb; exact Nat.le_refl _) ?_ ?_
   ·refine .inr ⟨w.heap.size,_,_,Zw _ _ _,Y5 w.drew _,?_,Nat.zero_le _,fun j x hx=>by cases hx⟩
    have hzs:z.cells.size = 1:=by rw [← Array.length_toList]; exact hzc
    simp only [Array.size_append,List.size_toArray,size_zeroCells,List.length_nil,hzs]
    show 0 + (0 + n - 0) * 1 + (_ - (0 + n)) * 1 = _ * 1
    omega
   ·exact .inr ⟨_,_,_,_,Zw _ _ _,Nat.le_refl _,rfl⟩
end Go.Proofs.Tryz
namespace Go.Proofs.Tryz
open Go Go.VM
theorem atb16:prog.funcs[16]? = some f16:=by kernel_rfl
def plb16:Nat→Plan
 | _=>[]
noncomputable def Db16 (ann:Nat→LAnn):FnD:=⟨f16.body.getD .skip,f16.ntmps,f16.results.toList,plb16,ann⟩
theorem fnokb16 (ann:Nat→LAnn):FnOk prog 16 (Db16 ann):=⟨f16,atb16,by kernel_rfl,by kernel_rfl,rfl,rfl,by kernel_rfl⟩
theorem atb17:prog.funcs[17]? = some f17:=by kernel_rfl
def plb17:Nat→Plan
 | 7=>[(0,[]),(1,[0]),(2,[0]),(3,[0,1,2]),(4,[0,1,2]),(5,[]),(6,[0,1,2,3,4,5]),(7,[6]),(8,[]),(9,[])]
 | _=>[]
noncomputable def Db17 (ann:Nat→LAnn):FnD:=⟨f17.body.getD .skip,f17.ntmps,f17.results.toList,plb17,ann⟩
theorem fnokb17 (ann:Nat→LAnn):FnOk prog 17 (Db17 ann):=⟨f17,atb17,by kernel_rfl,by kernel_rfl,rfl,rfl,by kernel_rfl⟩
theorem atb18:prog.funcs[18]? = some f18:=by kernel_rfl
def plb18:Nat→Plan
 | 1=>[(0,[]),(1,[]),(2,[]),(3,[0,1,2]),(4,[0,1,2]),(5,[0,1,2]),(6,[]),(7,[]),(8,[]),(9,[]),(10,[8,9]),(11,[]),(12,[]),(13,[]),(14,[])]
 | _=>[]
noncomputable def Db18 (ann:Nat→LAnn):FnD:=⟨f18.body.getD .skip,f18.ntmps,f18.results.toList,plb18,ann⟩
theorem fnokb18 (ann:Nat→LAnn):FnOk prog 18 (Db18 ann):=⟨f18,atb18,by kernel_rfl,by kernel_rfl,rfl,rfl,by kernel_rfl⟩
theorem atb19:prog.funcs[19]? = some f19:=by kernel_rfl
def plb19:Nat→Plan
 | _=>[]
noncomputable def Db19 (ann:Nat→LAnn):FnD:=⟨f19.body.getD .skip,f19.ntmps,f19.results.toList,plb19,ann⟩
theorem fnokb19 (ann:Nat→LAnn):FnOk prog 19 (Db19 ann):=⟨f19,atb19,by kernel_rfl,by kernel_rfl,rfl,rfl,by kernel_rfl⟩
theorem atb20:prog.funcs[20]? = some f20:=by kernel_rfl
def plb20:Nat→Plan
 | _=>[]
noncomputable def Db20 (ann:Nat→LAnn):FnD:=⟨f20.body.getD .skip,f20.ntmps,f20.results.toList,plb20,ann⟩
theorem fnokb20 (ann:Nat→LAnn):FnOk prog 20 (Db20 ann):=⟨f20,atb20,by kernel_rfl,by kernel_rfl,rfl,rfl,by kernel_rfl⟩
theorem atb21:prog.funcs[21]? = some f21:=by kernel_rfl
def plb21:Nat→Plan
 | _=>[]
noncomputable def Db21 (ann:Nat→LAnn):FnD:=⟨f21.body.getD .skip,f21.ntmps,f21.results.toList,plb21,ann⟩
theorem fnokb21 (ann:Nat→LAnn):FnOk prog 21 (Db21 ann):=⟨f21,atb21,by kernel_rfl,by kernel_rfl,rfl,rfl,by kernel_rfl⟩
theorem atb22:prog.funcs[22]? = some f22:=by kernel_rfl
def plb22:Nat→Plan
 | _=>[]
noncomputable def Db22 (ann:Nat→LAnn):FnD:=⟨f22.body.getD .skip,f22.ntmps,f22.results.toList,plb22,ann⟩
theorem fnokb22 (ann:Nat→LAnn):FnOk prog 22 (Db22 ann):=⟨f22,atb22,by kernel_rfl,by kernel_rfl,rfl,rfl,by kernel_rfl⟩
theorem atb23:prog.funcs[23]? = some f23:=by kernel_rfl
def plb23:Nat→Plan
 | 5=>[(0,[]),(1,[]),(2,[]),(3,[]),(4,[]),(5,[]),(6,[]),(7,[]),(8,[]),(9,[]),(10,[]),(11,[]),(12,[11]),(13,[11]),(14,[]),(15,[]),(16,[]),(17,[]),(18,[]),(19,[]),(20,[]),(21,[]),(22,[21]),(23,[21]),(24,[21,22,23]),(25,[21,22,23,24]),(26,[21]),(27,[21]),(28,[]),(29,[]),(30,[]),(31,[]),(32,[]),(33,[]),(34,[]),(35,[]),(36,[35]),(37,[35]),(38,[35]),(39,[]),(40,[]),(41,[])]
 | _=>[]
noncomputable def Db23 (ann:Nat→LAnn):FnD:=⟨f23.body.getD .skip,f23.ntmps,f23.results.toList,plb23,ann⟩
theorem fnokb23 (ann:Nat→LAnn):FnOk prog 23 (Db23 ann):=⟨f23,atb23,by kernel_rfl,by kernel_rfl,rfl,rfl,by kernel_rfl⟩
theorem atb34:prog.funcs[34]? = some f34:=by kernel_rfl
def plb34:Nat→Plan
 | _=>[]
noncomputable def Db34 (ann:Nat→LAnn):FnD:=⟨f34.body.getD .skip,f34.ntmps,f34.results.toList,plb34,ann⟩
theorem fnokb34 (ann:Nat→LAnn):FnOk prog 34 (Db34 ann):=⟨f34,atb34,by kernel_rfl,by kernel_rfl,rfl,rfl,by kernel_rfl⟩
theorem atb55:prog.funcs[55]? = some f55:=by kernel_rfl
def plb55:Nat→Plan
 | _=>[]
noncomputable def Db55 (ann:Nat→LAnn):FnD:=⟨f55.body.getD .skip,f55.ntmps,f55.results.toList,plb55,ann⟩
theorem fnokb55 (ann:Nat→LAnn):FnOk prog 55 (Db55 ann):=⟨f55,atb55,by kernel_rfl,by kernel_rfl,rfl,rfl,by kernel_rfl⟩
theorem atb59:prog.funcs[59]? = some f59:=by kernel_rfl
def plb59:Nat→Plan
 | 6=>[(0,[]),(1,[0]),(2,[]),(3,[]),(4,[0,1,2,3]),(5,[0,1,2,3,4]),(6,[0,1,2,3]),(7,[0,1,2,3]),(8,[]),(9,[])]
 | _=>[]
noncomputable def Db59 (ann:Nat→LAnn):FnD:=⟨f59.body.getD .skip,f59.ntmps,f59.results.toList,plb59,ann⟩
theorem fnokb59 (ann:Nat→LAnn):FnOk prog 59 (Db59 ann):=⟨f59,atb59,by kernel_rfl,by kernel_rfl,rfl,rfl,by kernel_rfl⟩
theorem atb62:prog.funcs[62]? = some f62:=by kernel_rfl
def plb62:Nat→Plan
 | 1=>[(0,[]),(1,[]),(2,[0,1]),(3,[0,1]),(4,[]),(5,[])]
 | _=>[]
noncomputable def Db62 (ann:Nat→LAnn):FnD:=⟨f62.body.getD .skip,f62.ntmps,f62.results.toList,plb62,ann⟩
theorem fnokb62 (ann:Nat→LAnn):FnOk prog 62 (Db62 ann):=⟨f62,atb62,by kernel_rfl,by kernel_rfl,rfl,rfl,by kernel_rfl⟩
theorem atb63:prog.funcs[63]? = some f63:=by kernel_rfl
def plb63:Nat→Plan
 | 1=>[(11,[]),(0,[11]),(1,[11]),(2,[11]),(3,[11]),(4,[11]),(5,[11]),(6,[11]),(7,[11,0,1,2,3,4,5,6]),(8,[11,0,1,2,3,4,5,6]),(9,[11,0,1,2,3,4,5,6]),(10,[11]),(12,[])]
 | 6=>[(0,[]),(1,[]),(2,[0,1]),(3,[0,1,2]),(4,[0,1]),(5,[0,1]),(6,[]),(7,[]),(8,[])]
 | 11=>[(0,[]),(1,[]),(2,[0,1]),(3,[0,1,2]),(4,[0,1]),(5,[0,1]),(6,[]),(7,[]),(8,[])]
 | _=>[]
noncomputable def Db63 (ann:Nat→LAnn):FnD:=⟨f63.body.getD .skip,f63.ntmps,f63.results.toList,plb63,ann⟩
theorem fnokb63 (ann:Nat→LAnn):FnOk prog 63 (Db63 ann):=⟨f63,atb63,by kernel_rfl,by kernel_rfl,rfl,rfl,by kernel_rfl⟩
theorem atb66:prog.funcs[66]? = some f66:=by kernel_rfl
def plb66:Nat→Plan
 | 5=>[(0,[]),(1,[]),(2,[0,1]),(3,[0,1,2]),(4,[0,1]),(5,[0,1]),(6,[0,1]),(7,[0,1]),(8,[]),(9,[]),(10,[])]
 | _=>[]
noncomputable def Db66 (ann:Nat→LAnn):FnD:=⟨f66.body.getD .skip,f66.ntmps,f66.results.toList,plb66,ann⟩
theorem fnokb66 (ann:Nat→LAnn):FnOk prog 66 (Db66 ann):=⟨f66,atb66,by kernel_rfl,by kernel_rfl,rfl,rfl,by kernel_rfl⟩
theorem atb70:prog.funcs[70]? = some f70:=by kernel_rfl
def plb70:Nat→Plan
 | _=>[]
noncomputable def Db70 (ann:Nat→LAnn):FnD:=⟨f70.body.getD .skip,f70.ntmps,f70.results.toList,plb70,ann⟩
theorem fnokb70 (ann:Nat→LAnn):FnOk prog 70 (Db70 ann):=⟨f70,atb70,by kernel_rfl,by kernel_rfl,rfl,rfl,by kernel_rfl⟩
theorem atb72:prog.funcs[72]? = some f72:=by kernel_rfl
def plb72:Nat→Plan
 | 1=>[(0,[]),(1,[]),(2,[]),(3,[0,1,2]),(4,[0,1,2,3]),(5,[0,1,2,3]),(6,[0,1,2]),(7,[0,1,2,3,4,5,6]),(8,[0,1,2,3,4,5,6]),(9,[0,1,2,3,4,5,6]),(10,[0,1,2]),(11,[]),(12,[])]
 | _=>[]
noncomputable def Db72 (ann:Nat→LAnn):FnD:=⟨f72.body.getD .skip,f72.ntmps,f72.results.toList,plb72,ann⟩
theorem fnokb72 (ann:Nat→LAnn):FnOk prog 72 (Db72 ann):=⟨f72,atb72,by kernel_rfl,by kernel_rfl,rfl,rfl,by kernel_rfl⟩
theorem atb73:prog.funcs[73]? = some f73:=by kernel_rfl
def plb73:Nat→Plan
 | _=>[]
noncomputable def Db73 (ann:Nat→LAnn):FnD:=⟨f73.body.getD .skip,f73.ntmps,f73.results.toList,plb73,ann⟩
theorem fnokb73 (ann:Nat→LAnn):FnOk prog 73 (Db73 ann):=⟨f73,atb73,by kernel_rfl,by kernel_rfl,rfl,rfl,by kernel_rfl⟩
theorem atb74:prog.funcs[74]? = some f74:=by kernel_rfl
def plb74:Nat→Plan
 | _=>[]
noncomputable def Db74 (ann:Nat→LAnn):FnD:=⟨f74.body.getD .skip,f74.ntmps,f74.results.toList,plb74,ann⟩
theorem fnokb74 (ann:Nat→LAnn):FnOk prog 74 (Db74 ann):=⟨f74,atb74,by kernel_rfl,by kernel_rfl,rfl,rfl,by kernel_rfl⟩
theorem atb75:prog.funcs[75]? = some f75:=by kernel_rfl
theorem atb76:prog.funcs[76]? = some f76:=by kernel_rfl
def plb76:Nat→Plan
 | _=>[]
noncomputable def Db76 (ann:Nat→LAnn):FnD:=⟨f76.body.getD .skip,f76.ntmps,f76.results.toList,plb76,ann⟩
theorem fnokb76 (ann:Nat→LAnn):FnOk prog 76 (Db76 ann):=⟨f76,atb76,by kernel_rfl,by kernel_rfl,rfl,rfl,by kernel_rfl⟩
theorem atb77:prog.funcs[77]? = some f77:=by kernel_rfl
def plb77:Nat→Plan
 | _=>[]
noncomputable def Db77 (ann:Nat→LAnn):FnD:=⟨f77.body.getD .skip,f77.ntmps,f77.results.toList,plb77,ann⟩
theorem fnokb77 (ann:Nat→LAnn):FnOk prog 77 (Db77 ann):=⟨f77,atb77,by kernel_rfl,by kernel_rfl,rfl,rfl,by kernel_rfl⟩
theorem atb78:prog.funcs[78]? = some f78:=by kernel_rfl
def plb78:Nat→Plan
 | _=>[]
noncomputable def Db78 (ann:Nat→LAnn):FnD:=⟨f78.body.getD .skip,f78.ntmps,f78.results.toList,plb78,ann⟩
theorem fnokb78 (ann:Nat→LAnn):FnOk prog 78 (Db78 ann):=⟨f78,atb78,by kernel_rfl,by kernel_rfl,rfl,rfl,by kernel_rfl⟩
theorem atb79:prog.funcs[79]? = some f79:=by kernel_rfl
def plb79:Nat→Plan
 | _=>[]
noncomputable def Db79 (ann:Nat→LAnn):FnD:=⟨f79.body.getD .skip,f79.ntmps,f79.results.toList,plb79,ann⟩
theorem fnokb79 (ann:Nat→LAnn):FnOk prog 79 (Db79 ann):=⟨f79,atb79,by kernel_rfl,by kernel_rfl,rfl,rfl,by kernel_rfl⟩
theorem atb80:prog.funcs[80]? = some f80:=by kernel_rfl
def plb80:Nat→Plan
 | _=>[]
noncomputable def Db80 (ann:Nat→LAnn):FnD:=⟨f80.body.getD .skip,f80.ntmps,f80.results.toList,plb80,ann⟩
theorem fnokb80 (ann:Nat→LAnn):FnOk prog 80 (Db80 ann):=⟨f80,atb80,by kernel_rfl,by kernel_rfl,rfl,rfl,by kernel_rfl⟩
theorem atb81:prog.funcs[81]? = some f81:=by kernel_rfl
def plb81:Nat→Plan
 | _=>[]
noncomputable def Db81 (ann:Nat→LAnn):FnD:=⟨f81.body.getD .skip,f81.ntmps,f81.results.toList,plb81,ann⟩
theorem fnokb81 (ann:Nat→LAnn):FnOk prog 81 (Db81 ann):=⟨f81,atb81,by kernel_rfl,by kernel_rfl,rfl,rfl,by kernel_rfl⟩
theorem atb82:prog.funcs[82]? = some f82:=by kernel_rfl
def plb82:Nat→Plan
 | _=>[]
noncomputable def Db82 (ann:Nat→LAnn):FnD:=⟨f82.body.getD .skip,f82.ntmps,f82.results.toList,plb82,ann⟩
theorem fnokb82 (ann:Nat→LAnn):FnOk prog 82 (Db82 ann):=⟨f82,atb82,by kernel_rfl,by kernel_rfl,rfl,rfl,by kernel_rfl⟩
theorem atb88:prog.funcs[88]? = some f88:=by kernel_rfl
def plb88:Nat→Plan
 | 1=>[(0,[]),(1,[]),(2,[]),(3,[]),(4,[0,1,2,3]),(5,[0,1,2,3]),(6,[0,1,2,3]),(7,[0,1,2,3]),(8,[]),(9,[]),(10,[])]
 | _=>[]
noncomputable def Db88 (ann:Nat→LAnn):FnD:=⟨f88.body.getD .skip,f88.ntmps,f88.results.toList,plb88,ann⟩
theorem fnokb88 (ann:Nat→LAnn):FnOk prog 88 (Db88 ann):=⟨f88,atb88,by kernel_rfl,by kernel_rfl,rfl,rfl,by kernel_rfl⟩
theorem atb105:prog.funcs[105]? = some f105:=by kernel_rfl
def plb105:Nat→Plan
 | 1=>[(0,[]),(1,[]),(2,[0,1]),(3,[0,1]),(4,[]),(5,[0,1,2,3,4]),(6,[0,1,2,3,4]),(7,[0,1,2,3,4,5,6]),(8,[0,1,2,3,4,5,6]),(9,[]),(10,[0,1,2,3,4,5,6,7,8,9]),(11,[0,1,2,3,4,5,6,7,8,9]),(12,[0,1,2,3,4,5,6,7,8,9,10,11]),(13,[0,1,2,3,4,5,6,7,8,9,10,11]),(14,[]),(15,[]),(16,[]),(17,[])]
 | _=>[]
noncomputable def Db105 (ann:Nat→LAnn):FnD:=⟨f105.body.getD .skip,f105.ntmps,f105.results.toList,plb105,ann⟩
theorem fnokb105 (ann:Nat→LAnn):FnOk prog 105 (Db105 ann):=⟨f105,atb105,by kernel_rfl,by kernel_rfl,rfl,rfl,by kernel_rfl⟩
theorem atb106:prog.funcs[106]? = some f106:=by kernel_rfl
def plb106:Nat→Plan
 | 6=>[(0,[]),(1,[0]),(2,[0,1]),(3,[0]),(4,[0]),(5,[0,1,2,3,4]),(6,[0,1,2,3,4,5]),(7,[0,1,2,3,4,5]),(8,[0,1,2,3,4]),(9,[0,1,2,3,4]),(10,[])]
 | 11=>[(0,[]),(1,[0]),(2,[0,1]),(3,[0]),(4,[0]),(5,[0,1,2,3,4]),(6,[0,1,2,3,4,5]),(7,[0,1,2,3,4,5]),(8,[0,1,2,3,4]),(9,[0,1,2,3,4]),(10,[]),(11,[])]
 | _=>[]
noncomputable def Db106 (ann:Nat→LAnn):FnD:=⟨f106.body.getD .skip,f106.ntmps,f106.results.toList,plb106,ann⟩
theorem fnokb106 (ann:Nat→LAnn):FnOk prog 106 (Db106 ann):=⟨f106,atb106,by kernel_rfl,by kernel_rfl,rfl,rfl,by kernel_rfl⟩
theorem atb107:prog.funcs[107]? = some f107:=by kernel_rfl
def plb107:Nat→Plan
 | _=>[]
noncomputable def Db107 (ann:Nat→LAnn):FnD:=⟨f107.body.getD .skip,f107.ntmps,f107.results.toList,plb107,ann⟩
theorem fnokb107 (ann:Nat→LAnn):FnOk prog 107 (Db107 ann):=⟨f107,atb107,by kernel_rfl,by kernel_rfl,rfl,rfl,by kernel_rfl⟩
theorem atb114:prog.funcs[114]? = some f114:=by kernel_rfl
def plb114:Nat→Plan
 | _=>[]
noncomputable def Db114 (ann:Nat→LAnn):FnD:=⟨f114.body.getD .skip,f114.ntmps,f114.results.toList,plb114,ann⟩
theorem fnokb114 (ann:Nat→LAnn):FnOk prog 114 (Db114 ann):=⟨f114,atb114,by kernel_rfl,by kernel_rfl,rfl,rfl,by kernel_rfl⟩
theorem atb123:prog.funcs[123]? = some f123:=by kernel_rfl
def plb123:Nat→Plan
 | _=>[]
noncomputable def Db123 (ann:Nat→LAnn):FnD:=⟨f123.body.getD .skip,f123.ntmps,f123.results.toList,plb123,ann⟩
theorem fnokb123 (ann:Nat→LAnn):FnOk prog 123 (Db123 ann):=⟨f123,atb123,by kernel_rfl,by kernel_rfl,rfl,rfl,by kernel_rfl⟩
theorem atb125:prog.funcs[125]? = some f125:=by kernel_rfl
def plb125:Nat→Plan
 | _=>[]
noncomputable def Db125 (ann:Nat→LAnn):FnD:=⟨f125.body.getD .skip,f125.ntmps,f125.results.toList,plb125,ann⟩
theorem fnokb125 (ann:Nat→LAnn):FnOk prog 125 (Db125 ann):=⟨f125,atb125,by kernel_rfl,by kernel_rfl,rfl,rfl,by kernel_rfl⟩
theorem atb127:prog.funcs[127]? = some f127:=by kernel_rfl
def plb127:Nat→Plan
 | _=>[]
noncomputable def Db127 (ann:Nat→LAnn):FnD:=⟨f127.body.getD .skip,f127.ntmps,f127.results.toList,plb127,ann⟩
theorem fnokb127 (ann:Nat→LAnn):FnOk prog 127 (Db127 ann):=⟨f127,atb127,by kernel_rfl,by kernel_rfl,rfl,rfl,by kernel_rfl⟩
theorem atb128:prog.funcs[128]? = some f128:=by kernel_rfl
def plb128:Nat→Plan
 | _=>[]
noncomputable def Db128 (ann:Nat→LAnn):FnD:=⟨f128.body.getD .skip,f128.ntmps,f128.results.toList,plb128,ann⟩
theorem fnokb128 (ann:Nat→LAnn):FnOk prog 128 (Db128 ann):=⟨f128,atb128,by kernel_rfl,by kernel_rfl,rfl,rfl,by kernel_rfl⟩
theorem atb129:prog.funcs[129]? = some f129:=by kernel_rfl
def plb129:Nat→Plan
 | _=>[]
noncomputable def Db129 (ann:Nat→LAnn):FnD:=⟨f129.body.getD .skip,f129.ntmps,f129.results.toList,plb129,ann⟩
theorem fnokb129 (ann:Nat→LAnn):FnOk prog 129 (Db129 ann):=⟨f129,atb129,by kernel_rfl,by kernel_rfl,rfl,rfl,by kernel_rfl⟩
theorem atb130:prog.funcs[130]? = some f130:=by kernel_rfl
def plb130:Nat→Plan
 | _=>[]
noncomputable def Db130 (ann:Nat→LAnn):FnD:=⟨f130.body.getD .skip,f130.ntmps,f130.results.toList,plb130,ann⟩
theorem fnokb130 (ann:Nat→LAnn):FnOk prog 130 (Db130 ann):=⟨f130,atb130,by kernel_rfl,by kernel_rfl,rfl,rfl,by kernel_rfl⟩
theorem atb132:prog.funcs[132]? = some f132:=by kernel_rfl
def plb132:Nat→Plan
 | _=>[]
noncomputable def Db132 (ann:Nat→LAnn):FnD:=⟨f132.body.getD .skip,f132.ntmps,f132.results.toList,plb132,ann⟩
theorem fnokb132 (ann:Nat→LAnn):FnOk prog 132 (Db132 ann):=⟨f132,atb132,by kernel_rfl,by kernel_rfl,rfl,rfl,by kernel_rfl⟩
theorem atb133:prog.funcs[133]? = some f133:=by kernel_rfl
def plb133:Nat→Plan
 | _=>[]
noncomputable def Db133 (ann:Nat→LAnn):FnD:=⟨f133.body.getD .skip,f133.ntmps,f133.results.toList,plb133,ann⟩
theorem fnokb133 (ann:Nat→LAnn):FnOk prog 133 (Db133 ann):=⟨f133,atb133,by kernel_rfl,by kernel_rfl,rfl,rfl,by kernel_rfl⟩
theorem atb134:prog.funcs[134]? = some f134:=by kernel_rfl
def plb134:Nat→Plan
 | _=>[]
noncomputable def Db134 (ann:Nat→LAnn):FnD:=⟨f134.body.getD .skip,f134.ntmps,f134.results.toList,plb134,ann⟩
theorem fnokb134 (ann:Nat→LAnn):FnOk prog 134 (Db134 ann):=⟨f134,atb134,by kernel_rfl,by kernel_rfl,rfl,rfl,by kernel_rfl⟩
theorem atb135:prog.funcs[135]? = some f135:=by kernel_rfl
def plb135:Nat→Plan
 | _=>[]
noncomputable def Db135 (ann:Nat→LAnn):FnD:=⟨f135.body.getD .skip,f135.ntmps,f135.results.toList,plb135,ann⟩
theorem fnokb135 (ann:Nat→LAnn):FnOk prog 135 (Db135 ann):=⟨f135,atb135,by kernel_rfl,by kernel_rfl,rfl,rfl,by kernel_rfl⟩
theorem atb136:prog.funcs[136]? = some f136:=by kernel_rfl
def plb136:Nat→Plan
 | _=>[]
noncomputable def Db136 (ann:Nat→LAnn):FnD:=⟨f136.body.getD .skip,f136.ntmps,f136.results.toList,plb136,ann⟩
theorem fnokb136 (ann:Nat→LAnn):FnOk prog 136 (Db136 ann):=⟨f136,atb136,by kernel_rfl,by kernel_rfl,rfl,rfl,by kernel_rfl⟩
theorem atb137:prog.funcs[137]? = some f137:=by kernel_rfl
def plb137:Nat→Plan
 | _=>[]
noncomputable def Db137 (ann:Nat→LAnn):FnD:=⟨f137.body.getD .skip,f137.ntmps,f137.results.toList,plb137,ann⟩
theorem fnokb137 (ann:Nat→LAnn):FnOk prog 137 (Db137 ann):=⟨f137,atb137,by kernel_rfl,by kernel_rfl,rfl,rfl,by kernel_rfl⟩
theorem atb138:prog.funcs[138]? = some f138:=by kernel_rfl
def plb138:Nat→Plan
 | _=>[]
noncomputable def Db138 (ann:Nat→LAnn):FnD:=⟨f138.body.getD .skip,f138.ntmps,f138.results.toList,plb138,ann⟩
theorem fnokb138 (ann:Nat→LAnn):FnOk prog 138 (Db138 ann):=⟨f138,atb138,by kernel_rfl,by kernel_rfl,rfl,rfl,by kernel_rfl⟩
theorem atb139:prog.funcs[139]? = some f139:=by kernel_rfl
def plb139:Nat→Plan
 | _=>[]
noncomputable def Db139 (ann:Nat→LAnn):FnD:=⟨f139.body.getD .skip,f139.ntmps,f139.results.toList,plb139,ann⟩
theorem fnokb139 (ann:Nat→LAnn):FnOk prog 139 (Db139 ann):=⟨f139,atb139,by kernel_rfl,by kernel_rfl,rfl,rfl,by kernel_rfl⟩
theorem atb140:prog.funcs[140]? = some f140:=by kernel_rfl
def plb140:Nat→Plan
 | _=>[]
noncomputable def Db140 (ann:Nat→LAnn):FnD:=⟨f140.body.getD .skip,f140.ntmps,f140.results.toList,plb140,ann⟩
theorem fnokb140 (ann:Nat→LAnn):FnOk prog 140 (Db140 ann):=⟨f140,atb140,by kernel_rfl,by kernel_rfl,rfl,rfl,by kernel_rfl⟩
theorem atb147:prog.funcs[147]? = some f147:=by kernel_rfl
def plb147:Nat→Plan
 | _=>[]
noncomputable def Db147 (ann:Nat→LAnn):FnD:=⟨f147.body.getD .skip,f147.ntmps,f147.results.toList,plb147,ann⟩
theorem fnokb147 (ann:Nat→LAnn):FnOk prog 147 (Db147 ann):=⟨f147,atb147,by kernel_rfl,by kernel_rfl,rfl,rfl,by kernel_rfl⟩
theorem atb148:prog.funcs[148]? = some f148:=by kernel_rfl
def plb148:Nat→Plan
 | _=>[]
noncomputable def Db148 (ann:Nat→LAnn):FnD:=⟨f148.body.getD .skip,f148.ntmps,f148.results.toList,plb148,ann⟩
theorem fnokb148 (ann:Nat→LAnn):FnOk prog 148 (Db148 ann):=⟨f148,atb148,by kernel_rfl,by kernel_rfl,rfl,rfl,by kernel_rfl⟩
theorem atb176:prog.funcs[176]? = some f176:=by kernel_rfl
def plb176:Nat→Plan
 | 4=>[(0,[]),(1,[0]),(2,[0]),(3,[0]),(4,[]),(5,[]),(6,[])]
 | _=>[]
noncomputable def Db176 (ann:Nat→LAnn):FnD:=⟨f176.body.getD .skip,f176.ntmps,f176.results.toList,plb176,ann⟩
theorem fnokb176 (ann:Nat→LAnn):FnOk prog 176 (Db176 ann):=⟨f176,atb176,by kernel_rfl,by kernel_rfl,rfl,rfl,by kernel_rfl⟩
theorem atb179:prog.funcs[179]? = some f179:=by kernel_rfl
def plb179:Nat→Plan
 | _=>[]
noncomputable def Db179 (ann:Nat→LAnn):FnD:=⟨f179.body.getD .skip,f179.ntmps,f179.results.toList,plb179,ann⟩
theorem fnokb179 (ann:Nat→LAnn):FnOk prog 179 (Db179 ann):=⟨f179,atb179,by kernel_rfl,by kernel_rfl,rfl,rfl,by kernel_rfl⟩
theorem atb180:prog.funcs[180]? = some f180:=by kernel_rfl
def plb180:Nat→Plan
 | _=>[]
noncomputable def Db180 (ann:Nat→LAnn):FnD:=⟨f180.body.getD .skip,f180.ntmps,f180.results.toList,plb180,ann⟩
theorem fnokb180 (ann:Nat→LAnn):FnOk prog 180 (Db180 ann):=⟨f180,atb180,by kernel_rfl,by kernel_rfl,rfl,rfl,by kernel_rfl⟩
theorem atb181:prog.funcs[181]? = some f181:=by kernel_rfl
def plb181:Nat→Plan
 | _=>[]
noncomputable def Db181 (ann:Nat→LAnn):FnD:=⟨f181.body.getD .skip,f181.ntmps,f181.results.toList,plb181,ann⟩
theorem fnokb181 (ann:Nat→LAnn):FnOk prog 181 (Db181 ann):=⟨f181,atb181,by kernel_rfl,by kernel_rfl,rfl,rfl,by kernel_rfl⟩
end Go.Proofs.Tryz
namespace Go.Proofs.Tryz
open Go Go.VM Go.Lib
theorem zero_any (b:Nat) (n r t:Int) (w:World) (hc:w.cell? ⟨b,1,none⟩ = some (.int .i64 n)) :
  Calls prog 131 #[.pointer (some ⟨b,0,none⟩),.int .i64 r,.int .i64 t] w fun e w'=>e = .returned (.agg #[.int .u8 14,.int .i64 r,.int .i64 0,.int .i64 0,.int .i64 0,.int .i64 (Go.RowKit.wrap64 (n + t))])∧Go.RowKit.Below w.heap.size w w':=by
 have hlt:b < w.heap.size:=by
  rcases Nat.lt_or_ge b w.heap.size with h | h
  ·exact h
  ·simp [World.cell?,Array.getElem?_eq_none h] at hc
 have hc2:=cell?_alloc_some (Obj.cells #[Value.int IntKind.u8 0,Value.int IntKind.i64 0,Value.int IntKind.i64 0,Value.int IntKind.i64 0,Value.int IntKind.i64 0,Value.int IntKind.i64 0] 140) hc
 go_enter func131,ntmps131
 go_wp2
 go_returns
 refine ⟨rfl,?_⟩
 exact (Go.RowKit.Below.refl w.heap.size w).alloc (Nat.le_refl _) _
def zeroX:XOp where
 fr:=fun L h f xs=>match xs with
  | [.c (.ptr id 0),.c (.int .i64 r),.c (.int .i64 t)]=>match h id with
    | some (.box T [_,.int .i64 n])=>match Nat.beq T 182 with
      | true=>.v (outR [In] ((14,r,0,0,0,L.ar .add .i64 n t),()))
      | false=>.bad
    | _=>.bad
  | _=>.bad
theorem okZero:XOk prog 131 zeroX where
 has:=⟨_,func131,rfl,rfl⟩
 mono:=fun L h h' f xs hl=>by
  unfold zeroX
  simp only
  split
  ·split
   ·rename_i heq
    rw [hl _ _ heq]
    exact .inr rfl
   ·exact .inl rfl
  ·exact .inl rfl
 num:=fun L h f f' xs l hl hn=>hl
 run:=fun φ hp f w xs vs l hh hv hl=>by
  unfold zeroX at hl
  simp only at hl
  split at hl
  rotate_left
  ·exact hl.elim
  rename_i id r t
  split at hl
  rotate_left
  ·exact hl.elim
  rename_i T c0 n hbx
  split at hl
  rotate_left
  ·exact hl.elim
  obtain ⟨x',hx,rfl⟩:=hl
  match vs,hv with
  | [vp,v1,v2],hv=>?_
  obtain ⟨hvp,h1,h2,_⟩:=hv
  have hvp:isPtr φ id 0 vp:=hvp
  obtain rfl:v1 = _:=h1
  obtain rfl:v2 = _:=h2
  obtain ⟨b,sz,cap,n0,hφ,rfl⟩:=hvp
  obtain ⟨b',us,hφ',hbk,hL⟩:=hh.ob id _ hbx
  rw [hφ] at hφ'; cases hφ'
  match us,hL with
  | [u0,u1],hL=>?_
  obtain ⟨_,hu1,_⟩:=hL
  obtain rfl:u1 = _:=hu1
  have hc:w.cell? ⟨b,1,none⟩ = some (.int .i64 n):=by
   unfold World.cell?
   rw [hbk]; rfl
  refine (zero_any b n r t w hc).mono fun e w' he=>?_
  obtain ⟨rfl,hB⟩:=he
  refine ⟨_,rfl,?_⟩
  obtain ⟨r1,r2⟩:=Xf hh hB
  have hR:KR (okb φ hp) w' [In] ((14,r,0,0,0,Lv.std.ar .add .i64 n t),()) (.agg #[.int .u8 14,.int .i64 r,.int .i64 0,.int .i64 0,.int .i64 0,.int .i64 (Go.RowKit.wrap64 (n + t))]):=by
   have e:Lv.std.ar .add .i64 n t = Go.RowKit.wrap64 (n + t):=by
    show IntKind.i64.wrap (n + t) = _
    unfold IntKind.wrap Go.RowKit.wrap64
    simp only [show IntKind.i64.bits = 64 from rfl,show IntKind.i64.signed = true from rfl,Bool.true_and,decide_eq_true_eq]
    split <;> omega
   rw [e]
   exact ⟨[.int .u8 14,.int .i64 r,.int .i64 0,.int .i64 0,.int .i64 0,.int .i64 (Go.RowKit.wrap64 (n + t))],rfl,[_],_,rfl,rfl,[_],_,rfl,rfl,[_],_,rfl,rfl,[_],_,rfl,rfl,[_],_,rfl,rfl,rfl⟩
  exact ⟨φ,hp,fun i=>rfl,r1,r2,hx.rel (XM _ _ _ hR),fun i hi=>.inl hi⟩
end Go.Proofs.Tryz
namespace Go.Proofs.Tryz
open Go Go.VM
abbrev Bl:Ty:=.pair It (.pair It (.pair .bool (.pair (.sl It) (.sl (.sl It)))))
abbrev Bw:Ty:=.wrap Bl
abbrev Be:Ty:=.pair It (.pair (.sl (.sl It)) (.sl It))
abbrev BlD:=Int × Int × Bool × List Int × List (List Int)
abbrev BeD:=Int × List (List Int) × List Int
structure BeF where
 bB:BlD→Prop
 bT:BlD→Prop
 bE:BeD→Prop
 bEs:List BeD→Prop
 bI:List InD→Prop
 bLL:List (List Int)→Prop
 ex:Int→Bool→BlD
 en:Int→List Int→List Int→BeD
 chk:BlD→Int
 same:BeD→BeD→Bool
 wk:BeD→EnD
 sames:List BeD→List BeD→Bool
 pWt:BlD→Int→Prop
 wtr:BlD→Int→List InD
 pWr:BlD→Int→Prop
 wrt:BlD→Int→List InD
 prg:BlD→WkD
 pP:BlD→Prop
 prgE:BlD→WkD × Int
 sum:BlD→Int
 sumE:BlD→Int × Int
 pV:BlD→List Int→List (List Int)→Prop
 view:BlD→List Int→List (List Int)→BeD
 pIt:BlD→List Int→Prop
 lst:BlD→List Int→List (Int × Unit)
 told:StD→List (List Int)
 pRun:BlD→List Int→Prop
 run:BlD→List Int→BeD × Int × Int
 ends:BlD→List BeD × Int
 cmpB:BeD→BeD→Int
 sortB:List BeD→List BeD
 compB:List BeD→List BeD
 thin:BlD→Bool
 pMax:List Int→Prop
 max:List Int→Int
 cat:List (List Int)→List Int
 nums:BlD→List Int
 pSeen:BlD→Int→List Int→Prop
 seen:BlD→Int→List Int→Bool
 pSnd:BlD→BeD→Prop
 sound:BlD→BeD→Bool
 soundE:BlD→BeD→Bool × Int
 has:List Int→Int→Bool
 pIsL:BlD→BeD→Prop
 isList:BlD→BeD→Bool
 pVE:BlD→StD→Prop
 viewE:BlD→StD→BeD × Int
 pVR:BlD→StD→Prop
 viewR:BlD→StD→BeD
 wtrE:BlD→Int→List InD × Int
 wrtE:BlD→Int→List InD × Int
 sameL:List InD→List InD→Bool
 missed:BlD→List Int × Int
 before:List Int→List Int→Bool
 aw:Bool
 cmpN:Int→Int→Int
 iset:Int→Int→InD
 ilod:Int→Int→InD
 icalc:Int→Int→Int→Int→InD
 isto:Int→Int→InD
 iswap:Int→Int→Int→InD
 bef:Int→Int
 bel:Int→Int
 pBf:Int→Prop
 i3:Int→Int→Int→Int→Int→InD
 izero:Int→Int→InD
 iswR:Int→Int→Int→InD
 ijmp:Int→InD
variable (F:BxF) (M:BeF)
def Sb16:VM.Spec:=⟨[It,.bool],[Bl],fun _=>True,fun x=>(M.ex x.1 x.2.1,())⟩
def Sb19:VM.Spec:=⟨[It,.sl It,.sl It],[Be],fun _=>True,fun x=>(M.en x.1 x.2.1 x.2.2.1,())⟩
def Sb72:VM.Spec:=⟨[Be],[En],fun x=>M.bE x.1,fun x=>(M.wk x.1,())⟩
def Sb18:VM.Spec:=⟨[Be,Be],[.bool],fun x=>M.bE x.1∧M.bE x.2.1,fun x=>(M.same x.1 x.2.1,())⟩
def Sb59:VM.Spec:=⟨[.sl Be,.sl Be],[.bool],fun x=>M.bEs x.1∧M.bEs x.2.1,fun x=>(M.sames x.1 x.2.1,())⟩
def Sb22:VM.Spec:=⟨[Bl],[It],fun x=>M.bB x.1,fun x=>(M.chk x.1,())⟩
def Sb62:VM.Spec:=⟨[Bl],[Bw,It],fun x=>M.bB x.1,fun x=>(x.1,M.chk x.1,())⟩
def Sb75:VM.Spec:=⟨[Bw,It],[.sl In],fun x=>M.pWt x.1 x.2.1,fun x=>(M.wtr x.1 x.2.1,())⟩
def Sb38:VM.Spec:=⟨[Bl,It],[.sl In],fun x=>M.pWt x.1 x.2.1,fun x=>(M.wtr x.1 x.2.1,())⟩
def Sb77:VM.Spec:=⟨[Bw,It],[.sl In],fun x=>M.pWr x.1 x.2.1,fun x=>(M.wrt x.1 x.2.1,())⟩
def Sb39:VM.Spec:=⟨[Bl,It],[.sl In],fun x=>M.pWr x.1 x.2.1,fun x=>(M.wrt x.1 x.2.1,())⟩
def Sb63:VM.Spec:=⟨[Bw],[Wk],fun x=>M.pP x.1,fun x=>(M.prg x.1,())⟩
def Sb28:VM.Spec:=⟨[Bl],[Wk],fun x=>M.pP x.1,fun x=>(M.prg x.1,())⟩
def Sb33:VM.Spec:=⟨[Bl],[Wk,It],fun x=>M.bB x.1,fun x=>((M.prgE x.1).1,(M.prgE x.1).2,())⟩
def Sb88:VM.Spec:=⟨[Bw],[It],fun x=>M.bB x.1,fun x=>(M.sum x.1,())⟩
def Sb35:VM.Spec:=⟨[Bl],[It],fun x=>M.bB x.1,fun x=>(M.sum x.1,())⟩
def Sb34:VM.Spec:=⟨[Bl],[It,It],fun x=>M.bB x.1,fun x=>((M.sumE x.1).1,(M.sumE x.1).2,())⟩
def Sb66:VM.Spec:=⟨[Bw,.sl It,.sl (.sl It)],[Be],fun x=>M.pV x.1 x.2.1 x.2.2.1,fun x=>(M.view x.1 x.2.1 x.2.2.1,())⟩
def Ib176:VM.It:=⟨[.sl It,Bw],[It],fun x=>M.pIt x.2.1 x.1,fun x=>M.lst x.2.1 x.1⟩
def Sb70:VM.Spec:=⟨[Sta],[.sl (.sl It)],fun x=>F.bs x.1,fun x=>(M.told x.1,())⟩
def Sb17:VM.Spec:=⟨[Bl,.sl It],[Be,It,It],fun x=>M.pRun x.1 x.2.1,fun x=>((M.run x.1 x.2.1).1,(M.run x.1 x.2.1).2.1,(M.run x.1 x.2.1).2.2,())⟩
def Sb55:VM.Spec:=⟨[Bl],[.sl Be,It],fun x=>M.bB x.1,fun x=>((M.ends x.1).1,(M.ends x.1).2,())⟩
def Sb105:VM.Spec:=⟨[Be,Be],[It],fun x=>M.bE x.1,fun x=>(M.cmpB x.1 x.2.1,())⟩
def Sb123:VM.Spec:=⟨[It,It],[It],fun _=>True,fun x=>(M.cmpN x.1 x.2.1,())⟩
def Sb107:VM.Spec:=⟨[Be,Be],[.bool],fun x=>M.bE x.1,fun x=>(M.same x.1 x.2.1,())⟩
def Rb104:TurnSp:={ et:=31,e:=Be,ins:=[],pre:=fun l _=>M.bEs l,fn:=fun l _=>M.sortB l,fns:=[105] }
def Rb106:TurnSp:={ et:=31,e:=Be,ins:=[],pre:=fun l _=>M.bEs l,fn:=fun l _=>M.compB l,fns:=[107] }
def Sb24:VM.Spec:=⟨[Bl],[.bool],fun x=>M.bT x.1,fun x=>(M.thin x.1,())⟩
def Sb147:VM.Spec:=⟨[.sl It],[It],fun x=>M.pMax x.1,fun x=>(M.max x.1,())⟩
def Rb148:RowSp:=⟨[.sl (.sl It)],3,It,fun x=>M.bLL x.1,fun x=>M.cat x.1⟩
def Rb83:RowSp:=⟨[Bl],3,It,fun x=>M.bB x.1,fun x=>M.nums x.1⟩
def Sb112:VM.Spec:=⟨[Bw,It,.sl It],[.bool],fun x=>M.pSeen x.1 x.2.1 x.2.2.1,fun x=>(M.seen x.1 x.2.1 x.2.2.1,())⟩
def Sb65:VM.Spec:=⟨[Bw,Be],[.bool],fun x=>M.pSnd x.1 x.2.1,fun x=>(M.sound x.1 x.2.1,())⟩
def Sb47:VM.Spec:=⟨[Bl,Be],[.bool],fun x=>M.pSnd x.1 x.2.1,fun x=>(M.sound x.1 x.2.1,())⟩
def Sb45:VM.Spec:=⟨[Bl,Be],[.bool,It],fun x=>M.pSnd x.1 x.2.1,fun x=>((M.soundE x.1 x.2.1).1,(M.soundE x.1 x.2.1).2,())⟩
def Sb32:VM.Spec:=⟨[.sl It,It],[.bool],fun x=>F.bl x.1,fun x=>(M.has x.1 x.2.1,())⟩
def Sb96:VM.Spec:=⟨[Bl,Be],[.bool],fun x=>M.pIsL x.1 x.2.1,fun x=>(M.isList x.1 x.2.1,())⟩
def Sb25:VM.Spec:=⟨[Bl],[Bl],fun x=>M.bB x.1,fun x=>(x.1,())⟩
def Sb46:VM.Spec:=⟨[Be],[Be],fun x=>M.bE x.1,fun x=>(x.1,())⟩
def Sb42:VM.Spec:=⟨[Bl,Sta],[Be,It],fun x=>M.pVE x.1 x.2.1,fun x=>((M.viewE x.1 x.2.1).1,(M.viewE x.1 x.2.1).2,())⟩
def Sb29:VM.Spec:=⟨[Bl,Sta],[Be],fun x=>M.pVR x.1 x.2.1,fun x=>(M.viewR x.1 x.2.1,())⟩
def Sb20:VM.Spec:=⟨[Bl,It],[.sl In,It],fun x=>M.bB x.1,fun x=>((M.wtrE x.1 x.2.1).1,(M.wtrE x.1 x.2.1).2,())⟩
def Sb21:VM.Spec:=⟨[Bl,It],[.sl In,It],fun x=>M.bB x.1,fun x=>((M.wrtE x.1 x.2.1).1,(M.wrtE x.1 x.2.1).2,())⟩
def Sb40:VM.Spec:=⟨[.sl In,.sl In],[.bool],fun x=>M.bI x.1∧M.bI x.2.1,fun x=>(M.sameL x.1 x.2.1,())⟩
def Sb15:VM.Spec:=⟨[Bl],[.sl It,It],fun x=>M.bB x.1,fun x=>((M.missed x.1).1,(M.missed x.1).2,())⟩
def Sb68:VM.Spec:=⟨[.sl It,.sl It],[.bool],fun x=>F.bl x.1∧F.bl x.2.1,fun x=>(M.before x.1 x.2.1,())⟩
def Sb23:VM.Spec:=⟨[],[.bool],fun _=>True,fun _=>(M.aw,())⟩
def Sb128:VM.Spec:=⟨[It,It],[In],fun _=>True,fun x=>(M.iset x.1 x.2.1,())⟩
def Sb129:VM.Spec:=⟨[It,It],[In],fun _=>True,fun x=>(M.ilod x.1 x.2.1,())⟩
def Sb130:VM.Spec:=⟨[U8,It,It,It],[In],fun _=>True,fun x=>(M.icalc x.1 x.2.1 x.2.2.1 x.2.2.2.1,())⟩
def Sb132:VM.Spec:=⟨[It,It],[In],fun _=>True,fun x=>(M.isto x.1 x.2.1,())⟩
def Sb133:VM.Spec:=⟨[It],[It],fun x=>M.pBf x.1,fun x=>(M.bef x.1,())⟩
def Sb134:VM.Spec:=⟨[It,It,It],[In],fun _=>True,fun x=>(M.iswap x.1 x.2.1 x.2.2.1,())⟩
def Sb135:VM.Spec:=⟨[It],[It],fun x=>M.pBf x.1,fun x=>(M.bel x.1,())⟩
def Sb89:VM.Spec:=⟨[U8,It,It,It,It],[In],fun _=>True,fun x=>(M.i3 x.1 x.2.1 x.2.2.1 x.2.2.2.1 x.2.2.2.2.1,())⟩
def Sb90:VM.Spec:=⟨[It,It],[In],fun _=>True,fun x=>(M.izero x.1 x.2.1,())⟩
def Sb91:VM.Spec:=⟨[It,It,It],[In],fun _=>True,fun x=>(M.iswR x.1 x.2.1 x.2.2.1,())⟩
def Sb92:VM.Spec:=⟨[It],[In],fun _=>True,fun x=>(M.ijmp x.1,())⟩
noncomputable def eT:FuncId→FT
 | 16=>.spec (Sb16 M) | 19=>.spec (Sb19 M) | 72=>.spec (Sb72 M) | 18=>.spec (Sb18 M) | 59=>.spec (Sb59 M) | 22 | 26=>.spec (Sb22 M) | 62=>.spec (Sb62 M)
 | 75=>.spec (Sb75 M) | 38=>.spec (Sb38 M) | 77=>.spec (Sb77 M) | 39=>.spec (Sb39 M) | 63=>.spec (Sb63 M) | 28=>.spec (Sb28 M) | 33=>.spec (Sb33 M)
 | 88=>.spec (Sb88 M) | 35=>.spec (Sb35 M) | 34=>.spec (Sb34 M) | 66=>.spec (Sb66 M) | 176=>.it (Ib176 M) | 114=>.inl (Db114 a0) | 70=>.spec (Sb70 F M)
 | 17=>.spec (Sb17 M) | 55=>.spec (Sb55 M) | 105=>.spec (Sb105 M) | 107=>.spec (Sb107 M) | 104=>.ext (Rb104 M).u | 106=>.ext (Rb106 M).x | 24=>.spec (Sb24 M)
 | 147=>.spec (Sb147 M) | 148=>.ext (Rb148 M).x | 184=>.ext (growX 3 It) | 83=>.ext (Rb83 M).x | 112=>.spec (Sb112 M) | 65=>.spec (Sb65 M) | 47=>.spec (Sb47 M) | 45=>.spec (Sb45 M)
 | 32=>.spec (Sb32 F M) | 96=>.spec (Sb96 M) | 25=>.spec (Sb25 M) | 46=>.spec (Sb46 M) | 42=>.spec (Sb42 M) | 29=>.spec (Sb29 M) | 20=>.spec (Sb20 M) | 21=>.spec (Sb21 M)
 | 40=>.spec (Sb40 M) | 15=>.spec (Sb15 M) | 68=>.spec (Sb68 F M) | 23=>.spec (Sb23 M)
 | 123=>.spec (Sb123 M)
 | 128=>.spec (Sb128 M) | 129=>.spec (Sb129 M) | 130=>.spec (Sb130 M) | 132=>.spec (Sb132 M) | 133=>.spec (Sb133 M) | 134=>.spec (Sb134 M) | 135=>.spec (Sb135 M)
 | 89=>.spec (Sb89 M) | 90=>.spec (Sb90 M) | 91=>.spec (Sb91 M) | 92=>.spec (Sb92 M)
 | 127=>.inl (Db127 a0) | 131=>.ext zeroX | 136=>.inl (Db136 a0) | 137=>.inl (Db137 a0) | 80=>.spec (S92 F)
 | g=>cT F g
noncomputable def vcE (L:Lv) (F:BxF) (M:BeF) (o:List (Nat × FT)) (l:List Nat) (n:Nat) (d:FnD) (sp:VM.Spec) (x:Ds sp.ins):VC:=contractVC L E01 (callG L E01 (only (tabO o (eT F M)) l) n) (spcOf (only (tabO o (eT F M)) l)) d sp x
noncomputable def vcER (L:Lv) (F:BxF) (M:BeF) (o:List (Nat × FT)) (l:List Nat) (n:Nat) (d:FnD) (r:RowSp) (x:Ds r.ins):VC:=rowVC L E01 (callG L E01 (only (tabO o (eT F M)) l) n) (spcOf (only (tabO o (eT F M)) l)) d r x
noncomputable def vcET (L:Lv) (F:BxF) (M:BeF) (o:List (Nat × FT)) (l:List Nat) (d:FnD) (r:TurnSp) (a:List r.e.D) (x:Ds r.ins):VC:=turnVC L E01 (callG L E01 (only (tabO o (eT F M)) l) 4) (spcOf (only (tabO o (eT F M)) l)) d r a x
noncomputable def vcETn (L:Lv) (F:BxF) (M:BeF) (o:List (Nat × FT)) (l:List Nat) (d:FnD) (r:TurnSp) (x:Ds r.ins):VC:=turnNVC L E01 (callG L E01 (only (tabO o (eT F M)) l) 4) (spcOf (only (tabO o (eT F M)) l)) d r x
inductive Sy
 | h (v:Hv)
 | fb (j:Nat)
def Sy.ty:Sy→Ty
 | .h v=>v.ty
 | .fb _=>.int .i64
def eytys:List Sy→List Ty
 | []=>[]
 | x :: l=>x.ty :: eytys l
def Sy.get (L:Lv) (s:St):(x:Sy)→x.ty.D
 | .h v=>v.get L s
 | .fb j=>match s.look j with
   | .c (.fn _ (id :: _))=>match lookA s.hp id with
     | some (.box _ (.fn f _ :: _))=>(f:Int)
     | _=>(0:Int)
   | _=>(0:Int)
def eyGet (L:Lv):(l:List Sy)→St→Ds (eytys l)
 | [],_=>()
 | x :: l,s=>(x.get L s,eyGet L l s)
def anB (L:Lv) (js:List Nat) (ad:List (Nat × Option Nat × TypeId × Ty)) (ex:List Sy) (hv:List Hv) (I:Ds (eytys ex)→Ds (tysOf hv)→Prop) (mu:Ds (eytys ex)→Ds (tysOf hv)→Nat):LAnn :=
 .an { js:=js,ren:=fun s=>hvIds s hv,ad:=ad,X:=Ds (tysOf hv),c:=hvPut L hv,ext:=hvGet L hv,I:=fun s x=>I (eyGet L ex s) x,mu:=fun s x=>mu (eyGet L ex s) x }
end Go.Proofs.Tryz
