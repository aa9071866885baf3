/- What functions of the weak memory compute, proved through the condition generator, and plain facts of it. Conditions: none of ours. -/
import Derived.Test.YtljepnnnjfalcaaGreatC25
import Derived.Test.YtljepnnnjfalcaaGreatC19
set_option autoImplicit false
set_option linter.all false
namespace Go.Proofs.Tryz
open Go Go.VM
def bBF (b:BlD):Prop:=b.2.2.2.1.length≤1000∧b.2.2.2.2.length≤1000∧∀ l ∈ b.2.2.2.2,l.length≤1000
def bTF (b:BlD):Prop:=b.2.2.2.1.length≤9223372036854775807∧b.2.2.2.2.length≤9223372036854775807∧∀ l ∈ b.2.2.2.2,l.length≤9223372036854775807
def bEF (e:BeD):Prop:=e.2.1.length≤900000∧e.2.2.length≤1000000∧∀ l ∈ e.2.1,l.length≤1000000
def bEsF (l:List BeD):Prop:=l.length≤1000000∧∀ e ∈ l,bEF e
def bLLF (l:List (List Int)):Prop:=l.length≤1000∧∀ x ∈ l,x.length≤1000
def exF (w:Int) (r:Bool):BlD:=(0,1,r,[w],[[7]])
def enF (w:Int) (s l:List Int):BeD:=(w,[s],l)
def wkF (e:BeD):EnD:=([e.1],e.2.1 ++ [e.2.2],[])
def maxF:List Int→Int
 | []=>0
 | a :: l=>l.foldl max a
def pMaxF (l:List Int):Prop:=1≤l.length∧l.length≤2000000
def sumF (b:BlD):Int:=maxF (b.2.2.2.2.flatten ++ [b.1])
def toldF (s:StD):List (List Int):=s.2.map fun t=>t.2.2.2.1
def le4 (l:List Int):Bool:=decide ((l.length:Int)≤4)
def allN (l:List Int):Bool:=l.all isNumF
def chkB (b:BlD):Int :=
 if 4 < (b.2.2.2.1.length:Int) + b.2.2.2.2.length then 5
 else if b.2.2.2.2.all le4 = false then 5
 else if b.2.1 < 1∨8 < b.2.1∨isNumF b.1 = false∨b.2.2.2.1.all isNumF = false then 3
 else if b.2.2.2.2.all allN = false then 3
 else if (b.2.2.2.1.length:Int) + b.2.2.2.2.length = 0 then 4 else 0
def sumEF (b:BlD):Int × Int:=if chkB b ≠ 0 then (0,chkB b) else (sumF b,0)
theorem wk_inj {a b:BeD} (h:wkF a = wkF b):a = b:=by
 obtain ⟨a1,a2,a3⟩:=a; obtain ⟨b1,b2,b3⟩:=b
 unfold wkF at h
 simp only [Prod.mk.injEq,List.cons.injEq,and_true] at h
 obtain ⟨h1,h2⟩:=h
 have h3:=List.append_inj' h2 rfl
 simp only [List.cons.injEq,and_true] at h3
 rw [h1,h3.1,h3.2]
theorem wk_be {e:BeD} (h:bEF e):sEn (wkF e):=by
 obtain ⟨h1,h2,h3⟩:=h
 refine ⟨by show [e.1].length≤1000000; simp,by show (e.2.1 ++ [e.2.2]).length≤1000000; rw [List.length_append]; simp; omega,Nat.zero_le _,fun l hl=>?_,fun x hx=>by cases hx⟩
 rcases List.mem_append.1 hl with hl | hl
 ·exact h3 l hl
 ·rw [List.mem_singleton.1 hl]; exact h2
theorem flat_len:∀ (l:List (List Int)) (m:Nat),(∀ x ∈ l,x.length≤m)→l.flatten.length≤l.length * m
 | [],m,_=>by simp
 | x :: l,m,h=>by
   rw [List.flatten_cons,List.length_append,List.length_cons,Nat.add_mul,Nat.one_mul]
   have:=flat_len l m fun y hy=>h y (by simp [hy])
   have:=h x (by simp)
   omega
theorem bB_flat {b:BlD} (h:bBF b):b.2.2.2.2.flatten.length≤1000000:=by
 have:=flat_len b.2.2.2.2 1000 h.2.2
 have:=h.2.1
 have:b.2.2.2.2.length * 1000≤1000 * 1000:=Nat.mul_le_mul_right _ h.2.1
 omega
theorem fold_take (l:List Int) (a:Int) (k:Nat) (hk:k < l.length):(l.take (k + 1)).foldl max a = max ((l.take k).foldl max a) ((l[k]?).getD 0):=by
 rw [List.take_succ,List.getElem?_eq_getElem hk,List.foldl_append]; rfl
theorem flat_take (l:List (List Int)) (k:Nat) (hk:k < l.length):(l.take (k + 1)).flatten = (l.take k).flatten ++ (l[k]?).getD []:=by
 rw [List.take_succ,List.getElem?_eq_getElem hk,List.flatten_append]; simp
theorem map_take_told (s:StD) (k:Nat) (hk:k < s.2.length):toldF (s.1,s.2.take (k + 1)) = toldF (s.1,s.2.take k) ++ [((s.2[k]?).getD (0,[],[],[],false)).2.2.2.1]:=by
 unfold toldF
 rw [List.take_succ,List.getElem?_eq_getElem hk,List.map_append]; rfl
def cmpBF (a b:BeD):Int:=orF3 [cmpI a.1 b.1,cmpLLF a.2.1 b.2.1,cmpLF a.2.2 b.2.2]
def embB (e:BeD):EnD:=([e.1],e.2.1,e.2.2)
theorem cmpB_emb (a b:BeD):cmpBF a b = cmpEF (embB a) (embB b):=by
 unfold cmpBF cmpEF embB
 have:cmpLF [a.1] [b.1] = cmpI a.1 b.1:=by
  show (if cmpI a.1 b.1 ≠ 0 then cmpI a.1 b.1 else lexL cmpI [] []) = _
  split
  ·rfl
  ·rename_i h; show (0:Int) = _; omega
 rw [this]
theorem emb_inj {a b:BeD} (h:embB a = embB b):a = b:=by
 obtain ⟨a1,a2,a3⟩:=a; obtain ⟨b1,b2,b3⟩:=b
 unfold embB at h
 simp only [Prod.mk.injEq,List.cons.injEq,and_true] at h
 rw [h.1,h.2.1,h.2.2]
theorem cmpB_eq (a b:BeD):cmpBF a b = 0↔a = b:=by
 rw [cmpB_emb,cmpE_eq]
 exact ⟨emb_inj,fun h=>by rw [h]⟩
def pBfF (i:Int):Prop:=0≤i∧i≤1000000
def pWtF (b:BlD) (i:Int):Prop:=bBF b∧0≤i∧i < b.2.2.2.1.length
def pWrF (b:BlD) (k:Int):Prop:=bBF b∧0≤k∧k < b.2.2.2.2.length
def wtrF (b:BlD) (i:Int):List InD :=
 let e:Int:=if b.2.2.1 then 12 else 15
 [(1,8,0,0,0,i + 1),(1,9,0,0,0,(b.2.2.2.1[i.toNat]?).getD 0),(8,1,0,0,0,0),(6,5,9,1,0,0),(14,5,0,0,0,e),(8,2,0,0,0,1),(9,2,0,0,0,2 + 2 * i),(10,5,0,2,8,1),(14,5,0,0,0,5)]
   ++ (if b.2.2.1 then [] else [(8,1,0,0,0,0),(6,5,9,1,0,0),(14,5,0,0,0,e)]) ++ [(12,0,0,0,0,2 + 2 * i + 1),(9,0,0,0,0,2 + 2 * i + 1),(13,0,0,0,0,2),(15,1,0,0,0,0)]
def ringF (a:Int) (n:Int):List InD :=
 [(1,3,0,0,0,n),(8,1,0,0,0,0),(6,5,3,1,0,0),(14,5,0,0,0,a + 17),(10,5,0,1,3,0),(14,5,0,0,0,a + 1),(8,2,0,0,0,1),(14,2,0,0,0,a + 17),(10,5,0,2,0,1),(14,5,0,0,0,a + 6),(14,2,0,0,0,a + 17),
   (2,4,2,2,0,0),(8,6,4,0,0,0),(9,7,4,0,0,1),(2,2,6,0,0,0),(14,2,0,0,0,a + 17),(13,0,0,0,0,a + 11)]
def ringsF (l:List Int):List InD:=l.foldl (fun acc n=>acc ++ ringF (acc.length:Int) n) [(1,7,0,0,0,1)]
def wrtF (b:BlD) (k:Int):List InD:=ringsF ((b.2.2.2.2[k.toNat]?).getD [])
theorem ring_len (a n:Int):(ringF a n).length = 17:=rfl
theorem rings_snoc (l:List Int) (n:Int):ringsF (l ++ [n]) = ringsF l ++ ringF ((ringsF l).length:Int) n:=by unfold ringsF; rw [List.foldl_append]; rfl
theorem rings_take (l:List Int) (k:Nat) (hk:k < l.length):ringsF (l.take (k + 1)) = ringsF (l.take k) ++ ringF ((ringsF (l.take k)).length:Int) ((l[k]?).getD 0):=by
 rw [List.take_succ,List.getElem?_eq_getElem hk]
 exact rings_snoc _ _
theorem rings_len (l:List Int):(ringsF l).length = 1 + 17 * l.length:=by
 have g:∀ (l:List Int) (acc:List InD),(l.foldl (fun acc n=>acc ++ ringF (acc.length:Int) n) acc).length = acc.length + 17 * l.length:=fun l=>by
  induction l with
  | nil=>intro acc; rfl
  | cons x l ih=>intro acc; rw [List.foldl_cons,ih,List.length_append,ring_len,List.length_cons]; omega
 exact g l _
def prgF (b:BlD):WkD:=((List.replicate (2 + 2 * b.2.2.2.1.length) (0:Int)).set 0 b.1,(List.range b.2.2.2.1.length).map (fun (i:Nat)=>wtrF b (i:Int)) ++ (List.range b.2.2.2.2.length).map (fun (k:Nat)=>wrtF b (k:Int)),b.2.1)
theorem range_map {α:Type} (f:Nat→α) (k:Nat):(List.range (k + 1)).map f = (List.range k).map f ++ [f k]:=by rw [List.range_succ,List.map_append]; rfl
theorem cb5a {b:BlD} (h:4 < (b.2.2.2.1.length:Int) + b.2.2.2.2.length):chkB b = 5:=by unfold chkB; rw [if_pos h]
theorem cb5b {b:BlD} (h:¬ 4 < (b.2.2.2.1.length:Int) + b.2.2.2.2.length) (h1:b.2.2.2.2.all le4 = false):chkB b = 5:=by unfold chkB; rw [if_neg h,if_pos h1]
theorem cb3a {b:BlD} (h:¬ 4 < (b.2.2.2.1.length:Int) + b.2.2.2.2.length) (h1:b.2.2.2.2.all le4 = true) (h2:b.2.1 < 1∨8 < b.2.1∨isNumF b.1 = false∨b.2.2.2.1.all isNumF = false):chkB b = 3:=by
 unfold chkB; rw [if_neg h,if_neg (by show ¬ b.2.2.2.2.all le4 = false; rw [h1]; simp),if_pos h2]
theorem cb3b {b:BlD} (h:¬ 4 < (b.2.2.2.1.length:Int) + b.2.2.2.2.length) (h1:b.2.2.2.2.all le4 = true) (h2:¬ (b.2.1 < 1∨8 < b.2.1∨isNumF b.1 = false∨b.2.2.2.1.all isNumF = false)) (h3:b.2.2.2.2.all allN = false):chkB b = 3:=by
 unfold chkB; rw [if_neg h,if_neg (by show ¬ b.2.2.2.2.all le4 = false; rw [h1]; simp),if_neg h2,if_pos h3]
theorem cb4 {b:BlD} (h:¬ 4 < (b.2.2.2.1.length:Int) + b.2.2.2.2.length) (h1:b.2.2.2.2.all le4 = true) (h2:¬ (b.2.1 < 1∨8 < b.2.1∨isNumF b.1 = false∨b.2.2.2.1.all isNumF = false)) (h3:b.2.2.2.2.all allN = true) (h4:(b.2.2.2.1.length:Int) + b.2.2.2.2.length = 0):chkB b = 4:=by
 unfold chkB; rw [if_neg h,if_neg (by show ¬ b.2.2.2.2.all le4 = false; rw [h1]; simp),if_neg h2,if_neg (by show ¬ b.2.2.2.2.all allN = false; rw [h3]; simp),if_pos h4]
theorem cb0 {b:BlD} (h:¬ 4 < (b.2.2.2.1.length:Int) + b.2.2.2.2.length) (h1:b.2.2.2.2.all le4 = true) (h2:¬ (b.2.1 < 1∨8 < b.2.1∨isNumF b.1 = false∨b.2.2.2.1.all isNumF = false)) (h3:b.2.2.2.2.all allN = true) (h4:¬ (b.2.2.2.1.length:Int) + b.2.2.2.2.length = 0):chkB b = 0:=by
 unfold chkB; rw [if_neg h,if_neg (by show ¬ b.2.2.2.2.all le4 = false; rw [h1]; simp),if_neg h2,if_neg (by show ¬ b.2.2.2.2.all allN = false; rw [h3]; simp),if_neg h4]
end Go.Proofs.Tryz
