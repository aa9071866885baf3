/- What functions of the weak memory compute, proved through the condition generator, and plain facts of it. Conditions: none of ours. -/
import Derived.Test.YtljepnnnjfalcaaGreatC19
import Derived.Test.YtljepnnnjfalcaaGreatC24
import Derived.Test.YtljepnnnjfalcaaGreatC27
set_option autoImplicit false
set_option maxRecDepth 100000
set_option linter.all false
namespace Go.Proofs.Tryz
open Go Go.VM
inductive Reach (m:McD):Nat→StD→Prop
 | zero:Reach m 0 (firstF m.1)
 | step {n:Nat} {s:StD} {v:MvD}:Reach m n s→v ∈ movesF m s→Reach m (n + 1) (doF m s v)
structure BfsI (m:McD) (a:Nat) (l:List MtD):Prop where
 first:l[0]? = some (firstF m.1,-1,0)
 nodup:(l.map Prod.fst).Nodup
 par:∀ (n:Nat) (x:MtD),l[n]? = some x→0 < n→∃ (b j:Nat) (y:MtD) (v:MvD),b < n∧b < a∧l[b]? = some y∧x = (doF m y.1 v,(b:Int),(j:Int))∧(movesF m y.1)[j]? = some v
 mono:∀ (n k:Nat) (x y:MtD),n≤k→l[n]? = some x→l[k]? = some y→x.2.1≤y.2.1
 closed:∀ (b:Nat) (y:MtD),b < a→l[b]? = some y→∀ v ∈ movesF m y.1,∃ (n:Nat) (x:MtD),l[n]? = some x∧x.1 = doF m y.1 v∧x.2.1≤b
theorem XJ {α:Type} {l:List α} {n:Nat} {x:α} (r:List α) (h:l[n]? = some x):(l ++ r)[n]? = some x:=by
 obtain ⟨h1,h2⟩:=List.getElem?_eq_some_iff.1 h
 rw [List.getElem?_append_left h1]; exact h
theorem Xp {α:Type} {l:List α} {n:Nat} {x:α} (h:l[n]? = some x):n < l.length:=(List.getElem?_eq_some_iff.1 h).1
theorem met_iff {l:List MtD} {s:StD}:metIn l s = true↔∃ (n:Nat) (x:MtD),l[n]? = some x∧x.1 = s:=by
 unfold metIn
 rw [List.any_eq_true]
 constructor
 ·rintro ⟨x,hx,he⟩
  obtain ⟨n,hn⟩:=List.getElem?_of_mem hx
  exact ⟨n,x,hn,of_decide_eq_true he⟩
 ·rintro ⟨n,x,hn,he⟩
  exact ⟨x,List.mem_of_getElem? hn,decide_eq_true he⟩
theorem met_mem {l:List MtD} {s:StD}:metIn l s = true↔s ∈ l.map Prod.fst:=by
 rw [met_iff,List.mem_map]
 constructor
 ·rintro ⟨n,x,hn,he⟩; exact ⟨x,List.mem_of_getElem? hn,he⟩
 ·rintro ⟨x,hx,he⟩
  obtain ⟨n,hn⟩:=List.getElem?_of_mem hx
  exact ⟨n,x,hn,he⟩
structure AddI (m:McD) (a:Nat) (s:StD) (j:Nat) (l:List MtD):Prop where
 first:l[0]? = some (firstF m.1,-1,0)
 nodup:(l.map Prod.fst).Nodup
 par:∀ (n:Nat) (x:MtD),l[n]? = some x→0 < n→∃ (b j:Nat) (y:MtD) (v:MvD),b < n∧b < a + 1∧l[b]? = some y∧x = (doF m y.1 v,(b:Int),(j:Int))∧(movesF m y.1)[j]? = some v
 mono:∀ (n k:Nat) (x y:MtD),n≤k→l[n]? = some x→l[k]? = some y→x.2.1≤y.2.1
 closed:∀ (b:Nat) (y:MtD),b < a→l[b]? = some y→∀ v ∈ movesF m y.1,∃ (n:Nat) (x:MtD),l[n]? = some x∧x.1 = doF m y.1 v∧x.2.1≤b
 cur:∃ y:MtD,l[a]? = some y∧y.1 = s
 now:∀ (i:Nat) (v:MvD),i < j→(movesF m s)[i]? = some v→∃ (n:Nat) (x:MtD),l[n]? = some x∧x.1 = doF m s v∧x.2.1≤a
theorem AddI.snoc {m:McD} {a:Nat} {s:StD} {j:Nat} {l:List MtD} (h:AddI m a s j l) {v:MvD} (hv:(movesF m s)[j]? = some v) (hn:metIn l (doF m s v) = false):AddI m a s (j + 1) (l ++ [(doF m s v,(a:Int),(j:Int))]) where
 first:=XJ _ h.first
 nodup:=by
  rw [List.map_append,List.nodup_append]
  refine ⟨h.nodup,by simp,fun x hx y hy=>?_⟩
  simp only [List.map_cons,List.map_nil,List.mem_singleton] at hy
  rw [hy]; intro e; rw [← e] at hn; rw [met_mem.2 hx] at hn; cases hn
 par:=fun n x hx h0=>by
  rcases Nat.lt_or_ge n l.length with hl | hl
  ·rw [List.getElem?_append_left hl] at hx
   obtain ⟨b,i,y,w,h1,h2,h3,h4,h5⟩:=h.par n x hx h0
   exact ⟨b,i,y,w,h1,h2,XJ _ h3,h4,h5⟩
  ·obtain ⟨y,hy,hs⟩:=h.cur
   have:=Xp hx
   simp only [List.length_append,List.length_cons,List.length_nil] at this
   have e:n = l.length:=by omega
   subst e
   rw [List.getElem?_append_right (Nat.le_refl _),Nat.sub_self] at hx
   cases hx
   exact ⟨a,j,y,v,Xp hy,by omega,XJ _ hy,by rw [hs],by rw [hs]; exact hv⟩
 mono:=fun n k x y hnk hx hy=>by
  rcases Nat.lt_or_ge k l.length with hl | hl
  ·rw [List.getElem?_append_left hl] at hy
   rw [List.getElem?_append_left (by omega)] at hx
   exact h.mono n k x y hnk hx hy
  ·have:=Xp hy
   simp only [List.length_append,List.length_cons,List.length_nil] at this
   have e:k = l.length:=by omega
   subst e
   rw [List.getElem?_append_right (Nat.le_refl _),Nat.sub_self] at hy
   cases hy
   rcases Nat.lt_or_ge n l.length with hn | hn
   ·rw [List.getElem?_append_left hn] at hx
    by_cases h0:n = 0
    ·subst h0; rw [h.first] at hx; cases hx; show (-1:Int)≤(a:Int); omega
    ·obtain ⟨b,i,z,w,h1,h2,h3,h4,h5⟩:=h.par n x hx (by omega)
     rw [h4]; show (b:Int)≤(a:Int); omega
   ·have e:n = l.length:=by omega
    subst e
    rw [List.getElem?_append_right (Nat.le_refl _),Nat.sub_self] at hx
    cases hx; exact Int.le_refl _
 closed:=fun b y hb hy w hw=>by
  obtain ⟨z,hz,_⟩:=h.cur
  have:=Xp hz
  rw [List.getElem?_append_left (by omega)] at hy
  obtain ⟨n,x,h1,h2,h3⟩:=h.closed b y hb hy w hw
  exact ⟨n,x,XJ _ h1,h2,h3⟩
 cur:=by obtain ⟨y,h1,h2⟩:=h.cur; exact ⟨y,XJ _ h1,h2⟩
 now:=fun i w hi hw=>by
  by_cases e:i = j
  ·subst e
   rw [hv] at hw; cases hw
   refine ⟨l.length,(doF m s v,(a:Int),(i:Int)),?_,rfl,Int.le_refl _⟩
   rw [List.getElem?_append_right (Nat.le_refl _),Nat.sub_self]; rfl
  ·obtain ⟨n,x,h1,h2,h3⟩:=h.now i w (by omega) hw
   exact ⟨n,x,XJ _ h1,h2,h3⟩
theorem AddI.skip {m:McD} {a:Nat} {s:StD} {j:Nat} {l:List MtD} (h:AddI m a s j l) {v:MvD} (hv:(movesF m s)[j]? = some v) (hn:metIn l (doF m s v) = true):AddI m a s (j + 1) l where
 first:=h.first
 nodup:=h.nodup
 par:=h.par
 mono:=h.mono
 closed:=h.closed
 cur:=h.cur
 now:=fun i w hi hw=>by
  by_cases e:i = j
  ·subst e
   rw [hv] at hw; cases hw
   obtain ⟨n,x,h1,h2⟩:=met_iff.1 hn
   refine ⟨n,x,h1,h2,?_⟩
   by_cases h0:n = 0
   ·subst h0; rw [h.first] at h1; cases h1; show (-1:Int)≤(a:Int); omega
   ·obtain ⟨b,k,z,w,h1,h2,h3,h4,h5⟩:=h.par n x h1 (by omega)
    rw [h4]; show (b:Int)≤(a:Int); omega
  ·exact h.now i w (by omega) hw
def Many (m:McD):Prop:=∃ r:List StD,r.length = 20001∧r.Nodup∧∀ s ∈ r,∃ d,Reach m d s
theorem par_reach {m:McD} {a:Nat} {l:List MtD} (h0:l[0]? = some (firstF m.1,-1,0))
  (hp:∀ (n:Nat) (x:MtD),l[n]? = some x→0 < n→∃ (b j:Nat) (y:MtD) (v:MvD),b < n∧b < a∧l[b]? = some y∧x = (doF m y.1 v,(b:Int),(j:Int))∧(movesF m y.1)[j]? = some v) :
  ∀ (n:Nat) (x:MtD),l[n]? = some x→∃ d,Reach m d x.1:=by
 intro n
 induction n using Nat.strongRecOn with
 | ind n ih =>
   intro x hx
   by_cases e:n = 0
   ·subst e; rw [h0] at hx; cases hx; exact ⟨0,.zero⟩
   ·obtain ⟨b,j,y,v,h1,_,h3,h4,h5⟩:=hp n x hx (by omega)
    obtain ⟨d,hd⟩:=ih b h1 y h3
    rw [h4]
    exact ⟨d + 1,.step hd (List.mem_of_getElem? h5)⟩
theorem addN_inv {m:McD} {a:Nat} {s:StD}:∀ (mv:List MvD) (j:Nat) (l:List MtD),AddI m a s j l→(movesF m s).drop j = mv→l.length≤20000 →
  (∃ l',addN m s a j mv l = some l'∧AddI m a s (movesF m s).length l'∧l.length≤l'.length∧l'.length≤20000)∨(addN m s a j mv l = none∧Many m)
 | [],j,l,h,hd,hl=>by
   left
   refine ⟨l,rfl,⟨h.first,h.nodup,h.par,h.mono,h.closed,h.cur,fun i v hi hv=>h.now i v ?_ hv⟩,Nat.le_refl _,hl⟩
   have:=List.drop_eq_nil_iff.1 hd
   omega
 | v :: r,j,l,h,hd,hl=>by
   have hj:j < (movesF m s).length:=by
    rcases Nat.lt_or_ge j (movesF m s).length with h1 | h1
    ·exact h1
    ·rw [List.drop_eq_nil_of_le h1] at hd; cases hd
   rw [List.drop_eq_getElem_cons hj] at hd
   injection hd with hd1 hd2
   have hv:(movesF m s)[j]? = some v:=by rw [List.getElem?_eq_getElem hj,hd1]
   rw [addN]
   cases hc:metIn l (doF m s v) with
   | true=>simp only [if_true]; exact addN_inv r (j + 1) l (h.skip hv hc) hd2 hl
   | false =>
     simp only [Bool.false_eq_true,if_false]
     by_cases e:l.length = 20000
     ·rw [if_pos e]
      right
      refine ⟨rfl,l.map Prod.fst ++ [doF m s v],by simp [e],?_,fun x hx=>?_⟩
      ·rw [List.nodup_append]
       refine ⟨h.nodup,by simp,fun x hx y hy=>?_⟩
       rw [List.mem_singleton.1 hy]; intro e; rw [← e,met_mem.2 hx] at hc; cases hc
      ·have hr:=par_reach h.first h.par
       rcases List.mem_append.1 hx with h1 | h1
       ·obtain ⟨y,hy,rfl⟩:=List.mem_map.1 h1
        obtain ⟨n,hn⟩:=List.getElem?_of_mem hy
        exact hr n y hn
       ·rw [List.mem_singleton.1 h1]
        obtain ⟨y,hy,rfl⟩:=h.cur
        obtain ⟨d,hd⟩:=hr a y hy
        exact ⟨d + 1,.step hd (List.mem_of_getElem? hv)⟩
     ·rw [if_neg e]
      rcases addN_inv r (j + 1) _ (h.snoc hv hc) hd2 (by simp; omega) with ⟨l',h1,h2,h3,h4⟩ | h1
      ·left; refine ⟨l',h1,h2,?_,h4⟩; simp at h3; omega
      ·right; exact h1
theorem bfsN_inv {m:McD}:∀ (f a:Nat) (l:List MtD),BfsI m a l→a≤l.length→l.length≤20000→20001≤f + a →
  (∃ l',bfsN m f a l = some l'∧BfsI m l'.length l'∧l'.length≤20000)∨(bfsN m f a l = none∧Many m)
 | 0,a,l,h,ha,hl,hf=>by omega
 | f + 1,a,l,h,ha,hl,hf=>by
   rw [bfsN]
   by_cases hlt:a < l.length
   ·rw [List.getElem?_eq_getElem hlt]
    simp only
    have hi:AddI m a l[a].1 0 l:=⟨h.first,h.nodup,fun n x hx h0=>by
     obtain ⟨b,j,y,v,h1,h2,h3⟩:=h.par n x hx h0
     exact ⟨b,j,y,v,h1,by omega,h3⟩,h.mono,h.closed,⟨l[a],List.getElem?_eq_getElem hlt,rfl⟩,fun i v hi _=>by omega⟩
    rcases addN_inv _ 0 l hi rfl hl with ⟨l',h1,h2,h3,h4⟩ | ⟨h1,h2⟩
    ·rw [List.drop_zero] at h1
     rw [h1]
     simp only
     refine bfsN_inv f (a + 1) l' ⟨h2.first,h2.nodup,h2.par,h2.mono,fun b y hb hy v hv=>?_⟩ (by omega) h4 (by omega)
     by_cases e:b = a
     ·subst e
      obtain ⟨z,hz,hs⟩:=h2.cur
      rw [hy] at hz; cases hz
      obtain ⟨i,hi⟩:=List.getElem?_of_mem hv
      have hi':=Xp hi
      rw [hs] at hi hi' ⊢
      exact h2.now i v hi' hi
     ·exact h2.closed b y (by omega) hy v hv
    ·rw [List.drop_zero] at h1
     rw [h1]; right; exact ⟨rfl,h2⟩
   ·rw [List.getElem?_eq_none (by omega)]
    left
    exact ⟨l,rfl,by rw [show l.length = a by omega]; exact h,hl⟩
theorem all_inv (m:McD):(∃ l,allF m = (l,0)∧BfsI m l.length l∧l.length≤20000)∨(allF m = ([],5)∧Many m):=by
 have h0:BfsI m 0 [(firstF m.1,-1,0)]:=⟨rfl,by simp,fun n x hx h0=>by
  have:=Xp hx; simp at this; omega,fun n k x y hnk hx hy=>by
  have h1:=Xp hx; have h2:=Xp hy
  simp only [List.length_cons,List.length_nil] at h1 h2
  have e1:n = 0:=by omega
  have e2:k = 0:=by omega
  subst e1; subst e2
  cases hx; cases hy; exact Int.le_refl _,fun b y hb=>by omega⟩
 rcases bfsN_inv 20001 0 _ h0 (by simp) (by simp) (by omega) with ⟨l,h1,h2,h3⟩ | ⟨h1,h2⟩
 ·left; exact ⟨l,by rw [allF,bfs0,h1],h2,h3⟩
 ·right; exact ⟨by rw [allF,bfs0,h1],h2⟩
theorem BfsI.reach {m:McD} {l:List MtD} {a:Nat} (h:BfsI m a l) {n:Nat} {x:MtD} (hx:l[n]? = some x):∃ d,Reach m d x.1:=par_reach h.first h.par n x hx
theorem BfsI.met {m:McD} {l:List MtD} (h:BfsI m l.length l) {d:Nat} {s:StD} (hr:Reach m d s):∃ (n:Nat) (x:MtD),l[n]? = some x∧x.1 = s:=by
 induction hr with
 | zero=>exact ⟨0,_,h.first,rfl⟩
 | step _ hv ih =>
   obtain ⟨n,x,hx,rfl⟩:=ih
   obtain ⟨k,y,h1,h2,_⟩:=h.closed n x (Xp hx) hx _ hv
   exact ⟨k,y,h1,h2⟩
theorem nodup_len {α:Type} [DecidableEq α]:∀ (r l:List α),r.Nodup→(∀ x ∈ r,x ∈ l)→r.length≤l.length
 | [],l,_,_=>Nat.zero_le _
 | x :: r,l,hn,hs=>by
   have hx:=hs x (by simp)
   have hn':=List.nodup_cons.1 hn
   have:=nodup_len r (l.erase x) hn'.2 fun y hy=>(List.mem_erase_of_ne (a:=y) (b:=x) (fun e=>hn'.1 (by rw [← e]; exact hy))).2 (hs y (by simp [hy]))
   rw [List.length_erase_of_mem hx] at this
   have:=List.length_pos_of_mem hx
   simp only [List.length_cons]; omega
def EndsAt (m:McD) (e:EnD):Prop:=∃ d s,Reach m d s∧endedF m s = true∧endOfF m s = e
theorem endsOf_mem {m:McD} (h:(allF m).2 = 0) (e:EnD):e ∈ endsOf m (allF m).1↔EndsAt m e:=by
 rcases all_inv m with ⟨l,h1,h2,_⟩ | ⟨h1,_⟩
 ·rw [h1]
  unfold endsOf EndsAt
  simp only [List.mem_map,List.mem_filter]
  constructor
  ·rintro ⟨x,⟨hx,he⟩,rfl⟩
   obtain ⟨n,hn⟩:=List.getElem?_of_mem hx
   obtain ⟨d,hd⟩:=h2.reach hn
   exact ⟨d,x.1,hd,he,rfl⟩
  ·rintro ⟨d,s,hd,he,rfl⟩
   obtain ⟨n,x,hx,rfl⟩:=h2.met hd
   exact ⟨x,⟨List.mem_of_getElem? hx,he⟩,rfl⟩
 ·rw [h1] at h; cases h
end Go.Proofs.Tryz
namespace Go.Proofs.Tryz
open Go Go.VM
def ltE (x y:EnD):Bool:=Go.Proofs.ltOf cmpEF x y
theorem ltE_irr (x:EnD):ltE x x = false:=cmpE_ord.swo.irrefl x
theorem ltE_tr {x y z:EnD} (h1:ltE x y = true) (h2:ltE y z = true):ltE x z = true:=cmpE_ord.swo.trans x y z h1 h2
theorem ltE_tot {x y:EnD} (h1:ltE x y = false) (h2:ltE y x = false):x = y:=cmpE_ord.tot x y h1 h2
def sortE (l:List EnD):List EnD:=List.mergeSort (α:=EnD) l fun x y=>!(Go.Proofs.ltOf cmpEF) y x
theorem sortE_mem (l:List EnD) (e:EnD):e ∈ sortE l↔e ∈ l:=List.mem_mergeSort
theorem sortE_ord (l:List EnD):(sortE l).Pairwise fun x y=>ltE y x = false:=by
 have h:=List.pairwise_mergeSort (le:=fun x y:EnD=>!(Go.Proofs.ltOf cmpEF) y x) (fun a b c h1 h2=>by
  simp only [Bool.not_eq_true'] at h1 h2 ⊢
  exact cmpE_ord.swo.ntrans c b a h2 h1) (fun a b=>by
  simp only [Bool.or_eq_true,Bool.not_eq_true']
  cases h:Go.Proofs.ltOf cmpEF b a with
  | false=>exact .inl rfl
  | true =>
    right
    cases h':Go.Proofs.ltOf cmpEF a b with
    | false=>rfl
    | true=>have:=cmpE_ord.swo.trans _ _ _ h h'; rw [cmpE_ord.swo.irrefl] at this; cases this) l
 exact h.imp fun {a b} h=>by
  have h':(!(Go.Proofs.ltOf cmpEF) b a) = true:=h
  show Go.Proofs.ltOf cmpEF b a = false
  simpa using h'
theorem snocRec {α:Type} {P:List α→Prop} (h0:P []) (h1:∀ l x,P l→P (l ++ [x])) (l:List α):P l:=by
 have:∀ n,∀ l:List α,l.length = n→P l:=fun n=>by
  induction n with
  | zero=>intro l h; rw [List.eq_nil_of_length_eq_zero h]; exact h0
  | succ n ih =>
    intro l h
    rcases List.eq_nil_or_concat l with rfl | ⟨q,x,rfl⟩
    ·cases h
    ·rw [List.concat_eq_append] at h ⊢
     exact h1 q x (ih q (by simpa using h))
 exact this l.length l rfl
theorem compL_mem (l:List EnD) (e:EnD):e ∈ compL l↔e ∈ l:=by
 induction l using snocRec with
 | h0=>exact Iff.rfl
 | h1 l x ih =>
   rw [XR,pushE]
   split
   ·rename_i hx
    rw [ih,List.mem_append,List.mem_singleton]
    constructor
    ·exact .inl
    ·rintro (h | rfl)
     ·exact h
     ·exact ih.1 (List.mem_of_getLast? hx)
   ·rw [List.mem_append,List.mem_append,ih]
theorem compL_strict (l:List EnD) (h:l.Pairwise fun x y=>ltE y x = false):(compL l).Pairwise fun x y=>ltE x y = true:=by
 induction l using snocRec with
 | h0=>exact .nil
 | h1 l x ih =>
   rw [List.pairwise_append] at h
   obtain ⟨h1,_,h3⟩:=h
   have ih:=ih h1
   rw [XR,pushE]
   split
   ·exact ih
   ·rename_i hx
    rw [List.pairwise_append]
    refine ⟨ih,by simp,fun y hy z hz=>?_⟩
    rw [List.mem_singleton.1 hz]
    have a1:ltE x y = false:=h3 y ((compL_mem l y).1 hy) x (by simp)
    cases a2:ltE y x with
    | true=>rfl
    | false =>
      exfalso
      have e:=ltE_tot a2 a1
      subst e
      obtain ⟨i,hi,rfl⟩:=List.getElem_of_mem hy
      by_cases hl:i = (compL l).length - 1
      ·exact hx (by rw [List.getLast?_eq_getElem?,← hl,List.getElem?_eq_getElem hi])
      ·have a3:=List.pairwise_iff_getElem.1 ih i ((compL l).length - 1) hi (by omega) (by omega)
       have a4:ltE (compL l)[i] ((compL l)[(compL l).length - 1]'(by omega)) = false:=h3 _ ((compL_mem l _).1 (List.getElem_mem (show (compL l).length - 1 < (compL l).length by omega))) _ (List.mem_singleton.2 rfl)
       rw [a4] at a3; cases a3
theorem strict_ext:∀ a b:List EnD,(a.Pairwise fun x y=>ltE x y = true)→(b.Pairwise fun x y=>ltE x y = true)→(∀ e,e ∈ a↔e ∈ b)→a = b
 | [],[],_,_,_=>rfl
 | [],y :: b,_,_,h=>by have:=(h y).2 (by simp); cases this
 | x :: a,[],_,_,h=>by have:=(h x).1 (by simp); cases this
 | x :: a,y :: b,ha,hb,h=>by
   rw [List.pairwise_cons] at ha hb
   have e:x = y:=by
    rcases List.mem_cons.1 ((h x).1 (by simp)) with e | h1
    ·exact e
    ·rcases List.mem_cons.1 ((h y).2 (by simp)) with e | h2
     ·exact e.symm
     ·have:=ltE_tr (ha.1 y h2) (hb.1 x h1); rw [ltE_irr] at this; cases this
   subst e
   rw [strict_ext a b ha.2 hb.2 fun e=>?_]
   constructor
   ·intro he
    rcases List.mem_cons.1 ((h e).1 (by simp [he])) with h1 | h1
    ·have:=ha.1 e he; rw [h1,ltE_irr] at this; cases this
    ·exact h1
   ·intro he
    rcases List.mem_cons.1 ((h e).2 (by simp [he])) with h1 | h1
    ·have:=hb.1 e he; rw [h1,ltE_irr] at this; cases this
    ·exact h1
noncomputable def endsM (m:McD):List EnD × Int × Int:=endsG sortE compL m
theorem endsM_ok {m:McD} (h:(endsM m).2.2 = 0):checkF m.1 = 0∧(allF m).2 = 0∧(endsM m).1 = compL (sortE (endsOf m (allF m).1)):=by
 unfold endsM endsG at h ⊢
 split at h
 ·rename_i h1; exact absurd h h1
 ·rename_i h1
  split at h
  ·rename_i h2; exact absurd h h2
  ·rename_i h2; simp only [ne_eq,Decidable.not_not] at h1 h2; rw [if_neg (by simpa using h1),if_neg (by simpa using h2)]; exact ⟨h1,h2,rfl⟩
theorem endsM_err {m:McD} (h:checkF m.1 = 0):(endsM m).2.2 = (allF m).2:=by
 unfold endsM endsG
 rw [if_neg (by simpa using h)]
 split
 ·rfl
 ·rename_i h2; simp only [ne_eq,Decidable.not_not] at h2; exact h2.symm
theorem endsM_mem {m:McD} (h:(endsM m).2.2 = 0) (e:EnD):e ∈ (endsM m).1↔EndsAt m e:=by
 obtain ⟨_,h2,h3⟩:=endsM_ok h
 rw [h3,compL_mem,sortE_mem,endsOf_mem h2]
theorem endsM_strict {m:McD} (h:(endsM m).2.2 = 0):(endsM m).1.Pairwise fun x y=>ltE x y = true:=by
 obtain ⟨_,h2,h3⟩:=endsM_ok h
 rw [h3]; exact compL_strict _ (sortE_ord _)
end Go.Proofs.Tryz
namespace Go.Proofs.Tryz
open Go Go.VM
def ckRow (m:McD) (dec:Nat→StD) (n:Nat) (E:List EnD) (k:Nat) (ns:List Nat):Bool :=
 decide ((movesF m (dec k)).map (doF m (dec k)) = ns.map dec) && (ns.all fun j=>Nat.blt j n) && (!ns.isEmpty || E.contains (endOfF m (dec k)))
def ckRows (m:McD) (dec:Nat→StD) (n:Nat) (E:List EnD):Nat→List (List Nat)→Bool
 | _,[]=>true
 | k,ns :: r=>ckRow m dec n E k ns && ckRows m dec n E (k + 1) r
def goP (m:McD):StD→List Nat→Option StD
 | s,[]=>some s
 | s,j :: r=>match (movesF m s)[j]? with
   | some v=>goP m (doF m s v) r
   | none=>none
def ckEnd (m:McD) (e:EnD) (js:List Nat):Bool:=match goP m (firstF m.1) js with
 | some s=>endedF m s && decide (endOfF m s = e)
 | none=>false
theorem Yx {m:McD} {dec:Nat→StD} {n:Nat} {E:List EnD}:∀ (a b:List (List Nat)) (k:Nat),ckRows m dec n E k a = true→ckRows m dec n E (k + a.length) b = true→ckRows m dec n E k (a ++ b) = true
 | [],b,k,_,h=>h
 | x :: a,b,k,h1,h2=>by
   have h3:=Bool.and_eq_true_iff.1 h1
   show (ckRow m dec n E k x && ckRows m dec n E (k + 1) (a ++ b)) = true
   rw [h3.1,Yx a b (k + 1) h3.2 (by rw [List.length_cons] at h2; rw [show k + 1 + a.length = k + (a.length + 1) by omega]; exact h2)]; rfl
theorem ckRows_get {m:McD} {dec:Nat→StD} {n:Nat} {E:List EnD}:∀ (a:List (List Nat)) (k j:Nat) (h:j < a.length),ckRows m dec n E k a = true→ckRow m dec n E (k + j) a[j] = true
 | x :: a,k,0,_,h1=>(Bool.and_eq_true_iff.1 h1).1
 | x :: a,k,j + 1,h,h1=>by
   have:=ckRows_get a (k + 1) j (by simpa using h) (Bool.and_eq_true_iff.1 h1).2
   rw [show k + (j + 1) = k + 1 + j by omega]; exact this
theorem goP_reach {m:McD}:∀ (js:List Nat) (s s':StD) (d:Nat),Reach m d s→goP m s js = some s'→∃ d',Reach m d' s'
 | [],s,s',d,h,e=>by injection e with e; exact ⟨d,e ▸ h⟩
 | j :: r,s,s',d,h,e=>by
   unfold goP at e
   split at e
   ·rename_i v hv; exact goP_reach r _ _ _ (.step h (List.mem_of_getElem? hv)) e
   ·cases e
theorem cert_reach {m:McD} {dec:Nat→StD} {n:Nat} {E:List EnD} {R:List (List Nat)} (h0:dec 0 = firstF m.1) (hn:R.length = n) (hn0:0 < n) (hR:ckRows m dec n E 0 R = true) {d:Nat} {s:StD} (h:Reach m d s):∃ k,k < n∧dec k = s:=by
 induction h with
 | zero=>exact ⟨0,hn0,h0⟩
 | step h hv ih =>
   obtain ⟨k,hk,rfl⟩:=ih
   have h1:=ckRows_get R 0 k (by omega) hR
   rw [Nat.zero_add] at h1
   have h2:=(Bool.and_eq_true_iff.1 (Bool.and_eq_true_iff.1 h1).1)
   have h3:=of_decide_eq_true h2.1
   have h4:=List.mem_map_of_mem (f:=doF m (dec k)) hv
   rw [h3] at h4
   obtain ⟨j,hj,e⟩:=List.mem_map.1 h4
   have h5:=List.all_eq_true.1 h2.2 j hj
   exact ⟨j,by rw [Nat.blt_eq] at h5; exact h5,e⟩
theorem cert_all {m:McD} {dec:Nat→StD} {n:Nat} {E:List EnD} {R:List (List Nat)} (h0:dec 0 = firstF m.1) (hn:R.length = n) (hn0:0 < n) (hn1:n≤20000) (hR:ckRows m dec n E 0 R = true):(allF m).2 = 0:=by
 rcases all_inv m with ⟨l,h,_,_⟩ | ⟨_,r,h1,h2,h3⟩
 ·rw [h]
 ·exfalso
  have:=nodup_len r ((List.range n).map dec) h2 fun x hx=>by
   obtain ⟨d,hd⟩:=h3 x hx
   obtain ⟨k,hk,rfl⟩:=cert_reach h0 hn hn0 hR hd
   exact List.mem_map_of_mem (List.mem_range.2 hk)
  rw [List.length_map,List.length_range,h1] at this
  omega
theorem cert_end {m:McD} {dec:Nat→StD} {n:Nat} {E:List EnD} {R:List (List Nat)} (h0:dec 0 = firstF m.1) (hn:R.length = n) (hn0:0 < n) (hR:ckRows m dec n E 0 R = true) {e:EnD} (h:EndsAt m e):e ∈ E:=by
 obtain ⟨d,s,h1,h2,rfl⟩:=h
 obtain ⟨k,hk,rfl⟩:=cert_reach h0 hn hn0 hR h1
 have h1:=ckRows_get R 0 k (by omega) hR
 rw [Nat.zero_add] at h1
 have h3:=Bool.and_eq_true_iff.1 h1
 have h4:=of_decide_eq_true (Bool.and_eq_true_iff.1 h3.1).1
 have h5:movesF m (dec k) = []:=of_decide_eq_true h2
 rw [h5] at h4
 have h6:R[k] = []:=by simpa using h4.symm
 rw [h6] at h3
 have h7:E.contains (endOfF m (dec k)) = true:=h3.2
 exact List.contains_iff_mem.1 h7
theorem cert_endsM {m:McD} {dec:Nat→StD} {n:Nat} {E:List EnD} {R:List (List Nat)} (hc:checkF m.1 = 0) (h0:dec 0 = firstF m.1) (hn:R.length = n) (hn0:0 < n) (hn1:n≤20000) (hR:ckRows m dec n E 0 R = true)
  (hs:E.Pairwise fun x y=>ltE x y = true) (hE:∀ e ∈ E,∃ js,ckEnd m e js = true):(endsM m).1 = E∧(endsM m).2.2 = 0:=by
 have ha:=cert_all h0 hn hn0 hn1 hR
 have h2:(endsM m).2.2 = 0:=by rw [endsM_err hc]; exact ha
 refine ⟨strict_ext _ _ (endsM_strict h2) hs fun e=>?_,h2⟩
 rw [endsM_mem h2]
 constructor
 ·exact cert_end h0 hn hn0 hR
 ·intro he
  obtain ⟨js,hj⟩:=hE e he
  unfold ckEnd at hj
  split at hj
  ·rename_i s hs
   have h3:=Bool.and_eq_true_iff.1 hj
   obtain ⟨d,hd⟩:=goP_reach js _ _ 0 .zero hs
   exact ⟨d,s,hd,h3.1,of_decide_eq_true h3.2⟩
  ·cases hj
def decC (W:List (List Int)) (TT:List (List ThD)) (C:List (List (Nat × List Nat))) (k:Nat):StD:=match ((C[k / 20]?).getD [])[k % 20]? with
 | some c=>((W[c.1]?).getD [],List.zipWith (fun (T:List ThD) (a:Nat)=>(T[a]?).getD th0) TT c.2)
 | none=>([],[])
def pairB:List EnD→Bool
 | []=>true
 | x :: l=>l.all (fun y=>ltE x y) && pairB l
theorem pair_ok {l:List EnD} (h:pairB l = true):l.Pairwise fun x y=>ltE x y = true:=by
 induction l with
 | nil=>exact .nil
 | cons x l ih =>
   have h2:=Bool.and_eq_true_iff.1 h
   exact .cons (fun y hy=>List.all_eq_true.1 h2.1 y hy) (ih h2.2)
end Go.Proofs.Tryz
namespace Go.Proofs.Tryz
open Go Go.VM
def ab106 (L:Lv) (I:List BeD × Unit→Ds [It]→Prop) (mu:List BeD × Unit→Ds [It]→Nat) (I2:List BeD × Int × Unit→Ds [.sl Be,It,It]→Prop) (m2:List BeD × Int × Unit→Ds [.sl Be,It,It]→Nat):Nat→LAnn
 | 0=>anE L [0,1,5] [] [.h (.ri 0 Be)] [.s 5 It] I mu
 | 2=>anE L [0,1,5,6,7] [] [.h (.ri 0 Be),.h (.s 5 It)] [.ri 0 Be,.s 5 It,.s 7 It] I2 m2
 | _=>.no
def nb106 (L:Lv) (F:BxF) (M:BeF) (I:List BeD × Unit→Ds [It]→Prop) (mu:List BeD × Unit→Ds [It]→Nat) (I2:List BeD × Int × Unit→Ds [.sl Be,It,It]→Prop) (m2:List BeD × Int × Unit→Ds [.sl Be,It,It]→Nat) (a:List BeD)  : VC :=
 let z1:=L.llen Be a;
 let z2:=L.cast z1;
 let z3:=Int × List (List Int) × List Int; .br (L.cmp .lss z2 2) (.ok (31 = 31∧L.take Be a z1 = BeF.compB M a)) (.obl (St.mk 66 [(0,V.c (C.own 1 z1)),(1,V.c
  (C.fn 107 [])),(5,V.c (C.int .i64 1))] [(0,Ob.amb),(1,Ob.row 31 Be a)] 2 = St.mk 66 [(0,V.c (C.own 1 z1)),(1,V.c (C.fn 107 [])),(5,V.c (C.int .i64 1))]
  [(0,Ob.amb),(1,Ob.row 31 Be a)] 2) (.obl (I (a,()) (1,())) (.all (Int × Unit) fun (v1:Int × Unit) =>
 let z4:=v1.1;
 let z5:=L.toN z4;
 let z6:=L.ar .sub .i64 z4 1;
 let z7:=L.toN z6;
 let z8:=L.get Be a z5;
 let z9:=z8.2;
 let z10:=(Prod.fst z8,z9.1,z9.2);
 let z11:=L.get Be a z7;
 let z12:=z11.2;
 let z13:=L.sub z1 z5;
 let z14:=L.ar .add .i64 z4 1;
 let z15:=(L.ar .add .i64 z4 1,()); .imp (I (a,()) v1) (.br (L.cmp .lss z4 z2) (.obl (L.inR z4 z1) (.obl (L.ltN z5 z1) (.obl (L.inR z6
  z1) (.obl (L.ltN z7 z1) (.obl (BeF.bE M z10) (.br (BeF.same M z10 (Prod.fst z11,z12.1,z12.2)) (.obl (L.le3 z4 z2 z1) (.obl (St.mk 66 [(0,V.c
  (C.own 1 z1)),(1,V.c (C.fn 107 [])),(5,V.c (C.int .i64 z4)),(6,V.c (C.owa 1 z5 z13)),(7,V.c (C.int .i64 1))] [(0,Ob.amb),(1,Ob.row 31 Be a)] 2 = St.mk 66
  [(0,V.c (C.own 1 z1)),(1,V.c (C.fn 107 [])),(5,V.c (C.int .i64 z4)),(6,V.c (C.owa 1 z5 z13)),(7,V.c (C.int .i64 1))] [(0,Ob.amb),(1,Ob.row 31 Be a)] 2)
  (.obl (I2 (a,v1.1,()) (a,v1.1,1,())) (.all (List z3 × Int × Int × Unit) fun (v2:List (Int × List (List Int) × List Int) × Int × Int × Unit) =>
 let z16:=v2.2;
 let z17:=z16.2.1;
 let z18:=L.inR z17 z13;
 let z19:=L.add z5 (L.toN z17);
 let z20:=v2.1;
 let z21:=L.llen Be z20;
 let z22:=L.ltN z19 z21;
 let z23:=L.ar .sub .i64 z17 1;
 let z24:=L.add z5 (L.toN z23);
 let z25:=L.get Be z20 z19;
 let z26:=z25.2;
 let z27:=(Prod.fst z25,z26.1,z26.2);
 let z28:=L.get Be z20 z24;
 let z29:=z28.2;
 let z30:=z16.1;
 let z31:=L.ar .add .i64 z17 1;
 let z32:=(Prod.fst v2,z16.1,L.ar .add .i64 z17 1,());
 let z33:=L.toN z30;
 let z34:=L.ar .add .i64 z30 1;
 let z35:=L.setl Be z20 z33 z27;
 let z36:=(L.setl Be z20 z33 z27,L.ar .add .i64 z30 1,L.ar .add .i64 z17 1,());
 let z37:=L.sub z1 z33; .imp (I2 (a,v1.1,()) v2) (.br (L.cmp .lss z17 (L.cast z13)) (.obl z18 (.obl z22 (.obl (L.inR z23 z13) (.obl (L.ltN
  z24 z21) (.obl (BeF.bE M z27) (.br (BeF.same M z27 (Prod.fst z28,z29.1,z29.2)) (.ok (St.mk 66 [(0,V.c (C.own 1 z1)),(1,V.c (C.fn 107 [])),(5,V.c (C.int
  .i64 z30)),(6,V.c (C.owa 1 z5 z13)),(7,V.c (C.int .i64 z31))] [(0,Ob.amb),(1,Ob.row 31 Be z20)] 2 = St.mk 66 [(0,V.c (C.own 1 z1)),(1,V.c (C.fn 107 [])),
  (5,V.c (C.int .i64 z30)),(6,V.c (C.owa 1 z5 z13)),(7,V.c (C.int .i64 z31))] [(0,Ob.amb),(1,Ob.row 31 Be z20)] 2∧I2 (a,v1.1,()) z32∧m2 (a,
  Prod.fst v1,()) z32 < m2 (a,v1.1,()) v2)) (.obl z18 (.obl z22 (.obl (L.inR z30 z1) (.obl (L.ltN z33 z21) (.ok (St.mk 66 [(0,V.c (C.own 1 z1)),(1,V.c
  (C.fn 107 [])),(5,V.c (C.int .i64 z34)),(6,V.c (C.owa 1 z5 z13)),(7,V.c (C.int .i64 z31))] [(0,Ob.amb),(1,Ob.row 31 Be z35)] 2 = St.mk 66 [(0,V.c (C.own 1
  z1)),(1,V.c (C.fn 107 [])),(5,V.c (C.int .i64 z34)),(6,V.c (C.owa 1 z5 z13)),(7,V.c (C.int .i64 z31))] [(0,Ob.amb),(1,Ob.row 31 Be z35)] 2∧I2 (a,
  Prod.fst v1,()) z36∧m2 (a,v1.1,()) z36 < m2 (a,v1.1,()) v2)))))))))))) (.obl (L.le3 z30 z2 z1) (.obl (L.ltN 0 z37∧L.add z33 z37 = L.llen Be
  z20) (.obl (L.le3 (L.cast 0) z30 z1) (.ok (31 = 31∧L.take Be (L.app Be (L.take Be z20 z33) (L.rep Be z37 (0,[],[]))) z33 = BeF.compB M a))))))))))
  (.ok (St.mk 66 [(0,V.c (C.own 1 z1)),(1,V.c (C.fn 107 [])),(5,V.c (C.int .i64 z14))] [(0,Ob.amb),(1,Ob.row 31 Be a)] 2 = St.mk 66 [(0,V.c (C.own 1 z1)),(1,V.c
  (C.fn 107 [])),(5,V.c (C.int .i64 z14))] [(0,Ob.amb),(1,Ob.row 31 Be a)] 2∧I (a,()) z15∧mu (a,()) z15 < mu (a,()) v1)))))))) (.ok (31 = 31∧L.take Be a
  z1 = BeF.compB M a))))))
theorem nb106_go (L:Lv) (F:BxF) (M:BeF) (I:List BeD × Unit→Ds [It]→Prop) (mu:List BeD × Unit→Ds [It]→Nat) (I2:List BeD × Int × Unit→Ds [.sl Be,It,It]→Prop) (m2:List BeD × Int × Unit→Ds [.sl Be,It,It]→Nat) (a:List BeD) (h:VC.holds (nb106 L F M I mu I2 m2 a)):Holds (vcET L F M [] [107] (Db106 (ab106 L I mu I2 m2)) (Rb106 M) a ()):=Holds.of_eq (by kernel_rfl) h
def nb106n (L:Lv) (F:BxF) (M:BeF) (I:List BeD × Unit→Ds [It]→Prop) (mu:List BeD × Unit→Ds [It]→Nat) (I2:List BeD × Int × Unit→Ds [.sl Be,It,It]→Prop) (m2:List BeD × Int × Unit→Ds [.sl Be,It,It]→Nat)  : VC :=
 VC.br (Lv.cmp L BinOp.lss 0 2) (VC.ok (BeF.compB M [] = [])) (VC.obl (St.mk 66 [(0,V.c C.nils),(1,V.c (C.fn 107 [])),(5,V.c (C.int IntKind.i64 1))] [(0,Ob.amb)] 1 = St.mk 66
  [(0,V.c C.nils),(1,V.c (C.fn 107 [])),(5,V.c (C.int IntKind.i64 1))] [(0,Ob.amb)] 1) (VC.obl (I ([],()) (1,())) (VC.all (Int × Unit) fun (v1:Int × Unit)=>VC.imp (I
  ([],()) v1) (VC.br (Lv.cmp L BinOp.lss (Prod.fst v1) 0) VC.bad (VC.ok (BeF.compB M [] = []))))))
theorem nb106n_go (L:Lv) (F:BxF) (M:BeF) (I:List BeD × Unit→Ds [It]→Prop) (mu:List BeD × Unit→Ds [It]→Nat) (I2:List BeD × Int × Unit→Ds [.sl Be,It,It]→Prop) (m2:List BeD × Int × Unit→Ds [.sl Be,It,It]→Nat) (h:VC.holds (nb106n L F M I mu I2 m2)):Holds (vcETn L F M [] [107] (Db106 (ab106 L I mu I2 m2)) (Rb106 M) ()):=Holds.of_eq (by kernel_rfl) h
def pushB (l:List BeD) (x:BeD):List BeD:=if l.getLast? = some x then l else l ++ [x]
def compBL (l:List BeD):List BeD:=l.foldl pushB []
theorem compBL_snoc (l:List BeD) (x:BeD):compBL (l ++ [x]) = pushB (compBL l) x:=by unfold compBL; rw [List.foldl_append]; rfl
theorem pushB_last (l:List BeD) (x:BeD):(pushB l x).getLast? = some x:=by
 unfold pushB; split
 ·assumption
 ·simp
theorem compBL_last (l:List BeD):(compBL l).getLast? = l.getLast?:=by
 rcases List.eq_nil_or_concat l with rfl | ⟨q,x,rfl⟩
 ·rfl
 ·rw [List.concat_eq_append,compBL_snoc,pushB_last]; simp
theorem compBL_step (l:List BeD) (k:Nat) (h:k < l.length) (h1:0 < k):compBL (l.take (k + 1)) = if l[k - 1]'(by omega) = l[k] then compBL (l.take k) else compBL (l.take k) ++ [l[k]]:=by
 have hk:(l.take k).length = k:=by rw [List.length_take]; omega
 have hk1:k - 1 < l.length:=by omega
 have e:(l.take k).getLast? = some l[k - 1]:=by
  rw [List.getLast?_eq_getElem?,hk,List.getElem?_take,List.getElem?_eq_getElem hk1]
  exact if_pos (by omega)
 have e2:l.take (k + 1) = l.take k ++ [l[k]]:=by rw [List.take_succ,List.getElem?_eq_getElem h]; rfl
 rw [e2,compBL_snoc]
 unfold pushB
 rw [compBL_last,e]
 simp only [Option.some.injEq]
theorem compBL_lt2 (a:List BeD) (h:a.length < 2):compBL a = a:=by
 match a,h with
 | [],_=>rfl
 | [x],_=>rfl
theorem okb106 (F:BxF) (M:BeF) (h:M.compB = compBL) (h1:M.same = fun a b=>decide (a = b)) (q:M.bE = bEF) (q1:M.bEs = bEsF) (k1:SpecOk prog 107 (Sb107 M)):XOk prog 106 (Rb106 M).x:=by
 let I:List BeD × Unit→Int × Unit→Prop:=fun e x=>(1≤x.1∧x.1≤e.1.length)∧compBL (e.1.take x.1.toNat) = e.1.take x.1.toNat
 let mu:List BeD × Unit→Int × Unit→Nat:=fun e x=>(e.1.length - x.1).toNat
 let I2:List BeD × Int × Unit→List BeD × Int × Int × Unit→Prop:=fun e x=>(1≤x.2.2.1∧e.2.1 + x.2.2.1≤e.1.length)∧(1≤e.2.1∧e.2.1≤x.2.1∧x.2.1 < e.2.1 + x.2.2.1)∧x.1.length = e.1.length∧x.1.take x.2.1.toNat = compBL (e.1.take (e.2.1 + x.2.2.1).toNat)∧∀ q:Nat,e.2.1 + x.2.2.1 - 1≤q→x.1[q]? = e.1[q]?
 let m2:List BeD × Int × Unit→List BeD × Int × Int × Unit→Nat:=fun e x=>(e.1.length - x.2.2.1).toNat
 refine turnX_ok hm hE 4 (fns:=only (tabO [] (eT F M)) [107]) (Zs (Za (Yh k1 (by kernel_rfl)) Z4)) (fnokb106 (ab106 Lv.std I mu I2 m2)) (fnokb106 (ab106 Lv.std I mu I2 m2)) (Rb106 M) (fun (a:List BeD) (z:Unit) hpre=>?_) (fun (z:Unit) hpre=>?_)
 ·have hpre':M.bEs a:=hpre
  rw [q1] at hpre'
  obtain ⟨g1,g2⟩:=hpre'
  refine nb106_go Lv.std F M I mu I2 m2 a ?_
  simp only [nb106,VC.holds,ZJ,ZO,Zb,Zh,Zm,Yj,Ym,Z5,ZM,Yl,Yk,Yf,ZX,ZY,ZT,ZR,Ye,ZN,Zz,ZD,Zr,Z1,ZS,Z2,ZK,ZW,Yb,ZV,ZP,ZQ,Zt,ZH,Ya,Z3,ZI,Yd,Yc,Z6,Z7,Zg,ZC,ZL,ZU,Z8,Z9,Zd,Ze,ZA,ZB,Zu,Zv,Zx,Zy,Zk,Zl,Zp,Zq,Zi,Zj,Zn,Zo,ZG,ZF,ZZ,Yg,ZE,h,h1,q,List.length_set,and_true,true_and]
  refine ⟨fun h0=>?_,fun h2=>⟨⟨⟨Int.le_refl 1,by show (1:Int)≤a.length; omega⟩,?_⟩,?_⟩⟩
  ·rw [List.take_length]; exact (compBL_lt2 a (by omega)).symm
  ·show compBL (a.take 1) = a.take 1
   exact compBL_lt2 _ (by rw [List.length_take]; omega)
  rintro ⟨k,⟨⟩⟩ ⟨⟨i1,i2⟩,i3⟩
  have i1:(1:Int)≤k:=i1
  have i2:k≤(a.length:Int):=i2
  have i3:compBL (a.take k.toNat) = a.take k.toNat:=i3
  obtain ⟨n,rfl⟩:=Yq (x:=k) (by omega)
  rw [Int.toNat_natCast] at i3
  have w1:IntKind.i64.wrap ((n:Int) - 1) = ((n - 1:Nat):Int):=by rw [Yn (by omega) (by omega)]; omega
  simp only [w1,Int.toNat_natCast]
  refine ⟨fun hlt=>?_,fun hge=>?_⟩
  ·have hn:n < a.length:=by omega
   have hn1:n - 1 < a.length:=by omega
   simp only [List.getElem?_eq_getElem hn,List.getElem?_eq_getElem hn1,Option.getD_some]
   have hs:=compBL_step a n hn (by omega)
   refine ⟨⟨by omega,hlt⟩,hn,⟨by omega,by omega⟩,hn1,g2 _ (List.getElem_mem hn),fun he=>?_,fun he=>?_⟩
   ·have he':a[n] = a[n - 1]:=of_decide_eq_true he
    rw [if_pos he'.symm,i3] at hs
    refine ⟨⟨by omega,by omega,Int.le_refl _⟩,⟨⟨Int.le_refl 1,by show (n:Int) + 1≤a.length; omega⟩,⟨by show (1:Int)≤n; omega,Int.le_refl _,by show (n:Int) < n + 1; omega⟩,rfl,?_,fun q hq=>rfl⟩,?_⟩
    ·show a.take (n:Int).toNat = compBL (a.take ((n:Int) + 1).toNat)
     rw [Int.toNat_natCast,show ((n:Int) + 1).toNat = n + 1 by omega,hs]
    rintro ⟨l,i,j,⟨⟩⟩ ⟨⟨j1,j2⟩,⟨j3,j4,j5⟩,j6,j7,j8⟩
    have t1:(1:Int)≤j:=j1
    have t2:(n:Int) + j≤a.length:=j2
    have t3:(1:Int)≤n:=j3
    have t4:(n:Int)≤i:=j4
    have t5:i < (n:Int) + j:=j5
    have t6:l.length = a.length:=j6
    have t7:l.take i.toNat = compBL (a.take ((n:Int) + j).toNat):=j7
    have t8:∀ q:Nat,(n:Int) + j - 1≤q→l[q]? = a[q]?:=j8
    clear j1 j2 j3 j4 j5 j6 j7 j8
    obtain ⟨m,rfl⟩:=Yq (x:=j) (by omega)
    obtain ⟨p,rfl⟩:=Yq (x:=i) (by omega)
    have w2:IntKind.i64.wrap ((m:Int) - 1) = ((m - 1:Nat):Int):=by rw [Yn (by omega) (by omega)]; omega
    have w3:IntKind.i64.wrap ((m:Int) + 1) = ((m + 1:Nat):Int):=by rw [Yn (by omega) (by omega)]; omega
    have w4:IntKind.i64.wrap ((p:Int) + 1) = ((p + 1:Nat):Int):=by rw [Yn (by omega) (by omega)]; omega
    rw [Int.toNat_natCast,show ((n:Int) + m).toNat = n + m by omega] at t7
    simp only [w2,w3,w4,Int.toNat_natCast,t6]
    have mlt:∀ u v,m2 (a,(n:Int),()) (u,v,((m + 1:Nat):Int),()) < m2 (a,(n:Int),()) (l,(p:Int),(m:Int),()):=fun u v=>by show ((a.length:Int) - ((m + 1:Nat):Int)).toNat < ((a.length:Int) - (m:Int)).toNat; omega
    refine ⟨fun hlt2=>?_,fun hge2=>?_⟩
    ·have hm:n + m < a.length:=by omega
     have hm1:n + (m - 1) < a.length:=by omega
     have e1:l[n + m]? = some a[n + m]:=by rw [t8 (n + m) (by omega)]; exact List.getElem?_eq_getElem hm
     have e2:l[n + (m - 1)]? = some a[n + (m - 1)]:=by rw [t8 (n + (m - 1)) (by omega)]; exact List.getElem?_eq_getElem hm1
     simp only [e1,e2,Option.getD_some]
     have hs2:=compBL_step a (n + m) hm (by omega)
     simp only [show n + m - 1 = n + (m - 1) by omega] at hs2
     have e5:(((n:Int) + ((m + 1:Nat):Int)).toNat) = n + m + 1:=by omega
     refine ⟨⟨by omega,hlt2⟩,by omega,⟨by omega,by omega⟩,by omega,g2 _ (List.getElem_mem hm),fun he2=>⟨?_,mlt _ _⟩,fun he2=>⟨⟨by omega,hlt2⟩,by omega,⟨by omega,by omega⟩,by omega,?_,mlt _ _⟩⟩
     ·have he2':a[n + m] = a[n + (m - 1)]:=of_decide_eq_true he2
      rw [if_pos he2'.symm] at hs2
      refine ⟨⟨by show (1:Int)≤((m + 1:Nat):Int); omega,by show (n:Int) + ((m + 1:Nat):Int)≤a.length; omega⟩,⟨t3,t4,by show (p:Int) < n + ((m + 1:Nat):Int); omega⟩,t6,?_,fun q hq=>t8 q (by have hq:(n:Int) + ((m + 1:Nat):Int) - 1≤q:=hq; omega)⟩
      show l.take (p:Int).toNat = compBL (a.take ((n:Int) + ((m + 1:Nat):Int)).toNat)
      rw [Int.toNat_natCast,e5,hs2,t7]
     ·have he2':¬ a[n + m] = a[n + (m - 1)]:=of_decide_eq_false he2
      rw [if_neg (fun e=>he2' e.symm)] at hs2
      refine ⟨⟨by show (1:Int)≤((m + 1:Nat):Int); omega,by show (n:Int) + ((m + 1:Nat):Int)≤a.length; omega⟩,⟨t3,by show (n:Int)≤((p + 1:Nat):Int); omega,by show ((p + 1:Nat):Int) < n + ((m + 1:Nat):Int); omega⟩,by show (l.set p a[n + m]).length = a.length; rw [List.length_set,t6],?_,fun q hq=>?_⟩
      ·show (l.set p a[n + m]).take ((p + 1:Nat):Int).toNat = compBL (a.take ((n:Int) + ((m + 1:Nat):Int)).toNat)
       rw [Int.toNat_natCast,e5,hs2,← t7,List.take_succ,List.getElem?_set_self (by omega),List.take_set,List.set_eq_of_length_le (by rw [List.length_take]; omega)]
       rfl
      ·have hq:(n:Int) + ((m + 1:Nat):Int) - 1≤q:=hq
       show (l.set p a[n + m])[q]? = a[q]?
       rw [List.getElem?_set_ne (by omega)]
       exact t8 q (by omega)
    ·have hnm:n + m = a.length:=by omega
     refine ⟨⟨by omega,by omega,Int.le_refl _⟩,⟨by omega,by omega⟩,⟨Int.le_refl _,by omega,by omega⟩,?_⟩
     rw [List.take_append_of_le_length (by rw [List.length_take]; omega),List.take_take,Nat.min_self,t7,hnm,List.take_length]
   ·have he':¬ a[n] = a[n - 1]:=of_decide_eq_false he
    rw [wr hlt g1]
    refine ⟨⟨⟨by show (1:Int)≤((n + 1:Nat):Int); omega,by show ((n + 1:Nat):Int)≤a.length; omega⟩,?_⟩,by show ((a.length:Int) - ((n + 1:Nat):Int)).toNat < ((a.length:Int) - (n:Int)).toNat; omega⟩
    show compBL (a.take ((n + 1:Nat):Int).toNat) = a.take ((n + 1:Nat):Int).toNat
    rw [Int.toNat_natCast,hs,if_neg (fun e=>he' e.symm),i3,List.take_succ,List.getElem?_eq_getElem hn]
    rfl
  ·rw [show n = a.length by omega,List.take_length] at i3
   rw [List.take_length]; exact i3.symm
 ·refine nb106n_go Lv.std F M I mu I2 m2 ?_
  simp only [nb106n,VC.holds,ZJ,ZO,Zb,Zh,Zm,Yj,Ym,Z5,ZM,Yl,Yk,Yf,ZX,ZY,ZT,ZR,Ye,ZN,Zz,ZD,Zr,Z1,ZS,Z2,ZK,ZW,Yb,ZV,ZP,ZQ,Zt,ZH,Ya,Z3,ZI,Yd,Yc,Z6,Z7,Zg,ZC,ZL,ZU,Z8,Z9,Zd,Ze,ZA,ZB,Zu,Zv,Zx,Zy,Zk,Zl,Zp,Zq,Zi,Zj,Zn,Zo,ZG,ZF,ZZ,Yg,ZE,h,h1,q,Prod.mk.injEq,and_true,true_and]
  exact ⟨fun _=>rfl,fun h=>absurd h (by decide)⟩
end Go.Proofs.Tryz
