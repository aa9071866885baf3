/- A condition generator over the model's code, proved sound: what a function's body must come to is told as conditions on plain data. Conditions: none of ours. -/
import Derived.Test.YtljepnnnjfalcaaGreatC1
import Derived.Laws.CopyRow
import Derived.Laws.BytesString
import Derived.MapKept
import Derived.OrdersIn
import Derived.RangeFuncCalls
import Derived.RangeFuncLeaves
set_option autoImplicit false
set_option linter.all false
namespace Go.VM
open Go Go.Lib
theorem putL_get {α:Type} {l xs:List α} {o:Nat} (hl:o + xs.length≤l.length) (i:Nat) :
  (putL l o xs)[i]? = if i < o then l[i]? else if i < o + xs.length then xs[i - o]? else l[i]?:=by
 have ht:(l.take o).length = o:=by rw [List.length_take]; omega
 unfold putL
 by_cases h1:i < o
 ·rw [if_pos h1,List.append_assoc,List.getElem?_append_left (by omega),List.getElem?_take,if_pos h1]
 ·rw [if_neg h1,List.append_assoc,List.getElem?_append_right (by omega),ht]
  by_cases h2:i < o + xs.length
  ·rw [if_pos h2,List.getElem?_append_left (by omega)]
  ·rw [if_neg h2,List.getElem?_append_right (by omega),List.getElem?_drop]
   congr 1; omega
section
variable {P:Program} {E:Ev} {φ:Phi} {w:World} {hp:Hp} {f:Nat}
theorem Xj {w':World} {v:Value} {run:Result Value} (h:HRel φ hp f w) {g id:Nat} {o:Ob} {p:Place} (ho:lookA hp id = some o) (hpl:φ id = some p) (hS:p.S g) (ht:Turned w w' g)
  (kill:List Nat) (o':Ob) (hr:run = .ok v w') (hn:Orel φ (okb φ (setA (delAll hp kill) id o')) w' id o'):FRok φ hp w f (.upd id o' kill) run :=
 ⟨v,w',hr,h.upd ho hpl hS ht kill o' hn,Y6 ho hpl hS ht kill o'⟩
theorem Yr (w:World) (g:Nat) (cs:Array Value):Turned w (w.setRow g cs) g :=
 ⟨rfl,rfl,rfl,by simp [World.setRow],fun k hk=>setRow_other w g k _ hk⟩
theorem Xo {t:TypeId} {i:TI} (h:TIok P t i) (g o:Nat) (tt:TypeId) (cur:Array Value) (hg:w.heap[g]? = some (.cells cur tt (0,0))) (v:Value) (hsz:v.cells.toList.length = i.size)
  (hfit:o + i.size≤cur.size) (h1:∀ u ∈ v.cells.toList,u.oneCell' = true) :
  (Instr.storeAt t (.pointer (some ⟨g,o,none⟩)) v).run P w = .ok () (w.setRow g (putL cur.toList o v.cells.toList).toArray):=by
 have hst:=run_storeCells_at P g o tt v.cells.toList 0 cur w hg (by omega) h1
 have hs:v.cells.size = i.size:=by rw [← Array.length_toList]; exact hsz
 simp only [Nat.add_zero] at hst
 simp [Instr.storeAt,Instr.sureAddr,storeVar,YB h,hs,hst,putL]
theorem crel_one {ok:Nat→Prop} {x:C} {v:Value} (h:Crel φ ok w x v) (hk:knownV (.c x) = true):v.oneCell' = true:=by
 cases x <;> simp only [knownV,Bool.false_eq_true] at hk <;> simp only [Crel] at h
 case int=>rw [h]; rfl
 case bool=>rw [h]; rfl
 case sym=>rw [h]; rfl
 case str=>rw [h]; rfl
 case sl =>
  obtain ⟨A,c,h1,_⟩:=h
  simp only [List.cons.injEq,and_true] at h1
  rw [h1]; rfl
 case nils=>rw [h]; rfl
 case own=>rcases h with ⟨_,_,_,rfl⟩ | ⟨_,_,_,_,_,_,rfl⟩ <;> rfl
 case ptr=>obtain ⟨_,_,_,_,_,rfl⟩:=h; rfl
 case elp=>obtain ⟨_,_,_,_,_,rfl⟩:=h; rfl
 case nilp=>rw [h]; rfl
 case fn=>obtain ⟨_,rfl,_⟩:=h; rfl
 case nilf=>rw [h]; rfl
 case map=>obtain ⟨_,_,_,_,_,rfl⟩:=h; rfl
 case nilm=>rw [h]; rfl
 case ifn=>rw [h]; rfl
 case ife=>rw [h]; rfl
 case ifo=>obtain ⟨_,_,rfl⟩:=h; rfl
 case selfp=>rcases h with rfl | ⟨_,_,_,_,_,rfl⟩ <;> rfl
 case owa=>rcases h with ⟨_,_,_,rfl⟩ | ⟨_,_,_,_,_,_,rfl⟩ <;> rfl
 case yld=>rw [h]; rfl
theorem crel_ones {ok:Nat→Prop}:∀ {cs:List C} {vs:List Value} (_:L2 (Crel φ ok w) cs vs) (_:knownCs cs = true),∀ u ∈ vs,u.oneCell' = true
 | [],[],_,_=>by simp
 | x :: cs,v :: vs,h,hk=>by
   simp only [knownCs,Bool.and_eq_true] at hk
   intro u hu
   rcases List.mem_cons.1 hu with rfl | hu
   ·exact crel_one h.1 hk.1
   ·exact crel_ones h.2 hk.2 u hu
 | [],_ :: _,h,_ | _ :: _,[],h,_=>h.elim
theorem Xl {e:Ty} {l:List e.D} {arr:Array Value} {cap j off:Nat} {xs:List Value} (h3:arr.size = cap * e.n) (h4:List.length (α:=e.D) l≤cap) (hj:j < List.length (α:=e.D) l) (hle:off + xs.length≤e.n) :
  (putL arr.toList (j * e.n + off) xs).toArray.size = cap * e.n ∧
  (∀ q i,q ≠ j→i < e.n→(putL arr.toList (j * e.n + off) xs).toArray[q * e.n + i]? = arr[q * e.n + i]?) ∧
  ∀ i,i < e.n→(putL arr.toList (j * e.n + off) xs).toArray[j * e.n + i]? = if i < off then arr[j * e.n + i]? else if i < off + xs.length then xs[i - off]? else arr[j * e.n + i]?:=by
 have hmul:j * e.n + e.n≤cap * e.n:=by rw [← Nat.succ_mul]; exact Nat.mul_le_mul_right _ (by omega)
 have hl:j * e.n + off + xs.length≤arr.toList.length:=by have:=Array.length_toList (xs:=arr); omega
 refine ⟨?_,fun q i hq hi=>?_,fun i hi=>?_⟩
 ·rw [List.size_toArray,YL _ _ _ hl,Array.length_toList,h3]
 ·rw [List.getElem?_toArray,putL_get hl]
  by_cases h1:q < j
  ·have:q * e.n + e.n≤j * e.n:=by rw [← Nat.succ_mul]; exact Nat.mul_le_mul_right _ h1
   rw [if_pos (by omega),Array.getElem?_toList]
  ·have:j * e.n + e.n≤q * e.n:=by rw [← Nat.succ_mul]; exact Nat.mul_le_mul_right _ (by omega)
   rw [if_neg (by omega),if_neg (by omega),Array.getElem?_toList]
 ·rw [List.getElem?_toArray,putL_get hl,Array.getElem?_toList]
  by_cases h1:i < off
  ·rw [if_pos (by omega),if_pos h1]
  ·rw [if_neg (by omega),if_neg h1]
   by_cases h2:i < off + xs.length
   ·rw [if_pos (by omega),if_pos h2]; congr 1; omega
   ·rw [if_neg (by omega),if_neg h2]
theorem put_cells {old xs:List Value} {off i:Nat} {u:Value} (hle:off + xs.length≤old.length) (hu:(putL old off xs)[i]? = some u) :
  (if i < off then old[i]? else if i < off + xs.length then xs[i - off]? else old[i]?) = some u:=by
 rwa [putL_get hle] at hu
theorem store_ok (hE:∀ t i,E t = some i→TIok P t i) (hh:HRel φ hp f w) (t:TypeId) (a x:V) (va vx:Value) (ha:Vrel φ (okb φ hp) w a va) (hx:Vrel φ (okb φ hp) w x vx) {v0:Value} :
  FRok φ hp w f (fstore Lv.std E (lookA hp) t a x) ((do Instr.storeAt t va vx; pure v0:Sem Value).run P w):=by
 unfold fstore
 cases hi:E t with
 | none=>exact trivial
 | some i =>
   have hI:=hE t i hi
   simp only
   split
   ·rename_i hc
    simp only [Bool.and_eq_true] at hc
    have hsz:=Yt hc.2
    have hcr:=XK hx hc.1.1
    have hlen:=YW hcr
    have hvl:vx.cells.toList.length = i.size:=by rw [← hlen,hsz]
    have h1:=crel_ones hcr hc.1.2
    split
    ·rename_i id off
     cases ho:lookA hp id with
     | none=>exact trivial
     | some o =>
       cases o with
       | box tt cs =>
         simp only
         split
         ·rename_i hle
          have hle':=Nat.le_of_ble_eq_true hle
          obtain ⟨b,sz,cap,nn,g1,rfl⟩:=ha
          obtain ⟨b',vs,g2,g3,g4⟩:=hh.ob id _ ho
          rw [g1] at g2; cases g2
          have hl4:=YW g4
          have hr:=Xo (P:=P) (w:=w) hI b off tt vs.toArray g3 vx hvl (by rw [List.size_toArray]; omega) h1
          have ev:=Y6 ho g1 (show (Place.at b 1 0 0).S b from rfl) (Yr w b (putL vs.toArray.toList off vx.cells.toList).toArray) [] (.box tt (putL cs off x.cells))
          refine Xj hh ho g1 rfl (Yr w b _) [] _ (v:=v0) (YJ hr) ?_
          refine ⟨b,putL vs off vx.cells.toList,g1,setRow_heap w b _ _ tt _ g3,Yo (fun _ _ h=>ev.C h) (L2_put g4 hcr off)⟩
         ·exact trivial
       | row t' e l=>exact trivial
       | rowf t' e l q cs=>exact trivial
       | map k' v' l=>exact trivial
       | mapc l=>exact trivial
       | amb=>exact trivial
    ·rename_i id j off
     cases ho:lookA hp id with
     | none=>exact trivial
     | some o =>
       cases o with
       | box tt cs=>exact trivial
       | row tt e l =>
         simp only
         split
         ·rename_i hle
          have hle':=Nat.le_of_ble_eq_true hle
          split
          ·intro hlt
           have hlt':j < List.length (α:=e.D) l:=hlt
           obtain ⟨b,sz,cap,nn,g1,rfl⟩:=ha
           rcases hh.ob id _ ho with ⟨g2,_⟩ | ⟨b',cap',arr,g2,g3,g4,g5,g6⟩
           ·rw [g1] at g2; cases g2
           ·rw [g1] at g2; cases g2
            obtain ⟨y,hy⟩:∃ y,l[j]? = some y:=⟨_,List.getElem?_eq_getElem hlt'⟩
            have hg:Lv.std.get e l j = y:=by show (l[j]?).getD e.dflt = y; rw [hy]; rfl
            rw [hg]
            obtain ⟨vs,hk,hvs⟩:=g6 j y hy
            have hkl:=Xz e y vs hk
            have hmul:j * e.n + e.n≤cap * e.n:=by rw [← Nat.succ_mul]; exact Nat.mul_le_mul_right _ (by omega)
            have hr:=Xo (P:=P) (w:=w) hI b (j * e.n + off) tt arr g3 vx hvl (by rw [g4]; omega) h1
            obtain ⟨s1,s2,s3⟩:=Xl (off:=off) (xs:=vx.cells.toList) g4 g5 hlt' (by omega)
            have ev:=Y6 ho g1 (show (Place.at b e.n cap (List.length (α:=e.D) l)).S b from rfl) (Yr w b (putL arr.toList (j * e.n + off) vx.cells.toList).toArray) [] (.rowf tt e l j (putL (expl e y) off x.cells))
            refine Xj hh ho g1 rfl (Yr w b _) [] _ (v:=v0) (YJ hr) ?_
            have hex:=YU (φ:=φ) e y vs hk
            have hexl:=YW hex
            refine ⟨b,cap,_,g1,setRow_heap w b _ _ tt _ g3,s1,g5,fun q z hq hz=>?_,hlt',?_,putL vs off vx.cells.toList,Yo (fun _ _ h=>ev.C h) (L2_put hex hcr off),fun q u hu=>?_⟩
            ·obtain ⟨us,q1,q2⟩:=g6 q z hz
             refine ⟨us,ev.K _ _ _ q1,fun q' u hu=>?_⟩
             rw [s2 q q' hq (by rw [← Xz e z us q1]; exact (List.getElem?_eq_some_iff.1 hu).1)]
             exact q2 q' u hu
            ·rw [YL _ _ _ (by omega)]; omega
            ·have hq:q < e.n:=by
              have:=(List.getElem?_eq_some_iff.1 hu).1
              rw [YL _ _ _ (by omega)] at this; omega
             rw [s3 q hq]
             have:=put_cells (by omega) hu
             split
             ·rename_i h0; rw [if_pos h0] at this; exact hvs q u this
             ·rename_i h0
              rw [if_neg h0] at this
              split
              ·rename_i h00; rwa [if_pos h00] at this
              ·rename_i h00; rw [if_neg h00] at this; exact hvs q u this
          ·split
           ·rename_i y' ids hvw
            split
            ·exact trivial
            ·rename_i hnc
             intro hlt
             have hlt':j < List.length (α:=e.D) l:=hlt
             obtain ⟨b,sz,cap,nn,g1,rfl⟩:=ha
             rcases hh.ob id _ ho with ⟨g2,_⟩ | ⟨b',cap',arr,g2,g3,g4,g5,g6⟩
             ·rw [g1] at g2; cases g2
             ·rw [g1] at g2; cases g2
              obtain ⟨y,hy⟩:∃ y,l[j]? = some y:=⟨_,List.getElem?_eq_getElem hlt'⟩
              have hg:Lv.std.get e l j = y:=by show (l[j]?).getD e.dflt = y; rw [hy]; rfl
              rw [hg] at hvw
              obtain ⟨vs,hk,hvs⟩:=g6 j y hy
              have hkl:=Xz e y vs hk
              have hmul:j * e.n + e.n≤cap * e.n:=by rw [← Nat.succ_mul]; exact Nat.mul_le_mul_right _ (by omega)
              have hr:=Xo (P:=P) (w:=w) hI b (j * e.n + off) tt arr g3 vx hvl (by rw [g4]; omega) h1
              obtain ⟨s1,s2,s3⟩:=Xl (off:=off) (xs:=vx.cells.toList) g4 g5 hlt' (by omega)
              have hex:=YU (φ:=φ) e y vs hk
              obtain ⟨va,vb,e1,hva,hvb⟩:=Xn hh e _ _ y' [] ids hvw (L2_put hex hcr off)
              have:vb = []:=by
               cases vb with
               | nil=>rfl
               | cons _ _=>exact hvb.elim
              subst this
              rw [List.append_nil] at e1
              have hnid:id ∉ ids:=by simpa using hnc
              have hll:List.length (α:=e.D) (Lv.std.setl e l j y') = List.length (α:=e.D) l:=List.length_set
              have ev:=Y6 ho g1 (show (Place.at b e.n cap (List.length (α:=e.D) l)).S b from rfl) (Yr w b (putL arr.toList (j * e.n + off) vx.cells.toList).toArray) ids (.row tt e (Lv.std.setl e l j y'))
              refine Xj hh ho g1 rfl (Yr w b _) ids _ (v:=v0) (YJ hr) ?_
              refine .inr ⟨b,cap,_,by rw [hll]; exact g1,setRow_heap w b _ _ tt _ g3,s1,by rw [hll]; exact g5,fun q z hz=>?_⟩
              change (List.set l j y')[q]? = some z at hz
              by_cases hq:q = j
              ·subst hq
               rw [List.getElem?_set_self hlt'] at hz
               cases hz
               refine ⟨va,?_,fun q' u hu=>?_⟩
               ·refine YI (fun c hc _=>⟨?_,?_⟩) e _ _ hva
                ·refine (Yr w b _).bl c fun e=>?_
                 subst e
                 refine hc id (.row tt e l) _ ?_ g1 rfl
                 rw [Z0,if_neg hnid]; exact ho
                ·intro i o p k1 k2 k3
                 rcases Xh ho k1 with ⟨rfl,rfl⟩ | ⟨_,k4,k5⟩
                 ·refine hc i (.row tt e l) _ ?_ k2 k3
                  rw [Z0,if_neg hnid]; exact ho
                 ·refine hc i o p ?_ k2 k3
                  rw [Z0,if_neg k4]; exact k5
               ·rw [← e1] at hu
                have hq':q' < e.n:=by
                 have:=(List.getElem?_eq_some_iff.1 hu).1
                 rw [YL _ _ _ (by omega)] at this; omega
                rw [s3 q' hq']
                have:=put_cells (by omega) hu
                split
                ·rename_i h0; rw [if_pos h0] at this; exact hvs q' u this
                ·rename_i h0
                 rw [if_neg h0] at this
                 split
                 ·rename_i h00; rwa [if_pos h00] at this
                 ·rename_i h00; rw [if_neg h00] at this; exact hvs q' u this
              ·rw [List.getElem?_set_ne (fun e=>hq e.symm)] at hz
               obtain ⟨us,q1,q2⟩:=g6 q z hz
               refine ⟨us,ev.K _ _ _ q1,fun q' u hu=>?_⟩
               rw [s2 q q' hq (by rw [← Xz e z us q1]; exact (List.getElem?_eq_some_iff.1 hu).1)]
               exact q2 q' u hu
           ·exact trivial
         ·exact trivial
       | rowf tt e l q0 cs =>
         simp only
         split
         ·rename_i hle
          have hle':=Nat.le_of_ble_eq_true hle
          intro hq0
          subst hq0
          obtain ⟨b,sz,cap,nn,g1,rfl⟩:=ha
          obtain ⟨b',cap',arr,g2,g3,g4,g5,g6,g7,g8,vs,g9,g10⟩:=hh.ob id _ ho
          rw [g1] at g2; cases g2
          have hkl:=YW g9
          have hmul:j * e.n + e.n≤cap * e.n:=by rw [← Nat.succ_mul]; exact Nat.mul_le_mul_right _ (by omega)
          have hr:=Xo (P:=P) (w:=w) hI b (j * e.n + off) tt arr g3 vx hvl (by rw [g4]; omega) h1
          obtain ⟨s1,s2,s3⟩:=Xl (off:=off) (xs:=vx.cells.toList) g4 g5 g7 (by omega)
          have ev:=Y6 ho g1 (show (Place.at b e.n cap (List.length (α:=e.D) l)).S b from rfl) (Yr w b (putL arr.toList (j * e.n + off) vx.cells.toList).toArray) [] (.rowf tt e l j (putL cs off x.cells))
          refine Xj hh ho g1 rfl (Yr w b _) [] _ (v:=v0) (YJ hr) ?_
          refine ⟨b,cap,_,g1,setRow_heap w b _ _ tt _ g3,s1,g5,fun q z hq hz=>?_,g7,?_,putL vs off vx.cells.toList,Yo (fun _ _ h=>ev.C h) (L2_put g9 hcr off),fun q u hu=>?_⟩
          ·obtain ⟨us,q1,q2⟩:=g6 q z hq hz
           refine ⟨us,ev.K _ _ _ q1,fun q' u hu=>?_⟩
           rw [s2 q q' hq (by rw [← Xz e z us q1]; exact (List.getElem?_eq_some_iff.1 hu).1)]
           exact q2 q' u hu
          ·rw [YL _ _ _ (by omega)]; omega
          ·have hq:q < e.n:=by
            have:=(List.getElem?_eq_some_iff.1 hu).1
            rw [YL _ _ _ (by omega)] at this; omega
           rw [s3 q hq]
           have:=put_cells (by omega) hu
           split
           ·rename_i h0; rw [if_pos h0] at this; exact g10 q u this
           ·rename_i h0
            rw [if_neg h0] at this
            split
            ·rename_i h00; rwa [if_pos h00] at this
            ·rename_i h00; rw [if_neg h00] at this; exact g10 q u this
         ·exact trivial
       | map k' v' l=>exact trivial
       | mapc l=>exact trivial
       | amb=>exact trivial
    ·exact trivial
   ·exact trivial
end
end Go.VM
namespace Go.VM
open Go Go.Lib
section
variable {P:Program} {E:Ev} {φ:Phi} {w:World} {hp:Hp} {f:Nat}
theorem convert_int {src dst:TypeId} {d:TypeDesc} {k k':IntKind} {n:Int} (hs:P.underlying src = some d) (hd:P.underlying dst = some (.int k)) :
  (convert src dst (.int k' n)).run P w = .ok (.int k (k.wrap n)) w:=by
 simp [convert,Yi hs,Yi hd,Conv.intToInt]
theorem convert_str {src dst:TypeId} {d:TypeDesc} {s:ByteArray} (hs:P.underlying src = some d) (hd:P.underlying dst = some .string) :
  (convert src dst (.string s)).run P w = .ok (.string s) w:=by
 simp [convert,Yi hs,Yi hd]
theorem push_str (l:List Int):∀ r:ByteArray,l.foldl (fun r n=>r.push (UInt8.ofNat n.toNat)) r = r ++ strOfL l:=by
 induction l with
 | nil =>
   intro r
   apply ByteArray.ext
   simp [strOfL,ByteArray.data_append]
 | cons n l ih =>
   intro r
   simp only [List.foldl_cons,ih]
   apply ByteArray.ext
   simp [strOfL,ByteArray.data_append,ByteArray.push]
theorem convert_bytes {src dst e:TypeId} {l:List Int} {v:Value} (hs:P.underlying src = some (.slice e)) (hd:P.underlying dst = some .string) (he:P.underlying e = some (.int .u8))
  {ok:Nat→Prop} {news:List Value} (hsrc:Src ok w (.int .u8) l news) (hn:∀ w':World,w'.heap = w.heap→(Builtin.firstCells 1 (List.length l) v).run P w' = .ok news.toArray w') (hv:∃ A c,v = .slice A (List.length l) c) :
  (convert src dst v).run P w = .ok (.string (strOfL l)) w:=by
 obtain ⟨A,c,rfl⟩:=hv
 have hnews:news = l.map (Value.int .u8):=by
  obtain ⟨h1,_,h3⟩:=hsrc
  have h1':news.length = l.length:=by rw [h1]; show List.length l * 1 = _; omega
  refine List.ext_getElem? fun j=>?_
  rw [List.getElem?_map]
  cases hj:l[j]? with
  | none =>
    have:l.length≤j:=by simpa using hj
    simp; omega
  | some x =>
    obtain ⟨vs,q1,q2⟩:=h3 j x hj
    obtain rfl:vs = [.int .u8 x]:=q1
    have:=q2 0 _ rfl
    simpa [Ty.n] using this
 have hf:=hn w rfl
 cases A with
 | none =>
   have hl:l = []:=by
    simp [Builtin.firstCells] at hf
    rw [hnews] at hf
    cases l with
    | nil=>rfl
    | cons _ _=>simp at hf
   subst hl
   simp [convert,Yi hs,Yi hd,Yi he,Conv.bytesToString,strOfL]
   rfl
 | some a =>
   simp [Builtin.firstCells] at hf
   rw [hnews] at hf
   have:=run_bytesToString (P:=P) w a l.length c l hf
   simp [convert,Yi hs,Yi hd,Yi he,this,push_str]
theorem any_u8 (hE:∀ t i,E t = some i→TIok P t i) {e:TypeId} (h:(E e).any (fun i=>decide (i.kd = .int .u8)) = true):P.underlying e = some (.int .u8):=by
 cases hi:E e with
 | none=>rw [hi] at h; cases h
 | some i =>
   rw [hi] at h
   have hk:i.kd = .int .u8:=by simpa using h
   have:=(hE e i hi).und
   rw [hk] at this
   exact this
theorem und_some {t:TypeId} {i:TI} (h:TIok P t i):∃ d,P.underlying t = some d:=by
 have hu:=h.und
 cases hk:i.kd <;> rw [hk] at hu <;> simp only at hu <;> first
  | exact ⟨_,hu⟩
  | (obtain ⟨a,h1,_⟩:=hu; exact ⟨_,h1⟩)
  | (obtain ⟨a,b,c,h1⟩:=hu; exact ⟨_,h1⟩)
theorem convert_ok (hE:∀ t i,E t = some i→TIok P t i) (hh:HRel φ hp f w) (src dst:TypeId) (x:V) (v:Value) (hx:Vrel φ (okb φ hp) w x v) :
  FRok φ hp w f (fconvert Lv.std E (lookA hp) src dst x) ((convert src dst v).run P w):=by
 unfold fconvert
 split
 ·rename_i si d k n h1 h2
  have hd:=(hE _ _ h2).und
  obtain ⟨ds,hs⟩:=und_some (hE _ _ h1)
  obtain rfl:v = _:=hx
  split
  ·rename_i k' hk
   rw [hk] at hd
   exact Zf hh (convert_int hs hd) rfl
  ·exact trivial
 ·rename_i si d s h1 h2
  have hd:=(hE _ _ h2).und
  obtain ⟨ds,hs⟩:=und_some (hE _ _ h1)
  obtain rfl:v = _:=hx
  split
  ·rename_i hk
   rw [hk] at hd
   exact Zf hh (convert_str hs hd) rfl
  ·exact trivial
 ·rename_i s d l h1 h2
  have hd:=(hE _ _ h2).und
  have hs:=(hE _ _ h1).und
  split
  ·rename_i e hk1 hk2
   rw [hk1] at hs
   rw [hk2] at hd
   split
   ·rename_i hu
    obtain ⟨news,q1,q2,q3⟩:=K_src (P:=P) hx
    obtain ⟨A,c,g1,_⟩:=hx
    exact Zf hh (convert_bytes hs hd (any_u8 hE hu) q1 q3 ⟨A,c,by simpa using g1⟩) rfl
   ·exact trivial
  ·exact trivial
 ·rename_i s d id len h1 h2
  have hd:=(hE _ _ h2).und
  have hs:=(hE _ _ h1).und
  split
  ·rename_i e hk1 hk2
   rw [hk1] at hs
   rw [hk2] at hd
   split
   ·rename_i hu
    split
    ·rename_i t l ho
     obtain ⟨news,q1,q2,q3,q4,q5⟩:=own_src (P:=P) hh ho hx
     have q2':List.length (List.take len l:List Int) = len:=q2
     refine Zf hh (convert_bytes (l:=(List.take len l:List Int)) hs hd (any_u8 hE hu) q1 (fun w' hw'=>?_) ?_) rfl
     ·rw [q2']; exact q4 w' hw'
     ·rw [q2']
      rcases q5 with ⟨_,rfl,⟨A,rfl⟩,_⟩ | ⟨b,cap,arr,_,rfl,_⟩
      ·exact ⟨A,0,rfl⟩
      ·exact ⟨_,cap,rfl⟩
    ·exact trivial
   ·exact trivial
  ·exact trivial
 ·exact trivial
theorem ptrIds_ok {ok:Nat→Prop}:∀ (l:List V) (vs:List Value) (ids:List Nat),L2 (Vrel φ ok w) l vs→ptrIds l = some ids→L2 (fun id u=>isPtr φ id 0 u) ids vs
 | [],[],ids,_,h=>by cases h; exact trivial
 | x :: l,v :: vs,ids,hl,h=>by
   unfold ptrIds at h
   split at h
   ·rename_i heq; cases heq
   ·rename_i id r heq
    cases heq
    cases hr:ptrIds l with
    | none=>rw [hr] at h; cases h
    | some ids' =>
      rw [hr] at h
      cases h
      exact ⟨hl.1,ptrIds_ok l vs ids' hl.2 hr⟩
   ·cases h
 | [],_ :: _,_,hl,_ | _ :: _,[],_,hl,_=>hl.elim
theorem makeFunc_ok (hh:HRel φ hp f w) (fn:Fn) (first caps:List V) (vf vc:List Value) (hf:L2 (Vrel φ (okb φ hp) w) first vf) (hc:L2 (Vrel φ (okb φ hp) w) caps vc) :
  FRok φ hp w f (fmakeFunc fn first caps) ((Instr.makeFunc fn vf.toArray vc.toArray).run P w):=by
 unfold fmakeFunc
 split
 ·rename_i g ids hids
  have:vf = []:=by
   cases vf with
   | nil=>rfl
   | cons _ _=>exact hf.elim
  subst this
  exact Zf hh (v:=.func (.func g) #[] vc.toArray) (by simp [Instr.makeFunc]) ⟨vc,rfl,ptrIds_ok caps vc ids hc hids⟩
 ·exact trivial
theorem extract_ok (hh:HRel φ hp f w) (x:V) (i:Nat) (v:Value) (hx:Vrel φ (okb φ hp) w x v):FRok φ hp w f (fextract x i) ((Instr.extract v i).run P w):=by
 unfold fextract
 split
 ·rename_i l
  cases hi:l[i]? with
  | none=>exact trivial
  | some p =>
    obtain ⟨b,cs⟩:=p
    obtain ⟨vs,rfl,hl⟩:=hx
    obtain ⟨u,hu,hr⟩:=L2_get hl hi
    have hr0:(Instr.extract (.tuple vs.toArray) i).run P w = .ok u w:=by simp [Instr.extract,hu]
    unfold tupRel at hr
    simp only at hr
    cases b
    ·simp only [Bool.false_eq_true,if_false] at hr
     obtain ⟨c,rfl,hc⟩:=hr
     exact Zf hh hr0 hc
    ·simp only [if_true] at hr
     obtain ⟨us,rfl,hl'⟩:=hr
     exact Zf hh hr0 ⟨us,rfl,hl'⟩
 ·exact trivial
theorem pick_ok (hh:HRel φ hp f w) (c a b:V) (vc va vb:Value) (hc:Vrel φ (okb φ hp) w c vc) (ha:Vrel φ (okb φ hp) w a va) (hb:Vrel φ (okb φ hp) w b vb) :
  FRok φ hp w f (fpick c a b) ((do pure (if ← asBool vc then va else vb):Sem Value).run P w):=by
 unfold fpick
 split
 ·obtain rfl:vc = .bool true:=hc
  exact Zf hh (by simp [asBool]) ha
 ·obtain rfl:vc = .bool false:=hc
  exact Zf hh (by simp [asBool]) hb
 ·rename_i x
  obtain rfl:vc = .bool x:=hc
  refine ⟨fun h=>?_,fun h=>?_⟩
  ·subst h; exact Zf hh (by simp [asBool]) ha
  ·subst h; exact Zf hh (by simp [asBool]) hb
 ·exact trivial
end
end Go.VM
namespace Go.VM
open Go Go.Lib
section
variable {P:Program} {E:Ev} {φ:Phi} {w:World} {hp:Hp} {f:Nat}
inductive KeyAs (d:TypeDesc):(k:Ty)→k.D→Value→Prop
 | int (q:IntKind) (n:Int) (hd:d = .int q):KeyAs d (.int q) n (.int q n)
 | str (s:ByteArray) (hd:d = .string):KeyAs d .str s (.string s)
theorem key_as (hE:∀ t i,E t = some i→TIok P t i) {kt:TypeId} {k:Ty} (h:keyOk E kt k = true):∃ d,P.underlying kt = some d∧∀ (ok:Nat→Prop) (w:World) (x:k.D) (v:Value),K ok w k x [v]→KeyAs d k x v:=by
 unfold keyOk at h
 split at h
 ·rename_i q
  obtain ⟨i,hI,hk⟩:=isKd_ok hE h
  have hu:=hI.und
  rw [hk] at hu
  refine ⟨_,hu,fun ok w x v hx=>?_⟩
  simp only [K,List.cons.injEq,and_true] at hx
  subst hx; exact .int q x rfl
 ·obtain ⟨i,hI,hk⟩:=isKd_ok hE h
  have hu:=hI.und
  rw [hk] at hu
  refine ⟨_,hu,fun ok w x v hx=>?_⟩
  simp only [K,List.cons.injEq,and_true] at hx
  subst hx; exact .str x rfl
 ·cases h
theorem KeyAs.same {d:TypeDesc} {k:Ty} {x y:k.D} {u v:Value} (h1:KeyAs d k x u) (h2:KeyAs d k y v):Instr.sameNow d u v = some (keq k x y):=by
 cases h1 with
 | int q n hd=>cases h2 with | int _ m _=>subst hd; simp [Instr.sameNow,keq]
 | str s hd=>cases h2 with | str t _=>subst hd; simp [Instr.sameNow,keq]
theorem ba_eq {a b:ByteArray} (h:(a == b) = true):a = b:=ByteArray.ext (eq_of_beq h)
theorem ba_self (a:ByteArray):(a == a) = true:=by show (a.data == a.data) = true; simp
theorem ba_bits {a b:ByteArray} (h:keq .str a b = true) (n:Nat):Instr.sameBits n (.string b) (.string a) = true:=by
 have:=ba_eq h
 subst this
 cases n <;> exact ba_self _
theorem KeyAs.bits {d:TypeDesc} {k:Ty} {x y:k.D} {u v:Value} (h1:KeyAs d k x u) (h2:KeyAs d k y v) (h:keq k x y = true):∀ n,Instr.sameBits n v u = true:=by
 intro n
 cases h1 with
 | int q n hd=>cases h2 with | int _ m _=>simp only [keq,beq_iff_eq] at h; subst h; simp [Instr.sameBits]
 | str s hd=>cases h2 with | str t _=>exact ba_bits h n
theorem KeyAs.check {d:TypeDesc} {k:Ty} {x:k.D} {u:Value} {kt:TypeId} (hk:P.underlying kt = some d) (h:KeyAs d k x u) (b:Bool):(Instr.checkKey b 10000 kt u).run P w = .ok () w:=by
 show (Instr.checkKey b (9999 + 1) kt u).run P w = .ok () w
 unfold Instr.checkKey
 simp only [Sem.run_bind,Yi hk,Result.andThen_ok]
 cases h with
 | int q n hd=>subst hd; rfl
 | str s hd=>subst hd; rfl
theorem KeyAs.refl {d:TypeDesc} {k:Ty} {x:k.D} {u:Value} (h:KeyAs d k x u):KeyAs d k x u:=h
theorem find_ok {ok:Nat→Prop} {d:TypeDesc} {k v:Ty} {x:k.D} {u:Value} (hx:KeyAs d k x u) (hk:∀ (y:k.D) (c:Value),K ok w k y [c]→KeyAs d k y c) (y0:v.D) :
  ∀ (l:List (k.D × v.D)) (es:List MapEntry) (i:Nat),L2 (fun (p:k.D × v.D) (e:MapEntry)=>K ok w k p.1 [e.key]∧K ok w v p.2 [e.val]) l es →
    (mhasL k v l x = false∧mvalL k v l x = v.dflt∧mputL k v l x y0 = l ++ [(x,y0)]∧Instr.findNow d u es i = some none) ∨
    ∃ j p e,mhasL k v l x = true∧mvalL k v l x = p.2∧l[j]? = some p∧es[j]? = some e∧keq k x p.1 = true∧mputL k v l x y0 = l.set j (x,y0)∧Instr.findNow d u es i = some (some (i + j,e.val))
 | [],[],i,_=>.inl ⟨rfl,rfl,rfl,rfl⟩
 | p :: l,e :: es,i,h=>by
   have hs:=hx.same (hk _ _ h.1.1)
   by_cases hq:keq k x p.1 = true
   ·refine .inr ⟨0,p,e,?_,?_,rfl,rfl,hq,?_,?_⟩
    ·simp [mhasL,hq]
    ·simp [mvalL,hq]
    ·simp [mputL,hq]
    ·simp [Instr.findNow,hs,hq]
   ·have hq':keq k x p.1 = false:=by simpa using hq
    rcases find_ok hx hk y0 l es (i + 1) h.2 with ⟨h1,h2,h3,h4⟩ | ⟨j,p',e',h1,h2,h3,h4,h5,h6,h7⟩
    ·refine .inl ⟨?_,?_,?_,?_⟩
     ·simp [mhasL,hq'] at h1 ⊢; exact h1
     ·simp [mvalL,hq',h2]
     ·simp [mputL,hq',h3]
     ·simp [Instr.findNow,hs,hq',h4]
    ·refine .inr ⟨j + 1,p',e',?_,?_,by simpa using h3,by simpa using h4,h5,?_,?_⟩
     ·simp [mhasL,hq'] at h1 ⊢; exact h1
     ·simp [mvalL,hq',h2]
     ·simp [mputL,hq',h6]
     ·simp [Instr.findNow,hs,hq',h7]; omega
 | [],_ :: _,_,h | _ :: _,[],_,h=>h.elim
theorem mapOf_ok (hE:∀ t i,E t = some i→TIok P t i) {t kt et:TypeId} (h:mapOf E t = some (kt,et)):P.underlying t = some (.map kt et):=by
 unfold mapOf at h
 cases hi:E t with
 | none=>rw [hi] at h; cases h
 | some i =>
   rw [hi] at h
   simp only at h
   cases hk:i.kd <;> rw [hk] at h <;> simp only at h <;> try cases h
   have hu:=(hE t i hi).und
   rw [hk] at hu
   exact hu
theorem Y8 {g:Nat} {o:Obj} (hg:g < w.heap.size):Turned w { w with heap:=w.heap.setIfInBounds g o } g :=
 ⟨rfl,rfl,rfl,by simp,fun k hk=>by simp [Array.getElem?_setIfInBounds,Ne.symm hk]⟩
theorem heap_obj {g:Nat} {o:Obj} (hg:g < w.heap.size):({ w with heap:=w.heap.setIfInBounds g o }:World).heap[g]? = some o:=by
 simp [Array.getElem?_setIfInBounds,hg]
theorem L2_modify {α β:Type} {R:α→β→Prop} {a:α} {g:β→β}:∀ {l:List α} {m:List β} (j:Nat),L2 R l m→(∀ b,m[j]? = some b→R a (g b))→L2 R (l.set j a) (m.modify j g)
 | [],[],_,_,_=>by simp; exact trivial
 | _ :: _,b :: _,0,h,hr=>⟨hr b rfl,h.2⟩
 | _ :: _,_ :: _,j + 1,h,hr=>⟨h.1,L2_modify j h.2 (fun b hb=>hr b (by simpa using hb))⟩
 | [],_ :: _,_,h,_ | _ :: _,[],_,h,_=>h.elim
theorem run_mapUpdate {t kt et:TypeId} {d:TypeDesc} (ht:P.underlying t = some (.map kt et)) (hk:P.underlying kt = some d) {b:Nat} {es:Array MapEntry} {clock:Nat} (hb:w.heap[b]? = some (.map es clock)) {u val:Value}
  (hc:(Instr.checkKey false 10000 kt u).run P w = .ok () w) :
  (Instr.findNow d u es.toList 0 = some none→(Instr.mapUpdate t (.map (some b)) u val).run P w = .ok () { w with heap:=w.heap.setIfInBounds b (.map (es.push { key:=u,val:=val,born:=clock }) (clock + 1)) }) ∧
  (∀ j e,Instr.findNow d u es.toList 0 = some (some (j,e.val))→es[j]? = some e→(∀ n,Instr.sameBits n e.key u = true) →
   (Instr.mapUpdate t (.map (some b)) u val).run P w = .ok () { w with heap:=w.heap.setIfInBounds b (.map (es.modify j fun e=>{ e with key:=u,val:=val }) clock) }):=by
 refine ⟨fun hf=>?_,fun j e hf hj hs=>?_⟩
 ·simp [Instr.mapUpdate,Yi ht,MapKept.run_getObj_map hb,hc,Instr.findKey,Yi hk,hf,MapKept.run_setObj_map _ hb]
 ·simp [Instr.mapUpdate,Yi ht,MapKept.run_getObj_map hb,hc,Instr.findKey,Yi hk,hf,hj,Instr.keyThatStays,hs,MapKept.run_setObj_map _ hb]
theorem view_one (hh:HRel φ hp f w) {t:Ty} {c:C} {x:t.D} {v:Value} (h:view Lv.std (lookA hp) t [c] = some (x,[],[])) (hv:Crel φ (okb φ hp) w c v):K (okb φ hp) w t x [v]:=by
 obtain ⟨v1,v2,e,h1,h2⟩:=Xn hh t [c] [v] x [] [] h ⟨hv,trivial⟩
 have:v2 = []:=by
  cases v2 with
  | nil=>rfl
  | cons _ _=>exact h2.elim
 subst this
 rw [List.append_nil] at e
 rw [e]; exact h1
theorem mapc_none {ok:Nat→Prop} (k:IntKind) (n:Int):∀ (l:List (C × C)) (es:List MapEntry) (i:Nat),L2 (fun (p:C × C) (e:MapEntry)=>Crel φ ok w p.1 e.key∧Crel φ ok w p.2 e.val) l es→keysK k l = true→neKeys Lv.std n l →
  Instr.findNow (.int k) (.int k n) es i = some none
 | [],[],_,_,_,_=>rfl
 | (.int k' m,x) :: l,e :: es,i,h,hk,hn=>by
   simp only [keysK,Bool.and_eq_true,decide_eq_true_eq] at hk
   obtain ⟨rfl,hk⟩:=hk
   have hkey:e.key = .int k' m:=h.1.1
   have hne:(n == m) = false:=hn.1
   simp [Instr.findNow,hkey,Instr.sameNow,hne,mapc_none k' n l es (i + 1) h.2 hk hn.2]
 | [],_ :: _,_,h,_,_ | _ :: _,[],_,h,_,_=>h.elim
def lookRes (z:Value) (ok:Bool):Option (Nat × Value)→Value
 | some (_,v)=>if ok then .tuple #[v,.bool true] else v
 | none=>if ok then .tuple #[z,.bool false] else z
theorem one_cells {v:Value} (h:v.oneCell' = true):v.cells = #[v]:=by
 cases v <;> first
  | rfl
  | (simp [Value.oneCell'] at h)
theorem zero_one {t:TypeId} {i:TI} (h:TIok P t i) (ha:i.kd.isAgg = false) {z:Value} (hz:(zeroValue t).run P w = .ok z w):z.cells = #[z]:=by
 obtain ⟨x,hx,_,_,h3⟩:=h.info
 cases hzz:x.zero with
 | none=>simp [hzz] at h3
 | some z' =>
   have:z = z':=by simpa [zeroValue,run_info hx,hzz] using hz.symm
   subst this
   exact one_cells (h.za ha x z hx hzz)
theorem picks_ok (hh:HRel φ hp f w) (ok:Bool) (k:IntKind) (n:Int) (z:Option C) (zv:Value) (hz:∀ c,z = some c→Crel φ (okb φ hp) w c zv) {run:Result Value} :
  ∀ (l:List (C × C)) (es:List MapEntry) (i:Nat),L2 (fun (p:C × C) (e:MapEntry)=>Crel φ (okb φ hp) w p.1 e.key∧Crel φ (okb φ hp) w p.2 e.val) l es →
    (∀ r,Instr.findNow (.int k) (.int k n) es i = some r→run = .ok (lookRes zv ok r) w)→FRok φ hp w f (fpicks Lv.std ok k n z l) run
 | [],[],i,_,hr=>by
   have h:=hr none rfl
   unfold fpicks
   cases hzc:z with
   | none=>exact trivial
   | some c =>
     have hc:=hz c hzc
     cases ok
     ·exact Zf hh h hc
     ·exact Zf hh h ⟨[zv,.bool false],rfl,⟨c,rfl,hc⟩,⟨_,rfl,rfl⟩,trivial⟩
 | (c,x) :: l,e :: es,i,h,hr=>by
   unfold fpicks
   split
   ·rename_i heq; cases heq
   ·rename_i k' m x' r heq
    cases heq
    split
    ·rename_i hk; subst hk
     have hkey:e.key = .int k m:=h.1.1
     refine ⟨fun hc=>?_,fun hc=>?_⟩
     ·have hc':(n == m) = true:=hc
      have h1:=hr (some (i,e.val)) (by simp [Instr.findNow,hkey,Instr.sameNow,hc'])
      cases ok
      ·exact Zf hh h1 h.1.2
      ·exact Zf hh h1 ⟨[e.val,.bool true],rfl,⟨_,rfl,h.1.2⟩,⟨_,rfl,rfl⟩,trivial⟩
     ·have hc':(n == m) = false:=hc
      exact picks_ok hh ok k n z zv hz l es (i + 1) h.2 (fun r hq=>hr r (by simp [Instr.findNow,hkey,Instr.sameNow,hc',hq]))
    ·exact trivial
   ·exact trivial
 | [],_ :: _,_,h,_ | _ :: _,[],_,h,_=>h.elim
theorem run_lookup {t kt et:TypeId} {d:TypeDesc} (ht:P.underlying t = some (.map kt et)) (hk:P.underlying kt = some d) {b:Nat} {es:Array MapEntry} {clock:Nat} (hb:w.heap[b]? = some (.map es clock)) {u z:Value} (ok:Bool)
  (hz:(zeroValue et).run P w = .ok z w) (hc:∀ e,(Instr.checkKey e 10000 kt u).run P w = .ok () w) (r:Option (Nat × Value)) (hf:Instr.findNow d u es.toList 0 = some r) :
  (Instr.lookup t (.map (some b)) u ok).run P w = .ok (lookRes z ok r) w:=by
 cases r with
 | none=>cases ok <;> simp [Instr.lookup,Yi ht,MapKept.run_getObj_map hb,hc,Instr.findKey,Yi hk,hf,hz,lookRes]
 | some p=>obtain ⟨j,v⟩:=p; cases ok <;> simp [Instr.lookup,Yi ht,MapKept.run_getObj_map hb,hc,Instr.findKey,Yi hk,hf,lookRes]
theorem lookup_ok (hE:∀ t i,E t = some i→TIok P t i) (hh:HRel φ hp f w) (t:TypeId) (x i:V) (ok:Bool) (vx vi:Value) (hx:Vrel φ (okb φ hp) w x vx) (hi:Vrel φ (okb φ hp) w i vi) :
  FRok φ hp w f (flookup Lv.std E (lookA hp) t x i ok) ((Instr.lookup t vx vi ok).run P w):=by
 unfold flookup
 cases ht:mapOf E t with
 | none=>exact trivial
 | some p =>
   obtain ⟨kt,et⟩:=p
   have hu:=mapOf_ok hE ht
   simp only
   split
   ·rename_i ie id ix hie
    have hIe:=hE _ _ hie
    obtain ⟨z,hz,hzc⟩:=XG (P:=P) hIe w
    split
    ·rename_i k v l ho
     split
     ·rename_i hc
      simp only [Bool.and_eq_true,decide_eq_true_eq] at hc
      obtain ⟨⟨⟨hc1,hc2⟩,hc3⟩,hc4⟩:=hc
      have hv1:=Yt hc2
      split
      ·rename_i key hvk
       obtain ⟨b,sz,cap,nn,g1,rfl⟩:=hx
       obtain ⟨b',es,clock,g2,g3,g4⟩:=hh.ob id _ ho
       rw [g1] at g2; cases g2
       obtain ⟨d,hd,has⟩:=key_as hE hc1
       have hkk:=view_one hh hvk hi
       have hka:=has _ _ _ _ hkk
       have hzK:K (okb φ hp) w v v.dflt [z]:=by
        have h0:=XF (ok:=okb φ hp) (w:=w) v
        rw [hc4,← hzc] at h0
        have hz1:z.cells = #[z]:=zero_one hIe (by simpa using hc3) hz
        rw [hz1] at h0; exact h0
       have main:∀ (y:v.D) (c:Value) (has:Bool) (run:Result Value),K (okb φ hp) w v y [c]→run = .ok (if ok then .tuple #[c,.bool has] else c) w →
         FRok φ hp w f (if ok then .v (.tup [(false,expl v y),(false,[.sym has])]) else mkV false (expl v y)) run:=by
        intro y c has run hK hr
        have hex:=YU (φ:=φ) v y [c] hK
        cases ok
        ·exact mkV_ok (b:=false) hh hex (v:=c) hr rfl
        ·match hxp:expl v y,hex with
         | [a],hex=>exact Zf hh hr ⟨[c,.bool has],rfl,⟨_,rfl,hex.1⟩,⟨_,rfl,rfl⟩,trivial⟩
         | [],hex=>exact hex.elim
         | _ :: _ :: _,hex=>exact hex.2.elim
       rcases find_ok hka (fun y c=>has _ _ y c) v.dflt l es.toList 0 g4 with ⟨h1,h2,h3,h4⟩ | ⟨j,p,e,h1,h2,h3,h4,h5,h6,h7⟩
       ·have hr:=run_lookup (P:=P) hu hd g3 ok hz (fun e=>hka.check hd e) none h4
        exact main (mvalL k v l key) z (mhasL k v l key) _ (by rw [h2]; exact hzK) (by rw [h1]; exact hr)
       ·obtain ⟨e',he',hR⟩:=L2_get g4 h3
        rw [h4] at he'; cases he'
        have hr:=run_lookup (P:=P) hu hd g3 ok hz (fun e=>hka.check hd e) _ h7
        exact main (mvalL k v l key) e.val (mhasL k v l key) _ (by rw [h2]; exact hR.2) (by rw [h1]; exact hr)
      ·exact trivial
     ·exact trivial
    ·rename_i l ho
     split
     ·rename_i k n
      split
      ·rename_i hc
       obtain ⟨b,sz,cap,nn,g1,rfl⟩:=hx
       obtain ⟨b',es,clock,g2,g3,g4⟩:=hh.ob id _ ho
       rw [g1] at g2; cases g2
       simp only [Bool.and_eq_true] at hc
       obtain ⟨ti,hI,hk⟩:=isKd_ok hE hc.1
       have hd:=hI.und
       rw [hk] at hd
       obtain rfl:vi = .int k n:=hi
       have hka:KeyAs (.int k) (.int k) n (.int k n):=.int k n rfl
       refine picks_ok hh ok k n _ z (fun c hcc=>?_) l es.toList 0 g4 (fun r hf=>run_lookup (P:=P) hu hd g3 ok hz (fun e=>hka.check hd e) r hf)
       split at hcc
       ·rename_i zz hzz
        cases hcc
        have hz1:=zero_one hIe (by simpa using hc.2) hz
        rw [hz1,hzz] at hzc
        have:z = zz.val:=by simpa using hzc
        rw [this]
        exact Z_rel zz
       ·cases hcc
      ·exact trivial
     ·exact trivial
    ·exact trivial
   ·exact trivial
theorem makeMap_ok (hE:∀ t i,E t = some i→TIok P t i) (hh:HRel φ hp f w) (t:TypeId):FRok φ hp w f (fmakeMap E f t) ((Instr.makeMap t none).run P w):=by
 have hr:(Instr.makeMap t none).run P w = .ok (.map (some w.heap.size)) (w.alloc (.map #[] 0)):=by simp [Instr.makeMap,newObj]; rfl
 unfold fmakeMap
 cases ht:mapOf E t with
 | none=>exact trivial
 | some p =>
   simp only
   split
   ·split
    ·refine YK hh [] _ (.at w.heap.size 1 0 0) hr (YV _ _) (fun b hb=>by cases hb; exact Nat.le_refl _) ⟨_,_,_,Zw _ _ _,Y5 _ _,trivial⟩ ⟨_,_,_,_,Zw _ _ _,rfl⟩
    ·refine YK hh [] _ (.at w.heap.size 1 0 0) hr (YV _ _) (fun b hb=>by cases hb; exact Nat.le_refl _) ⟨_,_,_,Zw _ _ _,Y5 _ _,trivial⟩ ⟨_,_,_,_,Zw _ _ _,rfl⟩
   ·exact trivial
theorem mapUpdate_ok (hE:∀ t i,E t = some i→TIok P t i) (hh:HRel φ hp f w) (t:TypeId) (m i x:V) (vm vi vx:Value) (hm:Vrel φ (okb φ hp) w m vm) (hi:Vrel φ (okb φ hp) w i vi) (hx:Vrel φ (okb φ hp) w x vx) {v0:Value} :
  FRok φ hp w f (fmapUpdate Lv.std E (lookA hp) t m i x) ((do Instr.mapUpdate t vm vi vx; pure v0:Sem Value).run P w):=by
 unfold fmapUpdate
 cases ht:mapOf E t with
 | none=>exact trivial
 | some p =>
   obtain ⟨kt,et⟩:=p
   have hu:=mapOf_ok hE ht
   simp only
   split
   ·rename_i id ix x
    split
    ·rename_i k v l ho
     split
     ·rename_i hc
      simp only [Bool.and_eq_true] at hc
      split
      ·rename_i key y hvk hvx
       obtain ⟨b,sz,cap,nn,g1,rfl⟩:=hm
       obtain ⟨b',es,clock,g2,g3,g4⟩:=hh.ob id _ ho
       rw [g1] at g2; cases g2
       obtain ⟨d,hd,has⟩:=key_as hE hc.1.1
       have hkk:=view_one hh hvk hi
       have hkv:=view_one hh hvx hx
       have hka:=has _ _ _ _ hkk
       have hlt:=(Array.getElem?_eq_some_iff.1 g3).1
       obtain ⟨r1,r2⟩:=run_mapUpdate (P:=P) hu hd g3 (u:=vi) (val:=vx) (hka.check hd false)
       have hS:(Place.at b 1 0 0).S b:=rfl
       rcases find_ok hka (fun y c=>has _ _ y c) y l es.toList 0 g4 with ⟨h1,h2,h3,h4⟩ | ⟨j,p,e,h1,h2,h3,h4,h5,h6,h7⟩
       ·have ev:=Y6 ho g1 hS (Y8 (o:=.map (es.push { key:=vi,val:=vx,born:=clock }) (clock + 1)) hlt) [] (.map k v (Lv.std.mput k v l key y))
        refine Xj hh ho g1 hS (Y8 (o:=.map (es.push { key:=vi,val:=vx,born:=clock }) (clock + 1)) hlt) [] _ (v:=v0) (YJ (r1 h4)) ?_
        refine ⟨b,_,_,g1,heap_obj hlt,?_⟩
        show L2 _ (mputL k v l key y) _
        rw [h3,Array.toList_push]
        exact YA (Yo (fun _ _ hh=>⟨ev.K _ _ _ hh.1,ev.K _ _ _ hh.2⟩) g4) ⟨⟨ev.K _ _ _ hkk,ev.K _ _ _ hkv⟩,trivial⟩
       ·have h4':es[j]? = some e:=by rw [← Array.getElem?_toList]; exact h4
        rw [Nat.zero_add] at h7
        obtain ⟨e',he',hR⟩:=L2_get g4 h3
        rw [h4] at he'; cases he'
        have ev:=Y6 ho g1 hS (Y8 (o:=.map (es.modify j fun e=>{ e with key:=vi,val:=vx }) clock) hlt) [] (.map k v (Lv.std.mput k v l key y))
        refine Xj hh ho g1 hS (Y8 (o:=.map (es.modify j fun e=>{ e with key:=vi,val:=vx }) clock) hlt) [] _ (v:=v0) (YJ (r2 j e h7 h4' (fun n=>hka.bits (has _ _ _ _ hR.1) h5 n))) ?_
        refine ⟨b,_,_,g1,heap_obj hlt,?_⟩
        show L2 _ (mputL k v l key y) _
        rw [h6,Array.toList_modify]
        exact L2_modify j (Yo (fun _ _ hh=>⟨ev.K _ _ _ hh.1,ev.K _ _ _ hh.2⟩) g4) (fun e _=>⟨ev.K _ _ _ hkk,ev.K _ _ _ hkv⟩)
      ·exact trivial
     ·exact trivial
    ·rename_i l ho
     split
     ·rename_i k n
      split
      ·rename_i hc
       simp only [Bool.and_eq_true] at hc
       intro hne
       obtain ⟨b,sz,cap,nn,g1,rfl⟩:=hm
       obtain ⟨b',es,clock,g2,g3,g4⟩:=hh.ob id _ ho
       rw [g1] at g2; cases g2
       obtain ⟨ti,hI,hk⟩:=isKd_ok hE hc.1.1
       have hd:=hI.und
       rw [hk] at hd
       have hka:KeyAs (.int k) (.int k) n vi:=by rw [show vi = _ from hi]; exact .int k n rfl
       have hlt:=(Array.getElem?_eq_some_iff.1 g3).1
       obtain ⟨r1,_⟩:=run_mapUpdate (P:=P) hu hd g3 (u:=vi) (val:=vx) (hka.check hd false)
       have hS:(Place.at b 1 0 0).S b:=rfl
       have hf:=mapc_none (φ:=φ) (ok:=okb φ hp) (w:=w) k n l es.toList 0 g4 hc.2 hne
       obtain rfl:vi = .int k n:=hi
       have ev:=Y6 ho g1 hS (Y8 (o:=.map (es.push { key:=.int k n,val:=vx,born:=clock }) (clock + 1)) hlt) [] (.mapc (l ++ [(.int k n,x)]))
       refine Xj hh ho g1 hS (Y8 (o:=.map (es.push { key:=.int k n,val:=vx,born:=clock }) (clock + 1)) hlt) [] _ (v:=v0) (YJ (r1 hf)) ?_
       refine ⟨b,_,_,g1,heap_obj hlt,?_⟩
       rw [Array.toList_push]
       exact YA (Yo (fun _ _ hh=>⟨ev.C hh.1,ev.C hh.2⟩) g4) ⟨⟨ev.C (show Crel φ _ w (.int k n) _ from rfl),ev.C hx⟩,trivial⟩
      ·exact trivial
     ·exact trivial
    ·exact trivial
   ·exact trivial
end
end Go.VM
namespace Go.VM
open Go Go.Lib
variable {B:Nat × Bool}
def fclip (E:Ev) (h:H) (f:Nat) (t:TypeId) (x hi mx:V):FR:=match elemOf E t,hi,mx with
 | some et,.c (.int _ n),.c (.int _ m)=>if decide (n = 0) && decide (m = 0) then match x with
   | .c (.sl e _)=>if Nat.beq e.n (szOf E et) then .new (.c (.own f 0)) [.row et e []] [] else .bad
   | .c (.own id _)=>match h id with
     | some (.row _ e _)=>if Nat.beq e.n (szOf E et) then .new (.c (.own f 0)) [.row et e []] [] else .bad
     | _=>.bad
   | .c .nils=>match E et with
     | some i=>if Nat.beq i.ty.n i.size then .new (.c (.own f 0)) [.row et i.ty []] [] else .bad
     | none=>.bad
   | _=>.bad
  else .bad
 | _,_,_=>.bad
def fclear (L:Lv) (E:Ev) (h:H) (t:TypeId) (x:V):FR:=match elemOf E t with
 | some et=>match E et,x with
   | some i,.c (.owa id off len)=>match h id with
     | some (.row tt e l)=>if q:e = i.ty then (if decide (zeroTy i.ty = i.zero) then .o (L.ltN 0 len∧L.add off len = L.llen e l) (.upd id (.row tt e (L.app e (L.take e l off) (L.rep e len e.dflt))) []) else .bad) else .bad
     | _=>.bad
   | _,_=>.bad
 | none=>.bad
def fbuiltin (L:Lv) (E:Ev) (h:H) (f:Nat) (b:Builtin) (ts:List TypeId) (as:List V):FR:=match b,ts,as with
 | .len,[t],[x]=>flen L E t x
 | .append,[t,tx],[x,y]=>fappend L E h f t tx x y
 | .min,_,[x,y]=>fmin L x y
 | .max,_,[x,y]=>fmax L x y
 | .clear,[t],[x]=>fclear L E h t x
 | _,_,_=>.bad
def opFR (L:Lv) (E:Ev) (h:H) (f:Nat) (ev:Operand→V):Op→FR
 | .move x | .assign x=>.v (ev x)
 | .pick c a b=>fpick (ev c) (ev a) (ev b)
 | .alloc t=>falloc E f t
 | .box t x=>fbox f t (ev x)
 | .build t ps=>fbuild E t (ps.toList.map fun p=>(p.1,ev p.2))
 | .buildSlice t n ps=>fbuildSlice L E h f t n (ps.toList.map fun p=>(p.1,ev p.2))
 | .load t a=>fload L E h t (ev a)
 | .store t a x=>fstore L E h t (ev a) (ev x)
 | .nilCheck x=>fnilCheck (ev x)
 | .binOp op t x y _=>match isNilLit y with
   | true=>fnil E op t (ev x) (ev y)
   | false=>fbin L E op t (ev x) (ev y)
 | .makeInterface t x=>fmki E t (ev x)
 | .unOp op _ x=>funop L op (ev x)
 | .convert s d x=>fconvert L E h s d (ev x)
 | .makeFunc fn first caps=>fmakeFunc fn (first.toList.map ev) (caps.toList.map ev)
 | .makeMap t none=>fmakeMap E f t
 | .makeSlice t l c=>fmakeSlice L E f t (ev l) (ev c)
 | .slice t x lo hi none=>fslice L E h t (ev x) (lo.map ev) (hi.map ev)
 | .slice t x none (some hi) (some mx)=>fclip E h f t (ev x) (ev hi) (ev mx)
 | .fieldAddr s x k=>ffieldAddr E s (ev x) k
 | .field s x k=>ffield E s (ev x) k
 | .indexAddr t x i=>findexAddr L E h t (ev x) (ev i)
 | .index t x i=>findex L E t (ev x) (ev i)
 | .lookup t x i ok=>flookup L E h t (ev x) (ev i) ok
 | .mapUpdate t m k x | .insert t m k x=>fmapUpdate L E h t (ev m) (ev k) (ev x)
 | .extract x i=>fextract (ev x) i
 | .call { callee:=.builtin b,args:=as,argTypes:=ts }=>fbuiltin L E h f b ts.toList (as.toList.map ev)
 | _=>.bad
section
variable {P:Program} {E:Ev} {φ:Phi} {w:World} {hp:Hp} {f:Nat}
theorem absC_ok {ok:Nat→Prop} (v:Value):Crel φ ok w (absC v) v:=by
 unfold absC
 split <;> first
  | rfl
  | trivial
theorem L2_absC {ok:Nat→Prop}:∀ l:List Value,L2 (Crel φ ok w) (l.map absC) l
 | []=>trivial
 | v :: l=>⟨absC_ok v,L2_absC l⟩
theorem absV_ok {ok:Nat→Prop} (v:Value):Vrel φ ok w (absV v) v:=by
 unfold absV
 split
 ·rename_i cs
  exact ⟨cs.toList,by simp,L2_absC cs.toList⟩
 ·exact absC_ok v
theorem Xm {st:St} {a:Act} (hr:Rel B φ st a w) (x:Operand):Vrel φ (okb φ st.hp) w (st.ev x) (a.eval x):=by
 cases x with
 | tmp t =>
   show Vrel _ _ _ (st.look t) _
   unfold St.look
   cases h:lookA st.sl t with
   | none=>exact trivial
   | some v=>exact hr.sl t v h
 | const v=>exact absV_ok v
 | global g=>exact trivial
 | func g=>exact ⟨[],rfl,trivial⟩
theorem evs_ok {st:St} {a:Act} (hr:Rel B φ st a w):∀ xs:List Operand,L2 (Vrel φ (okb φ st.hp) w) (xs.map st.ev) (xs.map a.eval)
 | []=>trivial
 | x :: xs=>⟨Xm hr x,evs_ok hr xs⟩
theorem clip_ok (hE:∀ t i,E t = some i→TIok P t i) (hh:HRel φ hp f w) (t:TypeId) (x hi mx:V) (v vh vm:Value) (hx:Vrel φ (okb φ hp) w x v) (hvh:Vrel φ (okb φ hp) w hi vh) (hvm:Vrel φ (okb φ hp) w mx vm) :
  FRok φ hp w f (fclip E (lookA hp) f t x hi mx) ((Instr.sliceAt t v none (some vh) (some vm)).run P w):=by
 unfold fclip
 split
 ·rename_i et k1 n k2 m he
  split
  ·rename_i hc
   simp only [Bool.and_eq_true,decide_eq_true_eq] at hc
   obtain ⟨rfl,rfl⟩:=hc
   obtain rfl:vh = _:=hvh
   obtain rfl:vm = _:=hvm
   have hu:=Xu hE he
   have main:∀ (e:Ty) (A:Option Addr) (len cap:Nat),v = .slice A len cap→e.n = szOf E et→FRok φ hp w f (.new (.c (.own f 0)) [.row et e []] []) ((Instr.sliceAt t v none (some (.int k1 0)) (some (.int k2 0))).run P w):=by
    intro e A len cap hv hsz
    subst hv
    obtain ⟨ii,hii,hszi,hI⟩:=YP hE (by rw [← hsz]; exact e.n_pos)
    have hs:(sizeOf et).run P w = .ok e.n w:=by rw [YB hI,← hszi,← hsz]
    have hr:(Instr.sliceAt t (.slice A len cap) none (some (.int k1 0)) (some (.int k2 0))).run P w = .ok (.slice A 0 0) w:=by
     simp [Instr.sliceAt,Yi hu,Instr.slice,Instr.sliceBounds,Instr.sliceBound,asIntOf,hs]
    exact YK hh [] _ .nil hr (Go.RowKit.Below.refl _ _) (fun b hb=>hb.elim) (.inl ⟨Zw _ _ _,rfl⟩) (.inl ⟨Zw _ _ _,rfl,A,rfl⟩)
   split
   ·rename_i e l
    split
    ·rename_i hb
     obtain ⟨A,c,h1,_⟩:=hx
     exact main e A _ c (by simpa using h1) (Yt hb)
    ·exact trivial
   ·rename_i id n
    split
    ·rename_i t' e l ho
     split
     ·rename_i hb
      rcases hx with ⟨_,rfl,A,rfl⟩ | ⟨b,sz,cap,nn,_,_,rfl⟩
      ·exact main e A 0 0 rfl (Yt hb)
      ·exact main e _ n cap rfl (Yt hb)
     ·exact trivial
    ·exact trivial
   ·split
    ·rename_i i hi
     split
     ·rename_i hb
      obtain rfl:v = _:=hx
      exact main i.ty none 0 0 rfl (by rw [Yt hb]; simp [szOf,hi])
     ·exact trivial
    ·exact trivial
   ·exact trivial
  ·exact trivial
 ·exact trivial
theorem XA {s:Sem Value} {v:Value} {w':World} (h:s.run P w = .ok v w'):(do pure (.value (← s)):Sem Next).run P w = .ok (.value v) w':=by simp [h]
theorem run_skp {s:Sem Unit} {v:Value} {w':World} (h:(do s; pure undef:Sem Value).run P w = .ok v w'):(do s; pure .skip:Sem Next).run P w = .ok .skip w'∧v = undef:=by
 simp only [Sem.run_bind] at h ⊢
 cases hs:s.run P w with
 | ok u w1 =>
   rw [hs] at h
   simp only [Result.andThen_ok,Sem.run_pure,Result.ok.injEq] at h ⊢
   exact ⟨⟨trivial,h.2⟩,h.1.symm⟩
 | halt x w1=>rw [hs] at h; cases h
def Did (P:Program) (ρ:Operand→Value) (o:Oper) (w:World) (rv:Result Value):Prop :=
 ∀ v w',rv = .ok v w'→(execOp ρ o).run P w = .ok (.value v) w'∨((execOp ρ o).run P w = .ok .skip w'∧v = undef)
theorem Yv {ρ:Operand→Value} {o:Oper} {s:Sem Value} (h:execOp ρ o = (do pure (.value (← s)):Sem Next)):Did P ρ o w (s.run P w):=fun v w' hs=>.inl (by rw [h]; exact XA hs)
theorem did_skp {ρ:Operand→Value} {o:Oper} {s:Sem Unit} (h:execOp ρ o = (do s; pure .skip:Sem Next)):Did P ρ o w ((do s; pure undef:Sem Value).run P w):=fun v w' hs=>.inr (by rw [h]; exact run_skp hs)
theorem L2_evs {ev:Operand→V} {ρ:Operand→Value} (hev:∀ x,Vrel φ (okb φ hp) w (ev x) (ρ x)):∀ xs:List Operand,L2 (Vrel φ (okb φ hp) w) (xs.map ev) (xs.map ρ)
 | []=>trivial
 | x :: xs=>⟨hev x,L2_evs hev xs⟩
theorem L2_evps {ev:Operand→V} {ρ:Operand→Value} (hev:∀ x,Vrel φ (okb φ hp) w (ev x) (ρ x)):∀ xs:List (Nat × Operand),L2 (fun p q=>p.1 = q.1∧Vrel φ (okb φ hp) w p.2 q.2) (xs.map fun p=>(p.1,ev p.2)) (xs.map fun p=>(p.1,ρ p.2))
 | []=>trivial
 | x :: xs=>⟨⟨rfl,hev x.2⟩,L2_evps hev xs⟩
theorem orel_ev {ev:Operand→V} {ρ:Operand→Value} (hev:∀ x,Vrel φ (okb φ hp) w (ev x) (ρ x)) (x:Option Operand):orel φ (okb φ hp) w (x.map ev) (x.map ρ):=by
 cases x with
 | none=>exact trivial
 | some x=>exact hev x
theorem bad_did {r:Result Value} {ρ:Operand→Value} {o:Oper}:∃ rv,FRok φ hp w f .bad rv∧Did P ρ o w rv:=⟨.halt .blocked w,trivial,fun v w' h=>by cases h⟩
theorem Zval_one (z:Z):z.val.oneCell' = true:=by cases z <;> rfl
theorem clear_ok (hE:∀ t i,E t = some i→TIok P t i) (hh:HRel φ hp f w) (t ty:TypeId) (x:V) (v:Value) (hx:Vrel φ (okb φ hp) w x v) :
  FRok φ hp w f (fclear Lv.std E (lookA hp) t x) ((Builtin.clear_ #[t] ty #[v]).run P w):=by
 unfold fclear
 cases he:elemOf E t with
 | none=>exact trivial
 | some et =>
   have hu:=Xu hE he
   simp only
   split
   rotate_left
   ·exact trivial
   rename_i i id off len hi
   have hI:=hE et i hi
   cases ho:lookA hp id with
   | none=>exact trivial
   | some o =>
     cases o with
     | row tt e l =>
       simp only
       split
       rotate_left
       ·exact trivial
       rename_i q
       subst q
       split
       rotate_left
       ·exact trivial
       rename_i hc
       have hz0:zeroTy i.ty = i.zero:=of_decide_eq_true hc
       intro hlen
       obtain ⟨hpos,hlen⟩:0 < len∧off + len = List.length (α:=i.ty.D) l:=hlen
       obtain ⟨ti,hti,hts,htb,htz⟩:=hI.info
       have hne:=hI.ne
       obtain ⟨z,hz,hzc⟩:∃ z,ti.zero = some z∧z.cells.toList = i.zero.map Z.val:=by
        cases h:ti.zero with
        | none=>simp [h] at htz
        | some z=>exact ⟨z,rfl,by simpa [h] using htz⟩
       have hzs:z.cells.size = i.ty.n:=by rw [← Array.length_toList,hzc,List.length_map,← hz0,Xv]
       have hv0:(zeroValue et).run P w = .ok z w:=by simp [zeroValue,typeInfo,hti,hz]
       rcases hx with ⟨h0,_⟩ | ⟨b,sz,cap,nn,g1,hle,rfl⟩
       ·omega
       rcases hh.ob id _ ho with ⟨g2,_⟩ | ⟨b',cap',arr,g2,g3,g4,g5,g6⟩
       ·rw [g1] at g2; cases g2
       rw [g1] at g2; cases g2
       have hzl:(Builtin.zeroCells z.cells len).toList.length = len * i.ty.n:=by
        rw [Array.length_toList]; unfold Builtin.zeroCells; rw [Array.size_map,Array.size_range,hzs]
       have hfit:off * i.ty.n + len * i.ty.n≤arr.size:=by
        rw [← Nat.add_mul,hlen,g4]; exact Nat.mul_le_mul_right _ g5
       have h1:∀ u ∈ (Builtin.zeroCells z.cells len).toList,u.oneCell' = true:=fun u hu=>by
        unfold Builtin.zeroCells at hu
        rw [Array.toList_map] at hu
        obtain ⟨k,hk,rfl⟩:=List.mem_map.1 hu
        have hk':k % z.cells.size < z.cells.size:=Nat.mod_lt _ (by rw [hzs]; exact i.ty.n_pos)
        rw [getElem!_pos z.cells _ hk']
        have hm:z.cells[k % z.cells.size] ∈ z.cells.toList:=by simp
        rw [hzc] at hm
        obtain ⟨y,_,hy⟩:=List.mem_map.1 hm
        rw [← hy]; exact Zval_one y
       have hst:=run_storeCells_at P b (off * i.ty.n) tt (Builtin.zeroCells z.cells len).toList 0 arr w g3 (by rw [hzl]; omega) h1
       have hl0:off * i.ty.n + (Builtin.zeroCells z.cells len).toList.length≤arr.toList.length:=by rw [hzl,Array.length_toList]; exact hfit
       have hrun:(Builtin.clear_ #[t] ty #[.slice (some ⟨b,off * i.ty.n,none⟩) len (cap - off)]).run P w = .ok (.tuple #[]) (w.setRow b (putL arr.toList (off * i.ty.n) (Builtin.zeroCells z.cells len).toList).toArray):=by
        obtain ⟨m,rfl⟩:∃ m,len = m + 1:=⟨len - 1,by omega⟩
        simp only [Nat.add_zero] at hst
        simp [Builtin.clear_,Yi hu,hv0,hst,putL]
       have ev:=Y6 ho g1 (show (Place.at b i.ty.n cap (List.length (α:=i.ty.D) l)).S b from rfl) (Yr w b (putL arr.toList (off * i.ty.n) (Builtin.zeroCells z.cells len).toList).toArray) [] (.row tt i.ty (List.take off l ++ List.replicate len i.ty.dflt))
       refine Xj hh ho g1 rfl (Yr w b _) [] _ hrun ?_
       have hL:List.length (α:=i.ty.D) (List.take off l ++ List.replicate len i.ty.dflt) = List.length (α:=i.ty.D) l:=by
        rw [List.length_append,List.length_take,List.length_replicate]; omega
       refine .inr ⟨b,cap,_,?_,setRow_heap w b _ _ tt _ g3,?_,?_,fun j x hx=>?_⟩
       ·show φ id = some (.at b i.ty.n cap (List.length (α:=i.ty.D) (List.take off l ++ List.replicate len i.ty.dflt)))
        rw [hL]; exact g1
       ·rw [List.size_toArray,YL _ _ _ hl0,Array.length_toList,g4]
       ·show List.length (α:=i.ty.D) (List.take off l ++ List.replicate len i.ty.dflt)≤cap
        rw [hL]; exact g5
       ·change (List.take off l ++ List.replicate len i.ty.dflt)[j]? = some x at hx
        have hto:(List.take off l).length = off:=by rw [List.length_take]; omega
        by_cases hj:j < off
        ·rw [List.getElem?_append_left (by omega),List.getElem?_take,if_pos hj] at hx
         obtain ⟨us,q1,q2⟩:=g6 j x hx
         refine ⟨us,ev.K _ _ _ q1,fun q' u hu=>?_⟩
         have hq:q' < i.ty.n:=by
          have:=(List.getElem?_eq_some_iff.1 hu).1
          rwa [Xz _ _ _ q1] at this
         have:j * i.ty.n + i.ty.n≤off * i.ty.n:=by rw [← Nat.succ_mul]; exact Nat.mul_le_mul_right _ hj
         rw [List.getElem?_toArray,putL_get hl0,if_pos (by omega),Array.getElem?_toList]
         exact q2 q' u hu
        ·rw [List.getElem?_append_right (by omega),hto,List.getElem?_replicate] at hx
         split at hx
         rotate_left
         ·cases hx
         rename_i hjl
         cases hx
         refine ⟨i.zero.map Z.val,by rw [← hz0]; exact XF i.ty,fun q' u hu=>?_⟩
         have hu':z.cells[q']? = some u:=by rw [← Array.getElem?_toList,hzc]; exact hu
         have hq:q' < i.ty.n:=by rw [← hzs]; exact (Array.getElem?_eq_some_iff.1 hu').1
         have e1:j * i.ty.n = off * i.ty.n + (j - off) * i.ty.n:=by rw [← Nat.add_mul]; congr 1; omega
         have:(j - off) * i.ty.n + i.ty.n≤len * i.ty.n:=by rw [← Nat.succ_mul]; exact Nat.mul_le_mul_right _ hjl
         rw [List.getElem?_toArray,putL_get hl0,if_neg (by omega),if_pos (by rw [hzl]; omega),show j * i.ty.n + q' - off * i.ty.n = (j - off) * z.cells.size + q' by rw [hzs]; omega]
         have:=made_get (n:=len) hu' hjl
         rw [Array.getElem?_toList]
         exact this
     | _=>exact trivial
theorem builtin_ok (hE:∀ t i,E t = some i→TIok P t i) (hh:HRel φ hp f w) (b:Builtin) (ts:Array TypeId) (ty:TypeId) (as:List V) (vs:List Value) (hv:L2 (Vrel φ (okb φ hp) w) as vs) :
  ∃ rv,FRok φ hp w f (fbuiltin Lv.std E (lookA hp) f b ts.toList as) rv∧∀ (cs:Array Bool) v w',rv = .ok v w'→(builtin b ts ty cs vs.toArray).run P w = .ok (.value v) w':=by
 have bad:∃ rv,FRok φ hp w f .bad rv∧∀ (cs:Array Bool) v w',rv = .ok v w'→(builtin b ts ty cs vs.toArray).run P w = .ok (.value v) w':=⟨.halt .blocked w,trivial,fun cs v w' h=>by cases h⟩
 unfold fbuiltin
 split
 ·rename_i t x hts
  match vs,hv with
  | [u],hv =>
    have:ts = #[t]:=by apply Array.ext'; simpa using hts
    subst this
    exact ⟨_,len_ok hE hh t ty x u hv.1,fun _ v w' h=>XA h⟩
 ·rename_i t tx x y hts
  match vs,hv with
  | [u,u'],hv =>
    have:ts = #[t,tx]:=by apply Array.ext'; simpa using hts
    subst this
    exact ⟨_,append_ok hE hh t tx ty x y u u' hv.1 hv.2.1,fun _ v w' h=>XA h⟩
 ·rename_i x y
  match vs,hv with
  | [u,u'],hv=>exact ⟨_,min_ok hh ts ty x y u u' hv.1 hv.2.1,fun _ v w' h=>XA h⟩
 ·rename_i x y
  match vs,hv with
  | [u,u'],hv=>exact ⟨_,max_ok hh ts ty x y u u' hv.1 hv.2.1,fun _ v w' h=>XA h⟩
 ·rename_i t x hts
  match vs,hv with
  | [u],hv =>
    have:ts = #[t]:=by apply Array.ext'; simpa using hts
    subst this
    exact ⟨_,clear_ok hE hh t ty x u hv.1,fun _ v w' h=>XA h⟩
 ·exact bad
theorem op_ok (hE:∀ t i,E t = some i→TIok P t i) (hh:HRel φ hp f w) {ev:Operand→V} {ρ:Operand→Value} (hev:∀ x,Vrel φ (okb φ hp) w (ev x) (ρ x)) (o:Oper) :
  ∃ rv,FRok φ hp w f (opFR Lv.std E (lookA hp) f ev o.op) rv∧Did P ρ o w rv:=by
 obtain ⟨dst,op,type,pos,after,guard⟩:=o
 have bad:∃ rv,FRok φ hp w f .bad rv∧Did P ρ ⟨dst,op,type,pos,after,guard⟩ w rv:=bad_did (r:=.halt .blocked w)
 cases op with
 | move x=>exact ⟨.ok (ρ x) w,Zf hh rfl (hev x),fun v w' h=>.inl (by cases h; rfl)⟩
 | assign x=>exact ⟨.ok (ρ x) w,Zf hh rfl (hev x),fun v w' h=>.inl (by cases h; rfl)⟩
 | pick c a b =>
   refine ⟨_,pick_ok (P:=P) hh _ _ _ _ _ _ (hev c) (hev a) (hev b),fun v w' h=>.inl ?_⟩
   have:=XA h
   simpa [execOp] using this
 | alloc t=>exact ⟨_,alloc_ok hE hh t true (.tuple #[]) rfl,Yv rfl⟩
 | box t x=>exact ⟨_,box_ok hh t _ _ (hev x),Yv rfl⟩
 | build t ps =>
   have h:=build_ok (P:=P) (w:=w) hE hh t _ (ps.map fun p=>(p.1,ρ p.2)) (by rw [Array.toList_map]; exact L2_evps hev ps.toList)
   exact ⟨_,h,Yv (by simp only [execOp])⟩
 | buildSlice t n ps =>
   have h:=buildSlice_ok (P:=P) (w:=w) hE hh t n _ (ps.map fun p=>(p.1,ρ p.2)) (by rw [Array.toList_map]; exact L2_evps hev ps.toList)
   exact ⟨_,h,Yv (by simp only [execOp])⟩
 | load t x =>
   have h:=load_ok (P:=P) hE hh t _ _ (hev x)
   exact ⟨_,h,Yv (by simp only [execOp])⟩
 | store t x y =>
   have h:=store_ok (P:=P) (v0:=undef) hE hh t _ _ _ _ (hev x) (hev y)
   exact ⟨_,h,did_skp (by simp only [execOp])⟩
 | nilCheck x =>
   rcases nilCheck_ok (φ:=φ) (w:=w) (hp:=hp) (ev x) (ρ x) (hev x) with h | ⟨h,ad,hv⟩
   ·show ∃ rv,FRok φ hp w f (fnilCheck (ev x)) rv∧_
    rw [h]; exact bad
   ·show ∃ rv,FRok φ hp w f (fnilCheck (ev x)) rv∧_
    rw [h]
    refine ⟨.ok (ρ x) w,Zf hh rfl (hev x),fun v w' hq=>.inl ?_⟩
    cases hq
    simp [execOp,hv]
 | binOp op t x y u =>
   cases e:isNilLit y with
   | true =>
     have hy:y = .const .nilIface:=by
      unfold isNilLit at e
      split at e
      ·rfl
      ·cases e
     subst hy
     exact ⟨_,nil_ok hE hh op t x _ _ _ _ (hev x) (hev _),Yv rfl⟩
   | false =>
     have hfr:opFR Lv.std E (lookA hp) f ev (.binOp op t x y u) = fbin Lv.std E op t (ev x) (ev y):=by
      simp only [opFR,e]
     refine ⟨_,?_,Yv rfl⟩
     rw [hfr]
     exact bin_ok hE hh op t x y _ _ _ _ (hev x) (hev y)
 | makeInterface t x=>exact ⟨_,mki_ok hE hh t _ _ (hev x),Yv rfl⟩
 | unOp op t x=>exact ⟨_,unop_ok hh op _ _ (hev x),Yv rfl⟩
 | convert s d x=>exact ⟨_,convert_ok hE hh s d _ _ (hev x),Yv rfl⟩
 | makeFunc fn first caps =>
   have h:=makeFunc_ok (P:=P) (w:=w) hh fn _ _ _ _ (L2_evs hev first.toList) (L2_evs hev caps.toList)
   refine ⟨_,h,Yv ?_⟩
   have e1:(List.map ρ first.toList).toArray = first.map ρ:=by apply Array.ext'; simp
   have e2:(List.map ρ caps.toList).toArray = caps.map ρ:=by apply Array.ext'; simp
   rw [e1,e2]; rfl
 | makeMap t r =>
   cases r with
   | none=>exact ⟨_,makeMap_ok hE hh t,Yv rfl⟩
   | some _=>exact bad
 | makeSlice t l c=>exact ⟨_,makeSlice_ok hE hh t _ _ _ _ (hev l) (hev c),Yv rfl⟩
 | slice t x lo hi mx =>
   cases mx with
   | none=>exact ⟨_,slice_ok hE hh t _ _ _ _ _ _ (hev x) (orel_ev hev lo) (orel_ev hev hi),Yv rfl⟩
   | some m =>
     cases lo with
     | none =>
       cases hi with
       | none=>exact bad
       | some hh'=>exact ⟨_,clip_ok hE hh t _ _ _ _ _ _ (hev x) (hev hh') (hev m),Yv rfl⟩
     | some _=>cases hi <;> exact bad
 | fieldAddr s x k=>exact ⟨_,fieldAddr_ok hE hh s _ k _ (hev x),Yv rfl⟩
 | field s x k=>exact ⟨_,field_ok hE hh s _ k _ (hev x),Yv rfl⟩
 | indexAddr t x i=>exact ⟨_,indexAddr_ok hE hh t _ _ _ _ (hev x) (hev i),Yv rfl⟩
 | index t x i =>
   have h:=index_ok (P:=P) hE hh t _ _ _ _ (hev x) (hev i)
   exact ⟨_,h,Yv rfl⟩
 | lookup t x i ok =>
   have h:=lookup_ok (P:=P) hE hh t _ _ ok _ _ (hev x) (hev i)
   exact ⟨_,h,Yv rfl⟩
 | mapUpdate t m k x =>
   have h:=mapUpdate_ok (P:=P) (v0:=undef) hE hh t _ _ _ _ _ _ (hev m) (hev k) (hev x)
   exact ⟨_,h,did_skp rfl⟩
 | insert t m k x =>
   have h:=mapUpdate_ok (P:=P) (v0:=undef) hE hh t _ _ _ _ _ _ (hev m) (hev k) (hev x)
   exact ⟨_,h,did_skp rfl⟩
 | extract x i=>exact ⟨_,extract_ok hh _ i _ (hev x),Yv rfl⟩
 | call c =>
   obtain ⟨callee,as,ts⟩:=c
   cases callee with
   | builtin b =>
     obtain ⟨rv,h1,h2⟩:=builtin_ok (P:=P) hE hh b ts type _ _ (L2_evs hev as.toList)
     refine ⟨rv,h1,fun v w' h=>.inl ?_⟩
     have e1:(List.map ρ as.toList).toArray = as.map ρ:=by apply Array.ext'; simp
     rw [e1] at h2
     simp only [execOp,resolve,invoke,Sem.run_bind,Sem.run_pure,Result.andThen_ok]
     exact h2 _ v w' h
   | value _=>exact bad
   | invoke _ _=>exact bad
 | _=>exact bad
end
end Go.VM
namespace Go.VM
open Go Go.Lib
variable {B:Nat × Bool}
def splitB (x:V) (k:V→VC):VC:=match x with
 | .c (.sym b)=>.br b (k (.c (.bool true))) (k (.c (.bool false)))
 | x=>k x
def RB (x x':V):Prop:=x' = x∨∃ b,x = .c (.sym b)∧x' = .c (.bool b)
theorem splitB_ok {x:V} {k:V→VC} (h:(splitB x k).holds):∃ x',RB x x'∧(k x').holds:=by
 unfold splitB at h
 split at h
 ·rename_i b
  cases b
  ·exact ⟨_,.inr ⟨false,rfl,rfl⟩,h.2 rfl⟩
  ·exact ⟨_,.inr ⟨true,rfl,rfl⟩,h.1 rfl⟩
 ·exact ⟨x,.inl rfl,h⟩
theorem RB.rel {x x':V} (h:RB x x') {φ:Phi} {ok:Nat→Prop} {w:World} {v:Value} (hv:Vrel φ ok w x v):Vrel φ ok w x' v:=by
 rcases h with rfl | ⟨b,rfl,rfl⟩
 ·exact hv
 ·exact hv
theorem Good.rb {φ:Phi} {hp:Hp} {w:World} {f:Nat} {x x':V} {news:List Ob} {kill:List Nat} {run:Result Value} (h:RB x x') (hg:Good φ hp w f x news kill run):Good φ hp w f x' news kill run:=by
 obtain ⟨v,w',φ',hp',h1,h2,h3,h4,h5,h6⟩:=hg
 exact ⟨v,w',φ',hp',h1,h2,h3,h4,h.rel h5,h6⟩
def runFR (s:St) (dst:Option Nat) (k:St→VC):FR→VC
 | .v x=>splitB x fun x=>k (s.put dst x)
 | .b c=>.br c (k (s.put dst (.c (.bool true)))) (k (s.put dst (.c (.bool false))))
 | .amb=>.all Bool fun b=>.br b (k (s.put dst (.c (.bool true)))) (k (s.put dst (.c (.bool false))))
 | .br c t f=>.br c (runFR s dst k t) (runFR s dst k f)
 | .o p r=>.obl p (runFR s dst k r)
 | .new x news kill=>k ({ s with hp:=(news.zipIdx.map fun p:Ob × Nat=>(s.nx + p.2,p.1)) ++ delAll s.hp kill,nx:=s.nx + news.length }.put dst x)
 | .upd id o kill=>k ({ s with hp:=setA (delAll s.hp kill) id o }.put dst (.c .un))
 | .bad=>.bad
abbrev CallG:=FuncId→List V→Hp→Nat→(V→Hp→Nat→VC)→VC
def stepOp (L:Lv) (E:Ev) (call:CallG) (o:Oper) (s:St) (k:St→VC):VC:=match o.op with
 | .call { callee:=.value f,args:=as,argTypes:=_ }=>match s.ev f with
   | .c (.fn g caps)=>call g (as.toList.map s.ev ++ caps.map fun id=>.c (.ptr id 0)) s.hp s.nx fun v hp nx=>splitB v fun v=>k ({ s with hp:=hp,nx:=nx }.put o.dst v)
   | _=>.bad
 | op=>runFR s o.dst k (opFR L E (lookA s.hp) s.nx s.ev op)
def guardG (ops:Array Oper) (o:Oper) (s:St) (go skip:VC):VC:=match o.guard with
 | none=>go
 | some (j,want)=>match (ops[j]?).bind (·.dst) with
   | some t=>match s.look t with
     | .c (.bool true)=>if want then go else skip
     | .c (.bool false)=>if want then skip else go
     | .c (.sym b)=>if want then .br b go skip else .br b skip go
     | .c .sk=>skip
     | _=>.bad
   | none=>.bad
def vcgOps (L:Lv) (E:Ev) (call:CallG) (ops:Array Oper):List Oper→St→(St→VC)→VC
 | [],s,k=>k s
 | o :: r,s,k=>guardG ops o s (stepOp L E call o s fun s'=>vcgOps L E call ops r s' k) (vcgOps L E call ops r (s.put o.dst (.c .sk)) k)
section
variable {P:Program} {E:Ev}
def CallOk (P:Program) (call:CallG):Prop:=∀ (g:FuncId) (as:List V) (hp:Hp) (nx:Nat) (k:V→Hp→Nat→VC) (φ:Phi) (w:World) (vs:List Value),
 (call g as hp nx k).holds→HRel φ hp nx w→L2 (Vrel φ (okb φ hp) w) as vs →
 (∃ fn,P.funcs[g]? = some fn∧(fn.name == "runtime.NumGoroutine") = false∧fn.body.isNone = false) ∧
 Calls P g vs.toArray w fun e w'=>∃ v,e = .returned v∧∃ φ' hp' nx' x,(k x hp' nx').holds∧HRel φ' hp' nx' w'∧Evo φ hp w φ' hp' w'∧Vrel φ' (okb φ' hp') w' x v
theorem setSz {α:Type} (a:Array α) (i:Nat) (v:α):(a.setIfInBounds i v).size = a.size:=by simp
theorem put_look (a:Act) (d:Nat) (v:Value) (j:Nat):(a.put (some d) v).tmps.getD j undef = if j = d∧d < a.tmps.size then v else a.tmps.getD j undef:=by
 show (a.tmps.setIfInBounds d v).getD j undef = _
 simp only [Array.getD_eq_getD_getElem?,Array.getElem?_setIfInBounds]
 by_cases h:d = j
 ·subst h
  by_cases hl:d < a.tmps.size
  ·simp [hl]
  ·simp [hl]
 ·have h':¬ (j = d):=fun e=>h e.symm
  simp [h,h']
theorem Rel.put {φ φ':Phi} {s:St} {a:Act} {w w':World} (h:Rel B φ s a w) (hp':Hp) (nx':Nat) (hh:HRel φ' hp' nx' w') (ev:Evo φ s.hp w φ' hp' w') (dst:Option Nat) (x:V) (v:Value) (hx:Vrel φ' (okb φ' hp') w' x v) :
  Rel B φ' ({ s with hp:=hp',nx:=nx' }.put dst x) (a.put dst v) w'∧({ s with hp:=hp',nx:=nx' }.put dst x).hp = hp'∧({ s with hp:=hp',nx:=nx' }.put dst x).n = s.n:=by
 have hV:∀ j y,lookA s.sl j = some y→Vrel φ' (okb φ' hp') w' y (a.tmps.getD j undef):=fun j y hj=>ev.V (h.sl j y hj)
 cases dst with
 | none=>exact ⟨⟨h.sz,Nat.le_trans h.bs ev.size,ev.D h.df,hV,hh.ob,hh.fr,hh.dj⟩,rfl,rfl⟩
 | some d =>
   unfold St.put
   simp only
   split
   ·rename_i hd
    have hd':d < s.n:=Nat.le_of_ble_eq_true hd
    refine ⟨⟨?_,Nat.le_trans h.bs ev.size,ev.D h.df,fun j y hj=>?_,hh.ob,hh.fr,hh.dj⟩,rfl,rfl⟩
    ·show (a.tmps.setIfInBounds d v).size = s.n
     rw [setSz]; exact h.sz
    ·change lookA (setA s.sl d x) j = some y at hj
     rw [Xa] at hj
     rw [put_look]
     split at hj
     ·rename_i e
      cases hj
      rw [if_pos ⟨e,by rw [h.sz]; exact hd'⟩]
      exact hx
     ·rename_i hne
      rw [if_neg (fun e=>hne e.1)]
      exact hV j y hj
   ·rename_i hd
    have hd':¬ d < s.n:=fun h=>hd (Nat.ble_eq_true_of_le h)
    refine ⟨⟨?_,Nat.le_trans h.bs ev.size,ev.D h.df,fun j y hj=>?_,hh.ob,hh.fr,hh.dj⟩,rfl,rfl⟩
    ·show (a.tmps.setIfInBounds d v).size = s.n
     rw [setSz]; exact h.sz
    ·rw [put_look,if_neg (fun e=>hd' (by rw [← h.sz]; exact e.2))]
     exact hV j y hj
end
section
variable {P:Program} {E:Ev}
def Ends (B:Nat × Bool) (φ:Phi) (hp:Hp) (w:World) (n:Nat) (k:St→VC) (a':Act) (w':World):Prop:=∃ φ' s',Rel B φ' s' a' w'∧Evo φ hp w φ' s'.hp w'∧s'.n = n∧(k s').holds
theorem good_ends {φ:Phi} {s:St} {a:Act} {w:World} (hr:Rel B φ s a w) (dst:Option Nat) (k:St→VC) {run:Result Value} {x:V} {news:List Ob} {kill:List Nat}
  (h:(k ({ s with hp:=(news.zipIdx.map fun p:Ob × Nat=>(s.nx + p.2,p.1)) ++ delAll s.hp kill,nx:=s.nx + news.length }.put dst x)).holds) (hg:Good φ s.hp w s.nx x news kill run) :
  ∃ v w',run = .ok v w'∧Ends B φ s.hp w s.n k (a.put dst v) w':=by
 obtain ⟨v,w',φ',hp',h1,rfl,h3,h4,h5,_⟩:=hg
 obtain ⟨q1,q2,q3⟩:=hr.put _ _ h3 h4 dst x v h5
 exact ⟨v,w',h1,φ',_,q1,by rw [q2]; exact h4,q3,h⟩
theorem Xy {φ:Phi} {s:St} {a:Act} {w:World} (hr:Rel B φ s a w) (dst:Option Nat) (k:St→VC) {run:Result Value} {x:V}
  (h:(k (s.put dst x)).holds) (hg:Good φ s.hp w s.nx x [] [] run):∃ v w',run = .ok v w'∧Ends B φ s.hp w s.n k (a.put dst v) w' :=
 good_ends hr dst k (news:=[]) (kill:=[]) h hg
theorem fr_sound {φ:Phi} {s:St} {a:Act} {w:World} (hr:Rel B φ s a w) (dst:Option Nat) (k:St→VC) {run:Result Value} :
  ∀ (r:FR),(runFR s dst k r).holds→FRok φ s.hp w s.nx r run→∃ v w',run = .ok v w'∧Ends B φ s.hp w s.n k (a.put dst v) w'
 | .v x,h,hf=>by
   obtain ⟨x',h1,h2⟩:=splitB_ok h
   exact Xy hr dst k h2 (hf.rb h1)
 | .b c,h,hf=>by
   cases c
   ·exact Xy hr dst k (h.2 rfl) hf
   ·exact Xy hr dst k (h.1 rfl) hf
 | .amb,h,hf=>by
   obtain ⟨c,hf⟩:=hf
   have h:=h c
   cases c
   ·exact Xy hr dst k (h.2 rfl) hf
   ·exact Xy hr dst k (h.1 rfl) hf
 | .br c t f,h,hf=>by
   cases c
   ·exact fr_sound hr dst k f (h.2 rfl) (hf.2 rfl)
   ·exact fr_sound hr dst k t (h.1 rfl) (hf.1 rfl)
 | .o p r,h,hf=>fr_sound hr dst k r h.2 (hf h.1)
 | .new x news kill,h,hf=>good_ends hr dst k h hf
 | .upd id o kill,h,hf=>by
   obtain ⟨v,w',h1,h2,h3⟩:=hf
   obtain ⟨q1,q2,q3⟩:=hr.put _ _ h2 h3 dst (.c .un) v trivial
   exact ⟨v,w',h1,φ,_,q1,by rw [q2]; exact h3,q3,h⟩
 | .bad,h,_=>h.elim
theorem yielded_of {ops:Array Oper} {a:Act} {j t:Nat} (ht:(ops[j]?).bind (·.dst) = some t):(∀ b,a.tmps.getD t undef = .bool b→yielded ops a.tmps j = some b)∧(a.tmps.getD t undef = undef→yielded ops a.tmps j = none):=by
 unfold yielded
 rw [ht]
 simp only [Option.bind_some]
 refine ⟨fun b hb=>?_,fun hb=>?_⟩
 ·rw [Array.getD_eq_getD_getElem?] at hb
  cases h:a.tmps[t]? with
  | none=>rw [h] at hb; cases hb
  | some v=>rw [h] at hb; simp only [Option.getD_some] at hb; subst hb; rfl
 ·rw [Array.getD_eq_getD_getElem?] at hb
  cases h:a.tmps[t]? with
  | none=>rfl
  | some v=>rw [h] at hb; simp only [Option.getD_some] at hb; subst hb; rfl
theorem guard_sound {φ:Phi} {s:St} {a:Act} {w:World} (hr:Rel B φ s a w) (ops:Array Oper) (o:Oper) (go skip:VC) (h:(guardG ops o s go skip).holds) :
  (Region.wanted o (yielded ops a.tmps) = true∧go.holds)∨(Region.wanted o (yielded ops a.tmps) = false∧skip.holds):=by
 unfold guardG at h
 unfold Region.wanted
 cases hg:o.guard with
 | none=>rw [hg] at h; exact .inl ⟨rfl,h⟩
 | some p =>
   obtain ⟨j,want⟩:=p
   rw [hg] at h
   simp only at h ⊢
   split at h
   ·rename_i t ht
    have hy:=yielded_of (ops:=ops) (a:=a) ht
    have hl:∀ v,s.look t = v→Vrel φ (okb φ s.hp) w v (a.tmps.getD t undef):=fun v hv=>by
     have:=Xm hr (.tmp t)
     rw [← hv]; exact this
    split at h
    ·rename_i e
     rw [hy.1 true (hl _ e)]
     cases want
     ·exact .inr ⟨rfl,h⟩
     ·exact .inl ⟨rfl,h⟩
    ·rename_i e
     rw [hy.1 false (hl _ e)]
     cases want
     ·exact .inl ⟨rfl,h⟩
     ·exact .inr ⟨rfl,h⟩
    ·rename_i b e
     rw [hy.1 b (hl _ e)]
     cases want <;> cases b
     ·exact .inl ⟨rfl,h.2 rfl⟩
     ·exact .inr ⟨rfl,h.1 rfl⟩
     ·exact .inr ⟨rfl,h.2 rfl⟩
     ·exact .inl ⟨rfl,h.1 rfl⟩
    ·rename_i e
     rw [hy.2 (hl _ e)]
     exact .inr ⟨rfl,h⟩
    ·exact h.elim
   ·exact h.elim
theorem XL {g:FuncId} {args:Array Value} {fn:Func} {w:World} (hf:P.funcs[g]? = some fn) (h1:(fn.name == "runtime.NumGoroutine") = false) (h2:fn.body.isNone = false) :
  (callFunc g args).run P w = .ok (.enter g args) w:=by
 unfold callFunc
 simp only [Sem.run_bind,program,Sem.run,Result.andThen_ok,hf,h1,h2]
 rfl
theorem L2_ptrs {φ:Phi} {ok:Nat→Prop} {w:World}:∀ (ids:List Nat) (vs:List Value),L2 (fun id u=>isPtr φ id 0 u) ids vs→L2 (Vrel φ ok w) (ids.map fun id=>.c (.ptr id 0)) vs
 | [],[],_=>trivial
 | _ :: ids,_ :: vs,h=>⟨h.1,L2_ptrs ids vs h.2⟩
 | [],_ :: _,h | _ :: _,[],h=>h.elim
inductive FOk:Fence→Prop
 | wide:FOk Fence.wide
 | round (l:Nat):FOk (Fence.wide.inRound l)
section
variable {F:Fence} {m:Nat}
theorem FOk.calls (h:FOk F) {f:FuncId} {args:Array Value} {w:World} {R:Ending→World→Prop} (hc:Calls P f args w R):CallsIn F m P f args w R:=by
 cases h with
 | wide=>exact callsIn_wide.2 hc
 | round l=>exact CallsIn.inRound l (callsIn_wide.2 hc)
theorem FOk.fn (h:FOk F) (f:FuncId):F.fn f:=by cases h <;> trivial
theorem FOk.dp (h:FOk F):F.depth.isSome = true→1≤m:=by cases h <;> exact fun h=>by cases h
end
theorem step_sound {F:Fence} {m:Nat} (hF:FOk F) {call:CallG} (hE:∀ t i,E t = some i→TIok P t i) (hcall:CallOk P call) {φ:Phi} {s:St} {a:Act} {w:World} (hr:Rel B φ s a w) (o:Oper) (k:St→VC) (h:(stepOp Lv.std E call o s k).holds)
  {next:Act→World→Prop} {Q:Exit→Act→World→Prop} (hn:∀ a' w',Ends B φ s.hp w s.n k a' w'→next a' w'):o.wpIn F m P a w next Q:=by
 refine ⟨fun f _=>hF.fn f,?_⟩
 unfold stepOp at h
 split at h
 ·rename_i f as ts ho
  split at h
  ·rename_i g caps hf
   have hv:Vrel φ (okb φ s.hp) w (.c (.fn g caps)) (a.eval f):=by rw [← hf]; exact Xm hr f
   obtain ⟨vs,hv1,hv2⟩:=hv
   obtain ⟨⟨fn,q1,q2,q3⟩,hc⟩:=hcall g _ s.hp s.nx _ φ w (as.toList.map a.eval ++ vs) h hr.h (YA (evs_ok hr as.toList) (L2_ptrs caps vs hv2))
   have e1:(as.toList.map a.eval ++ vs).toArray = as.map a.eval ++ vs.toArray:=by apply Array.ext'; simp
   rw [e1] at hc
   rw [Oper.semAt_eq _ _ _ (fun c e=>by rw [ho] at e; cases e)]
   have hx:(execOp a.eval o).run P w = .ok (.enter g (as.map a.eval ++ vs.toArray)) w:=by
    unfold execOp
    simp only [ho,resolve,Sem.run_bind,hv1,Deferred.ofValue,Sem.run_pure,Result.andThen_ok,invoke,Array.empty_append]
    exact XL q1 q2 q3
   rw [hx,Oper.uponIn_enter]
   refine ⟨hF.dp,hF.calls (hc.mono fun e w' he=>?_)⟩
   obtain ⟨v,rfl,φ',hp',nx',x,k1,k2,k3,k4⟩:=he
   obtain ⟨x',k5,k6⟩:=splitB_ok k1
   obtain ⟨r1,r2,r3⟩:=hr.put hp' nx' k2 k3 o.dst x' v (k5.rel k4)
   exact hn _ _ ⟨φ',_,r1,by rw [r2]; exact k3,r3,k6⟩
  ·exact h.elim
 ·obtain ⟨rv,h1,h2⟩:=op_ok (P:=P) (w:=w) hE hr.h (Xm hr) o
  obtain ⟨v,w',h3,h4⟩:=fr_sound hr o.dst k _ h h1
  rw [Oper.semAt_eq _ _ _ (fun c e=>by rw [e] at h; exact h)]
  rcases h2 v w' h3 with h5 | ⟨h5,rfl⟩
  ·rw [h5]; exact hn _ _ h4
  ·rw [h5]; exact hn _ _ h4
theorem ops_sound {F:Fence} {m:Nat} (hF:FOk F) {call:CallG} (hE:∀ t i,E t = some i→TIok P t i) (hcall:CallOk P call) (ops:Array Oper) {Q:Exit→Act→World→Prop}:∀ (l:List Oper) (ns:List Nat),ns.map (fun i=>ops[i]?) = l.map some →
  ∀ (φ:Phi) (s:St) (a:Act) (w:World) (k:St→VC),(vcgOps Lv.std E call ops l s k).holds→Rel B φ s a w→(∀ a' w',Ends B φ s.hp w s.n k a' w'→Q .normal a' w')→wpOpsIn F m P ops Q ns a w
 | [],[],_,φ,s,a,w,k,h,hr,hQ=>hQ a w ⟨φ,s,hr,Evo.refl _ _ _,rfl,h⟩
 | o :: l,i :: ns,hm,φ,s,a,w,k,h,hr,hQ=>by
   simp only [List.map_cons,List.cons.injEq] at hm
   unfold vcgOps at h
   simp only [wpOpsIn,hm.1]
   rcases guard_sound hr ops o _ _ h with ⟨hw,h⟩ | ⟨hw,h⟩
   ·rw [if_pos hw]
    refine step_sound hF hE hcall hr o _ h fun a' w' he=>?_
    obtain ⟨φ',s',r1,r2,r3,r4⟩:=he
    refine ops_sound hF hE hcall ops l ns hm.2 φ' s' a' w' k r4 r1 fun a2 w2 he2=>hQ a2 w2 ?_
    obtain ⟨φ2,s2,t1,t2,t3,t4⟩:=he2
    exact ⟨φ2,s2,t1,r2.trans t2,t3.trans r3,t4⟩
   ·rw [if_neg (by rw [hw]; simp)]
    obtain ⟨r1,r2,r3⟩:=hr.put s.hp s.nx hr.h (Evo.refl _ _ _) o.dst (.c .sk) undef rfl
    refine ⟨fun f _=>hF.fn f,?_⟩
    refine ops_sound hF hE hcall ops l ns hm.2 φ _ _ w k h r1 fun a2 w2 he2=>hQ a2 w2 ?_
    obtain ⟨φ2,s2,t1,t2,t3,t4⟩:=he2
    exact ⟨φ2,s2,t1,by rw [r2] at t2; exact t2,t3.trans r3,t4⟩
 | [],_ :: _,hm,_,_,_,_,_,_,_,_=>by cases hm
 | _ :: _,[],hm,_,_,_,_,_,_,_,_=>by cases hm
theorem range_get (ops:Array Oper):(List.range ops.size).map (fun i=>ops[i]?) = ops.toList.map some:=by
 refine List.ext_getElem? fun j=>?_
 have e:ops.toList[j]? = ops[j]?:=by simp
 rw [List.getElem?_map,List.getElem?_map,e]
 by_cases h:j < ops.size
 ·rw [List.getElem?_range h,Array.getElem?_eq_getElem h]; simp [h]
 ·have h1:(List.range ops.size)[j]? = none:=by simp; omega
  rw [h1,Array.getElem?_eq_none (by omega)]; rfl
end
end Go.VM
