/- A condition generator over the model's code, proved sound: what a function's body must come to is told as conditions on plain data. Conditions: none of ours. -/
import Derived.Test.YtljepnnnjfalcaaGreatC0
import Derived.Laws.StructEq
import Derived.Lib.IfaceEq
import Derived.Lib.IfaceNeq
import Derived.Laws.MakeOwn
import Derived.Laws.AppendOwn
import Derived.Lib.AppendStr
set_option autoImplicit false
set_option linter.all false
namespace Go.VM
open Go
section
variable {P:Program} {E:Ev} {φ:Phi} {w:World} {hp:Hp} {f:Nat}
theorem K_take {ok:Nat→Prop} {e:Ty} {l:List e.D} {A:Option Addr} {c:Nat} (n m:Nat) (hn:n≤m) (hm:m≤l.length) (h:K ok w (.sl e) l [.slice A (List.length (α:=e.D) l) c]) (A':Option Addr)
  (hA:n < m→A' = A.map (·.add (n * e.n))):K ok w (.sl e) (List.drop (α:=e.D) n (List.take (α:=e.D) m l)) [.slice A' (m - n) (c - n)]:=by
 obtain ⟨A0,c0,h1,h2,h3⟩:=h
 simp only [List.cons.injEq,Value.slice.injEq,and_true,true_and] at h1
 obtain ⟨rfl,rfl⟩:=h1
 have hlen:List.length (α:=e.D) (List.drop (α:=e.D) n (List.take (α:=e.D) m l)) = m - n:=by
  rw [List.length_drop,List.length_take]; omega
 refine ⟨A',c - n,by rw [hlen],by rw [hlen]; omega,fun hp=>?_⟩
 rw [hlen] at hp
 obtain ⟨ad,rfl,hok,hj⟩:=h3 (by omega)
 refine ⟨ad.add (n * e.n),by simpa using hA (by omega),by rw [Xc]; exact hok,fun j x hx=>?_⟩
 rw [List.getElem?_drop,List.getElem?_take] at hx
 split at hx
 ·obtain ⟨vs,hk,hvs⟩:=hj _ _ hx
  refine ⟨vs,hk,fun i u hu=>?_⟩
  rw [add_add,← Nat.add_assoc,← Nat.add_mul]; exact hvs i u hu
 ·cases hx
def orel (φ:Phi) (ok:Nat→Prop) (w:World) (o:Option V) (ov:Option Value):Prop:=match o,ov with
 | none,none=>True
 | some x,some v=>Vrel φ ok w x v
 | _,_=>False
theorem row_K {nx:Nat} (hh:HRel φ hp nx w) {id:Nat} {t:TypeId} {e:Ty} {l:List e.D} (ho:lookA hp id = some (.row t e l)) {b sz cap n:Nat} (hφ:φ id = some (.at b sz cap n)) :
  n = l.length∧sz = e.n∧n≤cap∧K (okb φ (delA hp id)) w (.sl e) l [.slice (some ⟨b,0,none⟩) (List.length (α:=e.D) l) cap]:=by
 rcases hh.ob id _ ho with ⟨h5,_⟩ | ⟨b',cap',arr,h5,h6,h7,h8,h9⟩
 ·rw [hφ] at h5; cases h5
 ·rw [hφ] at h5; cases h5
  refine ⟨rfl,rfl,h8,_,cap,rfl,h8,fun hp0=>⟨_,rfl,?_,fun j x hx=>?_⟩⟩
  ·intro i o p h1 h2 h3
   rw [Xx] at h1
   split at h1
   ·cases h1
   ·rename_i hne
    exact hh.dj i id o _ p _ b h1 ho hne h2 hφ h3 rfl
  ·obtain ⟨vs,hk,hvs⟩:=h9 j x hx
   refine ⟨vs,(evo_del φ hp w id).K _ _ _ hk,fun i u hu=>?_⟩
   rw [Yu,Nat.zero_add,Xd h6]
   exact hvs i u hu
theorem YE {ok:Nat→Prop} {d a:Int} {o:Option V} {ov:Option Value} (h:bound d o = some a) (hv:orel φ ok w o ov) :
  (ov = none∧a = d)∨∃ k,ov = some (.int k a):=by
 unfold bound at h
 split at h
 ·cases ov with
  | none=>exact .inl ⟨rfl,by cases h; rfl⟩
  | some v=>exact hv.elim
 ·cases ov with
  | none=>exact hv.elim
  | some v=>cases h; exact .inr ⟨_,by rw [show v = _ from hv]⟩
 ·cases h
theorem YQ {b:Bool} {len cap:Nat} {a c:Int} {lo hi:Option Value} (h1:(lo = none∧a = 0)∨∃ k,lo = some (.int k a)) (h2:(hi = none∧c = (len:Int))∨∃ k,hi = some (.int k c))
  (h0:0≤a) (hac:a≤c) (hcl:c≤len) (hlc:len≤cap):(Instr.sliceBounds b len cap lo hi none).run P w = .ok (a.toNat,c.toNat,cap) w:=by
 have hb:∀ (k:IntKind) (x:Int) (y:Nat) (code:BoundsCode),0≤x→x≤(y:Int)→(Instr.sliceBound (.int k x) y code).run P w = .ok x.toNat w:=fun k x y code hx hy=>by
  simp [Instr.sliceBound,asIntOf,hx,hy]
 have hc0:(0:Int)≤c:=by omega
 have hcc:c≤(cap:Int):=by omega
 have hct:((c.toNat:Nat):Int) = c:=by omega
 unfold Instr.sliceBounds
 rcases h1 with ⟨rfl,rfl⟩ | ⟨k1,rfl⟩ <;> rcases h2 with ⟨rfl,rfl⟩ | ⟨k2,rfl⟩
 ·simp
 ·simp [hb k2 c cap _ hc0 hcc]
 ·have:=hb k1 a len .sliceB h0 (by omega)
  simp [this]
 ·have:=hb k1 a c.toNat .sliceB h0 (by omega)
  simp [hb k2 c cap _ hc0 hcc,this]
theorem slice_ok (hE:∀ t i,E t = some i→TIok P t i) (hh:HRel φ hp f w) (t:TypeId) (x:V) (lo hi:Option V) (v:Value) (vl vh:Option Value) (hx:Vrel φ (okb φ hp) w x v)
  (hlo:orel φ (okb φ hp) w lo vl) (hhi:orel φ (okb φ hp) w hi vh):FRok φ hp w f (fslice Lv.std E (lookA hp) t x lo hi) ((Instr.sliceAt t v vl vh none).run P w):=by
 unfold fslice
 cases hq:E t with
 | none=>exact trivial
 | some q =>
   have hI:=hE t q hq
   have hu:=hI.und
   simp only
   split
   ·rename_i s hk
    rw [hk] at hu
    simp only at hu
    split
    ·rename_i a b ha hb
     intro hin
     obtain ⟨h0,h1,h2⟩:0≤a∧a≤b∧b≤(s.size:Int):=hin
     obtain rfl:v = .string s:=hx
     have hr:=YQ (P:=P) (w:=w) (b:=false) (len:=s.size) (cap:=s.size) (YE ha hlo) (YE hb hhi) h0 h1 h2 (Nat.le_refl _)
     refine Zf hh (v:=.string (s.extract a.toNat b.toNat)) ?_ rfl
     simp [Instr.sliceAt,Yi hu,Instr.slice,hr]
    ·exact trivial
   ·rename_i et e l hk
    rw [hk] at hu
    simp only at hu
    split
    ·rename_i hb
     have hsz:=Yt hb
     obtain ⟨ii,hii,hszi,hI'⟩:=YP hE (by rw [← hsz]; exact e.n_pos)
     have hs:(sizeOf et).run P w = .ok e.n w:=by rw [YB hI',← hszi,← hsz]
     split
     ·rename_i a b ha hb
      intro hin
      obtain ⟨h0,h1,h2⟩:0≤a∧a≤b∧b≤((List.length (α:=e.D) l:Nat):Int):=hin
      have hx':=hx
      obtain ⟨A,c,hc1,hc2,_⟩:=hx
      obtain rfl:v = .slice A (List.length (α:=e.D) l) c:=by simpa using hc1
      have hr:=YQ (P:=P) (w:=w) (b:=true) (len:=List.length (α:=e.D) l) (cap:=c) (YE ha hlo) (YE hb hhi) h0 h1 h2 hc2
      refine Zf hh (v:=.slice (if c = a.toNat then A else A.map (·.add (a.toNat * e.n))) (b.toNat - a.toNat) (c - a.toNat)) ?_ ?_
      ·simp [Instr.sliceAt,Yi hu,Instr.slice,hr,hs]
      ·refine K_take (w:=w) a.toNat b.toNat (by omega) (by show b.toNat≤List.length (α:=e.D) l; omega) hx' _ (fun hlt=>?_)
       rw [if_neg (by omega)]
     ·exact trivial
    ·exact trivial
   ·rename_i et id len hk
    rw [hk] at hu
    simp only at hu
    cases ho:lookA hp id with
    | none=>exact trivial
    | some o =>
      cases o with
      | box t' cs=>exact trivial
      | rowf t' e l q cs=>exact trivial
      | map k' v' l=>exact trivial
      | mapc l=>exact trivial
      | amb=>exact trivial
      | row t' e l =>
        simp only
        split
        ·rename_i hb
         have hsz:=Yt hb
         obtain ⟨ii,hii,hszi,hI'⟩:=YP hE (by rw [← hsz]; exact e.n_pos)
         have hs:(sizeOf et).run P w = .ok e.n w:=by rw [YB hI',← hszi,← hsz]
         cases lo with
         | none =>
           simp only
           split
           ·rename_i b hb
            intro hin
            obtain ⟨h0,h1,h2⟩:(0:Int)≤((0:Nat):Int)∧((0:Nat):Int)≤b∧b≤(len:Int):=hin
            cases vl with
            | some _=>exact hlo.elim
            | none =>
              rcases hx with ⟨h3,rfl,A,rfl⟩ | ⟨bb,sz,cap,nn,h3,h4,rfl⟩
              ·have hr:=YQ (P:=P) (w:=w) (b:=true) (len:=0) (cap:=0) (a:=0) (c:=b) (lo:=none) (.inl ⟨rfl,rfl⟩) (YE hb hhi) (by omega) (by omega) h2 (Nat.le_refl _)
               have hb0:b.toNat = 0:=by omega
               refine Zf hh (v:=.slice A 0 0) ?_ (.inl ⟨h3,hb0,A,rfl⟩)
               simp [Instr.sliceAt,Yi hu,Instr.slice,hr,hs,hb0]
              ·have hr:=YQ (P:=P) (w:=w) (b:=true) (len:=len) (cap:=cap) (a:=0) (c:=b) (lo:=none) (.inl ⟨rfl,rfl⟩) (YE hb hhi) (by omega) (by omega) h2 (by obtain ⟨q1,q2,q3,_⟩:=row_K hh ho h3; omega)
               refine Zf hh (v:=.slice (some ⟨bb,0,none⟩) b.toNat cap) ?_ (.inr ⟨bb,sz,cap,nn,h3,by show b.toNat≤nn; omega,rfl⟩)
               simp [Instr.sliceAt,Yi hu,Instr.slice,hr,hs,Addr.add]
           ·exact trivial
         | some lo =>
           simp only
           cases hal:aliasB hi (Nat.ble 3 e.n) with
           | true =>
             obtain rfl:=aliasB_t hal
             simp only
             split
             ·rename_i a ha
              intro hin
              obtain ⟨h0,h1,_⟩:0≤a∧a≤(len:Int)∧(len:Int)≤(len:Int):=hin
              have hat:a.toNat≤len:=by omega
              rcases hx with ⟨h3,rfl,A,rfl⟩ | ⟨bb,sz,cap,nn,h3,h4,rfl⟩
              ·have hr:=YQ (P:=P) (w:=w) (b:=true) (len:=0) (cap:=0) (c:=((0:Nat):Int)) (YE ha hlo) (YE (d:=((0:Nat):Int)) rfl hhi) h0 h1 (by omega) (Nat.le_refl _)
               have ha0:a.toNat = 0:=by omega
               refine Zf hh (v:=.slice A 0 0) ?_ (.inl ⟨by show 0 - a.toNat = 0; omega,A,0,rfl⟩)
               simp [Instr.sliceAt,Yi hu,Instr.slice,hr,hs,ha0]
              ·obtain ⟨q1,q2,q3,_⟩:=row_K hh ho h3
               have hr:=YQ (P:=P) (w:=w) (b:=true) (len:=len) (cap:=cap) (c:=(len:Int)) (YE ha hlo) (YE (d:=(len:Int)) rfl hhi) h0 h1 (by omega) (by omega)
               by_cases hcap:cap = a.toNat
               ·subst hcap
                refine Zf hh (v:=.slice (some ⟨bb,0,none⟩) (len - a.toNat) (a.toNat - a.toNat)) ?_ (.inl ⟨by show len - a.toNat = 0; omega,_,_,by rw [show len - a.toNat = 0 by omega]⟩)
                simp [Instr.sliceAt,Yi hu,Instr.slice,hr,hs]
               ·refine Zf hh (v:=.slice (some ⟨bb,a.toNat * e.n,none⟩) (len - a.toNat) (cap - a.toNat)) ?_ (.inr ⟨bb,sz,cap,nn,h3,by show a.toNat + (len - a.toNat)≤nn; omega,by rw [q2]; rfl⟩)
                have hadd:(⟨bb,0,none⟩:Addr).add (a.toNat * e.n) = ⟨bb,a.toNat * e.n,none⟩:=by
                 unfold Addr.add; split <;> simp_all
                simp [Instr.sliceAt,Yi hu,Instr.slice,hr,hs,hcap,hadd]
             ·exact trivial
           | false =>
           simp only
           split
           ·rename_i a b ha hb
            intro hin
            obtain ⟨h0,h1,h2⟩:0≤a∧a≤b∧b≤(len:Int):=hin
            have hdel:=evo_del φ hp w id
            rcases hx with ⟨h3,rfl,A,rfl⟩ | ⟨bb,sz,cap,nn,h3,h4,rfl⟩
            ·have hr:=YQ (P:=P) (w:=w) (b:=true) (len:=0) (cap:=0) (YE ha hlo) (YE hb hhi) h0 h1 h2 (Nat.le_refl _)
             have ha0:a.toNat = 0:=by omega
             have hb0:b.toNat = 0:=by omega
             refine ⟨.slice A 0 0,w,φ,_,?_,rfl,hh.del id,hdel,?_,fun _ _=>rfl⟩
             ·simp [Instr.sliceAt,Yi hu,Instr.slice,hr,hs,hb0,ha0]
             ·refine ⟨A,0,?_,?_,fun hpos=>?_⟩
              ·show [Value.slice A 0 0] = [Value.slice A (List.length (List.drop a.toNat (List.take b.toNat l))) 0]
               rw [ha0,hb0]; rfl
              ·show List.length (List.drop a.toNat (List.take b.toNat l))≤0
               rw [ha0,hb0]; simp
              ·have:List.length (List.drop a.toNat (List.take b.toNat l)) = 0:=by rw [ha0,hb0]; simp
               change 0 < List.length (List.drop a.toNat (List.take b.toNat l)) at hpos
               omega
            ·obtain ⟨q1,q2,q3,q4⟩:=row_K hh ho h3
             subst q2
             have hr:=YQ (P:=P) (w:=w) (b:=true) (len:=len) (cap:=cap) (YE ha hlo) (YE hb hhi) h0 h1 h2 (by omega)
             refine ⟨.slice (if cap = a.toNat then some ⟨bb,0,none⟩ else (some (⟨bb,0,none⟩:Addr)).map (·.add (a.toNat * e.n))) (b.toNat - a.toNat) (cap - a.toNat),w,φ,_,?_,rfl,hh.del id,hdel,?_,fun _ _=>rfl⟩
             ·simp [Instr.sliceAt,Yi hu,Instr.slice,hr,hs]
             ·refine K_take (w:=w) a.toNat b.toNat (by omega) (by omega) q4 _ (fun hlt=>?_)
              rw [if_neg (by omega)]
           ·exact trivial
        ·exact trivial
   ·exact trivial
theorem unop_ok (hh:HRel φ hp f w) (op:UnOp) (x:V) (v:Value) (hx:Vrel φ (okb φ hp) w x v):FRok φ hp w f (funop Lv.std op x) ((Op.unary op v).run P w):=by
 unfold funop
 split
 ·obtain rfl:v = _:=hx
  exact Zf hh rfl rfl
 ·obtain rfl:v = _:=hx
  exact Zf hh rfl rfl
 ·obtain rfl:v = _:=hx
  exact Zf hh (v:=.int _ _) rfl rfl
 ·exact trivial
theorem nilCheck_ok (x:V) (v:Value) (hx:Vrel φ (okb φ hp) w x v):fnilCheck x = .bad∨(fnilCheck x = .v x∧∃ ad,v = .pointer (some ad)):=by
 unfold fnilCheck
 split
 ·obtain ⟨b,sz,cap,n,h1,rfl⟩:=hx; exact .inr ⟨rfl,_,rfl⟩
 ·obtain ⟨b,sz,cap,n,h1,rfl⟩:=hx; exact .inr ⟨rfl,_,rfl⟩
 ·obtain ⟨ad,vs,rfl,_⟩:=hx; exact .inr ⟨rfl,_,rfl⟩
 ·exact .inl rfl
theorem len_ok (hE:∀ t i,E t = some i→TIok P t i) (hh:HRel φ hp f w) (t ty:TypeId) (x:V) (v:Value) (hx:Vrel φ (okb φ hp) w x v) :
  FRok φ hp w f (flen Lv.std E t x) ((Builtin.len_ #[t] ty #[v]).run P w):=by
 unfold flen
 cases hi:E t with
 | none=>exact trivial
 | some i =>
   have hu:=(hE t i hi).und
   simp only
   split
   ·rename_i s hk
    rw [hk] at hu
    simp only at hu
    obtain rfl:v = .string s:=hx
    exact Zf hh (v:=.int .i64 s.size) (by simp [Builtin.len_,Yi hu,goInt]) rfl
   ·rename_i et e l hk
    rw [hk] at hu
    simp only at hu
    obtain ⟨A,c,h1,_⟩:=hx
    obtain rfl:v = .slice A (List.length (α:=e.D) l) c:=by simpa using h1
    exact Zf hh (v:=.int .i64 (List.length (α:=e.D) l:Nat)) (by simp [Builtin.len_,Yi hu,goInt]) rfl
   ·rename_i et id n hk
    rw [hk] at hu
    simp only at hu
    rcases hx with ⟨h1,rfl,A,rfl⟩ | ⟨b,sz,cap,nn,h1,h2,rfl⟩
    ·exact Zf hh (v:=.int .i64 (0:Nat)) (by simp [Builtin.len_,Yi hu,goInt]) rfl
    ·exact Zf hh (v:=.int .i64 (n:Nat)) (by simp [Builtin.len_,Yi hu,goInt]) rfl
   ·rename_i et id off n hk
    rw [hk] at hu
    simp only at hu
    rcases hx with ⟨rfl,A,c,rfl⟩ | ⟨b,sz,cap,nn,h1,h2,rfl⟩
    ·exact Zf hh (v:=.int .i64 (0:Nat)) (by simp [Builtin.len_,Yi hu,goInt]) rfl
    ·exact Zf hh (v:=.int .i64 (n:Nat)) (by simp [Builtin.len_,Yi hu,goInt]) rfl
   ·rename_i et hk
    rw [hk] at hu
    simp only at hu
    obtain rfl:v = _:=hx
    exact Zf hh (v:=.int .i64 0) (by simp [Builtin.len_,Yi hu,goInt]) rfl
   ·exact trivial
theorem min_ok (hh:HRel φ hp f w) (ts:Array TypeId) (ty:TypeId) (x y:V) (v u:Value) (hx:Vrel φ (okb φ hp) w x v) (hy:Vrel φ (okb φ hp) w y u) :
  FRok φ hp w f (fmin Lv.std x y) ((Builtin.min_ ts ty #[v,u]).run P w):=by
 unfold fmin
 split
 ·obtain rfl:v = _:=hx
  obtain rfl:u = _:=hy
  refine Zf hh (v:=.int _ _) ?_ rfl
  simp [Builtin.min_,Builtin.min2,Lv.std]
 ·exact trivial
theorem max_ok (hh:HRel φ hp f w) (ts:Array TypeId) (ty:TypeId) (x y:V) (v u:Value) (hx:Vrel φ (okb φ hp) w x v) (hy:Vrel φ (okb φ hp) w y u) :
  FRok φ hp w f (fmax Lv.std x y) ((Builtin.max_ ts ty #[v,u]).run P w):=by
 unfold fmax
 split
 ·obtain rfl:v = _:=hx
  obtain rfl:u = _:=hy
  refine Zf hh (v:=.int _ _) ?_ rfl
  simp [Builtin.max_,Builtin.max2,Lv.std]
 ·exact trivial
end
end Go.VM
namespace Go.VM
open Go
section
variable {P:Program} {E:Ev} {φ:Phi} {w:World} {hp:Hp} {f:Nat}
theorem YJ {α β:Type} {x:Sem α} {g:α→Sem β} {a:α} {w':World} (h:x.run P w = .ok a w'):(x >>= g).run P w = (g a).run P w':=by
 simp [h]
theorem int_binOp (op:BinOp) (t:TypeId) (k:IntKind) (a b:Int) (h1:opOk op = true):(binOp op t (.int k a) (.int k b)).run P w = .ok (.int k (arith op k a b)) w:=by
 cases op <;> first
  | (simp [opOk] at h1; done)
  | (simp [binOp,Op.intArith,Op.intBits,arith]; done)
  | rfl
theorem int_cmp (op:BinOp) (t:TypeId) (k:IntKind) (a b:Int) (h1:opCmp op = true):(binOp op t (.int k a) (.int k b)).run P w = .ok (.bool (compare op a b)) w:=by
 cases op <;> first
  | (simp [opCmp] at h1; done)
  | (simp [binOp,Op.intCmp,compare]; done)
theorem str_cmp (op:BinOp) (t:TypeId) (a b:ByteArray) (h1:opCmp op = true):(binOp op t (.string a) (.string b)).run P w = .ok (.bool (scompare op a b)) w:=by
 cases op <;> first
  | (simp [opCmp] at h1; done)
  | (simp [binOp,Op.stringOp,scompare]; done)
theorem XP (op:BinOp) (t:TypeId) (x y:Operand) (a b:Value) (h:∀ c d,a = .agg c→b = .agg d→False) (h':a ≠ .nilIface):(eqGuard op t x y a b).run P w = .ok () w:=by
 unfold eqGuard
 cases op <;> first
  | rfl
  | (cases a <;> cases b <;> first | rfl | exact absurd rfl h' | exact (h _ _ rfl rfl).elim)
theorem isKd_ok (hE:∀ t i,E t = some i→TIok P t i) {t:TypeId} {k:Kd} (h:isKd E t k = true):∃ i,TIok P t i∧i.kd = k:=by
 unfold isKd at h
 cases hi:E t with
 | none=>rw [hi] at h; cases h
 | some i=>rw [hi] at h; exact ⟨i,hE t i hi,of_decide_eq_true h⟩
theorem isSl_ok (hE:∀ t i,E t = some i→TIok P t i) {t:TypeId} (h:isSl E t = true):∃ e,P.underlying t = some (.slice e):=by
 unfold isSl at h
 cases hi:E t with
 | none=>rw [hi] at h; cases h
 | some i =>
   rw [hi] at h
   simp only at h
   have hu:=(hE t i hi).und
   cases hk:i.kd <;> rw [hk] at h hu <;> simp only at h <;> first | exact ⟨_,hu⟩ | cases h
theorem run_equal_bool {t:TypeId} (hu:P.underlying t = some .bool) (a b:Bool):(Op.equal t (.bool a) (.bool b)).run P w = .ok (a == b) w:=by
 have:Op.equal t (.bool a) (.bool b) = Op.equalIn (9999 + 1) t (.bool a) (.bool b):=rfl
 rw [this,Op.equalIn]
 simp [Yi hu]
theorem XC {t e:TypeId} (hu:P.underlying t = some (.slice e)) (A:Option Addr) (n c:Nat):(Op.equal t (.slice A n c) (.slice none 0 0)).run P w = .ok A.isNone w:=by
 have:Op.equal t (.slice A n c) (.slice none 0 0) = Op.equalIn (9999 + 1) t (.slice A n c) (.slice none 0 0):=rfl
 rw [this,Op.equalIn]
 cases A <;> simp [Yi hu]
theorem bool_bin {t:TypeId} (hu:P.underlying t = some .bool) (hh:HRel φ hp f w) (op:BinOp) (ox oy:Operand) (a b:Bool) :
  FRok φ hp w f (match op with | .eql=>.b (Lv.std.beq a b) | .neq=>.b (Lv.std.bnot (Lv.std.beq a b)) | _=>.bad) ((do eqGuard op t ox oy (.bool a) (.bool b); binOp op t (.bool a) (.bool b):Sem Value).run P w):=by
 rw [YJ (XP op t ox oy _ _ (by intro c d h; cases h) (by simp))]
 have:=run_equal_bool (w:=w) hu a b
 cases op
 case eql=>exact Zf hh (v:=.bool (a == b)) (by simp [binOp,this]) rfl
 case neq=>exact Zf hh (v:=.bool (!(a == b))) (by simp [binOp,this]) rfl
 all_goals exact trivial
theorem nil_bin {t e:TypeId} (hu:P.underlying t = some (.slice e)) (hh:HRel φ hp f w) (op:BinOp) (ox oy:Operand) (A:Option Addr) (n c:Nat) :
  FRok φ hp w f (match op with | .eql | .neq=>.amb | _=>.bad) ((do eqGuard op t ox oy (.slice A n c) (.slice none 0 0); binOp op t (.slice A n c) (.slice none 0 0):Sem Value).run P w):=by
 rw [YJ (XP op t ox oy _ _ (by intro c d h; cases h) (by simp))]
 have:=XC (w:=w) hu A n c
 cases op
 case eql=>exact ⟨_,Zf hh (v:=.bool A.isNone) (by simp [binOp,this]) rfl⟩
 case neq=>exact ⟨_,Zf hh (v:=.bool (!A.isNone)) (by simp [binOp,this]) rfl⟩
 all_goals exact trivial
theorem nil_bin2 {t e:TypeId} (hu:P.underlying t = some (.slice e)) (hh:HRel φ hp f w) (op:BinOp) (ox oy:Operand) (A:Option Addr) (n c:Nat) (b:Bool) (hb:b = false→A.isNone = false) :
  FRok φ hp w f (match op with | .eql=>.br b .amb (.v (.c (.bool false))) | .neq=>.br b .amb (.v (.c (.bool true))) | _=>.bad) ((do eqGuard op t ox oy (.slice A n c) (.slice none 0 0); binOp op t (.slice A n c) (.slice none 0 0):Sem Value).run P w):=by
 rw [YJ (XP op t ox oy _ _ (by intro c d h; cases h) (by simp))]
 have:=XC (w:=w) hu A n c
 cases op
 case eql=>exact ⟨fun _=>⟨_,Zf hh (v:=.bool A.isNone) (by simp [binOp,this]) rfl⟩,fun h=>Zf hh (v:=.bool false) (by simp [binOp,this,hb h]) rfl⟩
 case neq=>exact ⟨fun _=>⟨_,Zf hh (v:=.bool (!A.isNone)) (by simp [binOp,this]) rfl⟩,fun h=>Zf hh (v:=.bool true) (by simp [binOp,this,hb h]) rfl⟩
 all_goals exact trivial
theorem boolC_ok {φ:Phi} {ok:Nat→Prop} {w:World} {c:C} {b:Bool} (h:boolC c = some b) {v:Value} (hv:Crel φ ok w c v):v = .bool b:=by
 cases c <;> simp only [boolC] at h <;> first
  | (cases h; exact hv)
  | cases h
theorem eqF {P:Program} {E:Ev} {w:World} {φ:Phi} (hE:∀ t i,E t = some i→TIok P t i) {ok:Nat→Prop} (d:Nat) (xs ys:List Value):∀ (fs:List Field) (k:Nat) (as bs:List C) (c:Bool),eqSt Lv.std E k (fs.map fun f=>(f.offset,f.type)) as bs = some c →
  (∀ fd ∈ fs,(fd.name != "_") = true)→L2 (Crel φ ok w) as (xs.drop k)→L2 (Crel φ ok w) bs (ys.drop k)→(Op.eqFields (d + 1) xs.toArray ys.toArray fs).run P w = .ok c w
 | [],k,as,bs,c,h,_,ha,hb=>by
   cases as with
   | cons _ _=>cases h
   | nil=>cases bs with
     | cons _ _=>cases h
     | nil=>cases h; rfl
 | fd :: fs,k,as,bs,c,h,hn,ha,hb=>by
   cases as with
   | nil=>cases h
   | cons a as =>
     cases bs with
     | nil=>cases h
     | cons b bs =>
       match hxd:xs.drop k,ha with
       | x :: xr,ha =>
         match hyd:ys.drop k,hb with
         | y :: yr,hb =>
           have hx:xs[k]? = some x:=by rw [← List.head?_drop,hxd]; rfl
           have hy:ys[k]? = some y:=by rw [← List.head?_drop,hyd]; rfl
           have hxr:xs.drop (k + 1) = xr:=by rw [← List.tail_drop,hxd]; rfl
           have hyr:ys.drop (k + 1) = yr:=by rw [← List.tail_drop,hyd]; rfl
           simp only [List.map_cons] at h
           unfold eqSt at h
           split at h
           ·rename_i hoff
            have hoff':=Nat.eq_of_beq_eq_true hoff
            cases hi:E fd.type with
            | none=>rw [hi] at h; cases h
            | some q =>
              rw [hi] at h
              simp only at h
              cases hc':eqSt Lv.std E (k + 1) (fs.map fun f=>(f.offset,f.type)) as bs with
              | none=>rw [hc'] at h; cases h
              | some c' =>
                rw [hc'] at h
                simp only at h
                have ih:=eqF hE d xs ys fs (k + 1) as bs c' hc' (fun fd' hm=>hn fd' (by simp [hm])) (by rw [hxr]; exact ha.2) (by rw [hyr]; exact hb.2)
                have hne:fd.name ≠ "_":=by simpa using hn fd (by simp)
                have hI:=hE _ _ hi
                have hu:=hI.und
                have hpart:q.kd.isAgg = false→∀ (zs:List Value) (z:Value),zs[k]? = some z→(part fd.type zs.toArray fd.offset).run P w = .ok z w:=fun hagg zs z hz=>by
                 have hsz:=hI.one hagg
                 have hlt:=(List.getElem?_eq_some_iff.1 hz).1
                 obtain ⟨v,g1,g2⟩:=run_part (P:=P) (w:=w) hI zs fd.offset (by omega)
                 rw [hagg] at g2
                 simp only [Bool.false_eq_true,if_false] at g2
                 rw [g1]
                 have:(List.take q.size (zs.drop fd.offset))[0]? = some z:=by
                  rw [List.getElem?_take,if_pos (by omega),List.getElem?_drop,show fd.offset + 0 = k by omega]; exact hz
                 rw [g2] at this
                 simp only [List.getElem?_cons_zero,Option.some.injEq] at this
                 rw [this]
                have fin:q.kd.isAgg = false→∀ r:Bool,(Op.equalIn (d + 1) fd.type x y).run P w = .ok r w→c = (r && c')→(Op.eqFields (d + 1) xs.toArray ys.toArray (fd :: fs)).run P w = .ok c w:=by
                 rintro hagg r hr rfl
                 rw [Op.eqFields,if_pos hne]
                 simp only [Sem.run_bind,hpart hagg xs x hx,hpart hagg ys y hy,hr,Result.andThen_ok]
                 cases r
                 ·rfl
                 ·simpa using ih
                cases hk:q.kd <;> rw [hk] at h hu <;> simp only at h hu <;> try (cases h; done)
                ·cases a with
                 | int k1 n =>
                   cases b with
                   | int k2 m =>
                     simp only at h
                     split at h
                     ·rename_i e
                      subst e
                      cases h
                      obtain rfl:x = .int k1 n:=ha.1
                      obtain rfl:y = .int k1 m:=hb.1
                      exact fin (by rw [hk]; rfl) (n == m) (run_equalIn_int w d fd.type k1 _ n m hu) rfl
                     ·cases h
                   | _=>cases h
                 | _=>cases h
                ·cases h1:boolC a with
                 | none=>rw [h1] at h; cases h
                 | some p1 =>
                   cases h2:boolC b with
                   | none=>rw [h1,h2] at h; cases h
                   | some p2 =>
                     rw [h1,h2] at h
                     cases h
                     obtain rfl:=boolC_ok h1 ha.1
                     obtain rfl:=boolC_ok h2 hb.1
                     exact fin (by rw [hk]; rfl) (p1 == p2) (run_equalIn_bool' w d fd.type p1 p2 hu) rfl
                ·cases a with
                 | str p1 =>
                   cases b with
                   | str p2 =>
                     simp only at h
                     cases h
                     obtain rfl:x = .string p1:=ha.1
                     obtain rfl:y = .string p2:=hb.1
                     exact fin (by rw [hk]; rfl) (p1.toList == p2.toList) (run_equalIn_string w d fd.type p1 p2 hu) rfl
                   | _=>cases h
                 | _=>cases h
           ·cases h
theorem agg_bin (hE:∀ t i,E t = some i→TIok P t i) {t:TypeId} {a b:List C} {c:Bool} (h:eqAgg Lv.std E t a b = some c) (op:BinOp) (ox oy:Operand) {xs ys:List Value} (hx:L2 (Crel φ (okb φ hp) w) a xs) (hy:L2 (Crel φ (okb φ hp) w) b ys) :
  (eqGuard op t ox oy (.agg xs.toArray) (.agg ys.toArray)).run P w = .ok () w∧(Op.equalIn 10000 t (.agg xs.toArray) (.agg ys.toArray)).run P w = .ok c w:=by
 unfold eqAgg at h
 cases hi:E t with
 | none=>rw [hi] at h; cases h
 | some i =>
   rw [hi] at h
   simp only at h
   have hu:=(hE t i hi).und
   cases hk:i.kd <;> rw [hk] at h hu <;> simp only at h hu <;> try (cases h; done)
   obtain ⟨fsA,q1,q2,q3,q4,q5⟩:=hu
   have hf:P.fieldsOf t = fsA:=by unfold Program.fieldsOf; rw [q1]
   refine ⟨run_eqGuard_agg w op t ox oy _ _ q5,?_⟩
   have h1:=run_equalIn_struct (P:=P) w 9999 t xs.toArray ys.toArray (by rw [hf]; exact q1) q4
   rw [show (10000:Nat) = 9999 + 1 from rfl,h1,hf]
   rw [← q2] at h
   exact eqF hE 9998 xs ys fsA.toList 0 a b c h (List.all_eq_true.1 q3) hx hy
theorem isIfc_ok (hE:∀ t i,E t = some i→TIok P t i) {t:TypeId} (h:isIfc E t = true):∃ ms,P.underlying t = some (.interface ms):=by
 unfold isIfc at h
 split at h
 ·rename_i i e
  have hu:=(hE _ _ e).und
  split at h
  ·rename_i ts hk
   rw [hk] at hu
   obtain ⟨ms,h1,_⟩:=hu
   exact ⟨ms,h1⟩
  ·cases h
 ·cases h
theorem isIfcOf_ok (hE:∀ t i,E t = some i→TIok P t i) {t x:TypeId} (h:isIfcOf E t x = true):∃ ms,P.underlying t = some (.interface ms)∧(P.info? x).map (·.comparable) = some true∧∃ q,P.underlying x = some (.int q):=by
 unfold isIfcOf at h
 split at h
 ·rename_i i e
  have hu:=(hE _ _ e).und
  split at h
  ·rename_i ts hk
   rw [hk] at hu
   obtain ⟨ms,h1,h2⟩:=hu
   rw [List.any_eq_true] at h
   obtain ⟨y,hy,hb⟩:=h
   have:=Yt hb; subst this
   exact ⟨ms,h1,h2 _ hy⟩
  ·cases h
 ·cases h
theorem isNilC_ok {ok:Nat→Prop} {x:V} {a:Value} {b:Bool} (h:isNilC x = some b) (hx:Vrel φ ok w x a):(b = true∧a = .nilIface)∨(b = false∧∃ u z,a = .iface u z):=by
 unfold isNilC at h
 split at h
 ·cases h; exact .inl ⟨rfl,hx⟩
 ·cases h; exact .inr ⟨rfl,_,_,hx⟩
 ·cases h; exact .inr ⟨rfl,hx⟩
 ·cases h
theorem nil_ok (hE:∀ t i,E t = some i→TIok P t i) (hh:HRel φ hp f w) (op:BinOp) (t:TypeId) (ox:Operand) (x y:V) (a b:Value) (hx:Vrel φ (okb φ hp) w x a) (hy:Vrel φ (okb φ hp) w y b) :
  FRok φ hp w f (fnil E op t x y) ((do eqGuard op t ox (.const .nilIface) a b; binOp op t a b:Sem Value).run P w):=by
 unfold fnil
 have key:∀ c,isIfc E t = true→isNilC y = some true→isNilC x = some c→((do eqGuard .eql t ox (.const .nilIface) a b; binOp .eql t a b:Sem Value).run P w = .ok (.bool c) w∧(do eqGuard .neq t ox (.const .nilIface) a b; binOp .neq t a b:Sem Value).run P w = .ok (.bool (!c)) w):=by
  intro c h1 h3 h2
  obtain ⟨ms,hm⟩:=isIfc_ok hE h1
  obtain rfl:b = .nilIface:=by
   rcases isNilC_ok h3 hy with ⟨_,h⟩ | ⟨h,_⟩
   ·exact h
   ·cases h
  rcases isNilC_ok h2 hx with ⟨rfl,rfl⟩ | ⟨rfl,u,z,rfl⟩
  ·have h:∀ d:Nat,(Op.equalIn (d + 1) t .nilIface .nilIface).run P w = .ok true w:=fun d=>by simp [Op.equalIn,run_underlying hm]
   constructor <;> simp [eqGuard,binOp,Op.equal,Op.maxDepth,h 9999]
  ·have h:∀ d:Nat,(Op.equalIn (d + 1) t (.iface u z) .nilIface).run P w = .ok false w:=fun d=>by simp [Op.equalIn,run_underlying hm]
   constructor <;> simp [eqGuard,binOp,Op.equal,Op.maxDepth,h 9999]
 split
 ·rename_i b h1 h2 h3
  exact Zf hh (key _ h1 h2 h3).1 rfl
 ·rename_i b h1 h2 h3
  exact Zf hh (key _ h1 h2 h3).2 rfl
 ·exact trivial
theorem mki_ok (hE:∀ t i,E t = some i→TIok P t i) (hh:HRel φ hp f w) (t:TypeId) (x:V) (a:Value) (hx:Vrel φ (okb φ hp) w x a) :
  FRok φ hp w f (fmki E t x) ((Instr.makeInterface t a).run P w):=by
 unfold fmki
 split
 ·rename_i i e
  have hu:=(hE _ _ e).und
  split
  ·rename_i k k' n hk
   rw [hk] at hu
   obtain rfl:a = .int k' n:=hx
   exact Zf hh (v:=.iface t (.int k' n)) (by simp [Instr.makeInterface,run_underlying (show P.underlying t = some (.int k) from hu)]) rfl
  ·rename_i e' hk
   rw [hk] at hu
   exact Zf hh (v:=.iface t a) (by simp [Instr.makeInterface,run_underlying (show P.underlying t = some (.pointer e') from hu)]) ⟨t,a,rfl⟩
  ·exact trivial
 ·exact trivial
theorem bin_ok (hE:∀ t i,E t = some i→TIok P t i) (hh:HRel φ hp f w) (op:BinOp) (t:TypeId) (ox oy:Operand) (x y:V) (a b:Value) (hx:Vrel φ (okb φ hp) w x a) (hy:Vrel φ (okb φ hp) w y b) :
  FRok φ hp w f (fbin Lv.std E op t x y) ((do eqGuard op t ox oy a b; binOp op t a b:Sem Value).run P w):=by
 unfold fbin
 split
 ·rename_i k p k' q
  obtain rfl:a = .int k p:=hx
  obtain rfl:b = .int k' q:=hy
  rw [YJ (XP op t ox oy _ _ (by intro c d h; cases h) (by simp))]
  split
  ·intro h0
   have h0':¬ q < 0:=by have:(0:Int)≤q:=h0; omega
   exact Zf hh (v:=.int k (shift .shl k p q)) (by simp [binOp,Op.shift,h0',shift]) rfl
  ·intro h0
   have h0':¬ q < 0:=by have:(0:Int)≤q:=h0; omega
   exact Zf hh (v:=.int k (shift .shr k p q)) (by simp [binOp,Op.shift,h0',shift]) rfl
  ·split
   ·rename_i e; subst e
    intro h0
    have h0':q ≠ 0:=h0
    exact Zf hh (v:=.int k (divide .quo k p q)) (by simp [binOp,Op.intDiv,h0',divide]) rfl
   ·exact trivial
  ·split
   ·rename_i e; subst e
    intro h0
    have h0':q ≠ 0:=h0
    exact Zf hh (v:=.int k (divide .rem k p q)) (by simp [binOp,Op.intDiv,h0',divide]) rfl
   ·exact trivial
  ·rename_i n1 n2 n3 n4
   split
   ·rename_i e; subst e
    split
    ·rename_i h1
     exact Zf hh (int_binOp op t k p q h1) rfl
    ·rename_i h1
     have h2:opCmp op = true:=by cases op <;> simp_all [opOk,opCmp]
     exact Zf hh (int_cmp op t k p q h2) rfl
   ·exact trivial
 ·rename_i p q
  obtain rfl:a = .string p:=hx
  obtain rfl:b = .string q:=hy
  rw [YJ (XP op t ox oy _ _ (by intro c d h; cases h) (by simp))]
  split
  ·intro h0
   have h0':p.size + q.size≤9223372036854775807:=h0
   have hm:¬ ((p.size + q.size:Nat):Int) > IntKind.i64.max:=by
    have:IntKind.i64.max = 9223372036854775807:=by decide
    omega
   refine Zf hh (v:=.string (p ++ q)) ?_ rfl
   simp only [binOp,Op.stringOp]
   rw [Sem.run_ite,if_neg hm]; rfl
  ·split
   ·rename_i h1; exact Zf hh (str_cmp op t p q h1) rfl
   ·exact trivial
 iterate 4
  ·rename_i p q
   obtain rfl:a = .bool p:=hx
   obtain rfl:b = .bool q:=hy
   split
   ·rename_i hk
    obtain ⟨i,hI,hk⟩:=isKd_ok hE hk
    have hu:=hI.und
    rw [hk] at hu
    exact bool_bin hu hh op ox oy p q
   ·exact trivial
 ·obtain rfl:a = _:=hx
  obtain rfl:b = _:=hy
  split
  ·rename_i hk
   obtain ⟨e,hu⟩:=isSl_ok hE hk
   rw [YJ (XP op t ox oy _ _ (by intro c d h; cases h) (by simp))]
   have:=XC (w:=w) hu none 0 0
   cases op
   case eql=>exact Zf hh (v:=.bool true) (by simp [binOp,this]) rfl
   case neq=>exact Zf hh (v:=.bool false) (by simp [binOp,this]) rfl
   all_goals exact trivial
  ·exact trivial
 ·obtain ⟨A,c,h1,_,hpos⟩:=hx
  obtain rfl:a = _:=by simpa using h1
  obtain rfl:b = _:=hy
  split
  ·rename_i hk
   obtain ⟨e,hu⟩:=isSl_ok hE hk
   refine nil_bin2 hu hh op ox oy _ _ _ _ fun hb=>?_
   rename_i el l _
   have hlt:0 < List.length (α:=el.D) l:=by
    refine Nat.pos_of_ne_zero fun h0=>?_
    have:Lv.std.cmp .eql (Lv.std.cast (Lv.std.llen el l)) 0 = true:=by
     show VM.compare .eql ((List.length (α:=el.D) l:Nat):Int) 0 = true
     rw [h0]; rfl
    rw [this] at hb; cases hb
   obtain ⟨ad,h,_⟩:=hpos hlt
   rw [h]; rfl
  ·exact trivial
 ·obtain rfl:b = _:=hy
  split
  ·rename_i hk
   obtain ⟨e,hu⟩:=isSl_ok hE hk
   rcases hx with ⟨_,_,A,rfl⟩ | ⟨_,_,_,_,_,_,rfl⟩
   ·exact nil_bin hu hh op ox oy _ _ _
   ·exact nil_bin hu hh op ox oy _ _ _
  ·exact trivial
 ·rename_i t1 k p t2 k' q
  obtain rfl:a = .iface t1 (.int k p):=hx
  obtain rfl:b = .iface t2 (.int k' q):=hy
  split
  ·rename_i hk
   simp only [Bool.and_eq_true,decide_eq_true_eq] at hk
   obtain ⟨⟨hk1,hk2⟩,rfl⟩:=hk
   have:=Yt hk2; subst this
   obtain ⟨ms,h1,h2,q',h3⟩:=isIfcOf_ok hE hk1
   rw [YJ (XP op t ox oy _ _ (by intro c d h; cases h) (by simp))]
   have hE1:=Lib.run_eql_iface_int (P:=P) w (k:=k) p q h1 h2 h3
   have hE2:=Lib.run_neq_iface_int (P:=P) w (k:=k) p q h1 h2 h3
   cases op
   case eql=>exact Zf hh (v:=.bool (p == q)) hE1 rfl
   case neq=>exact Zf hh (v:=.bool (!(p == q))) hE2 rfl
   all_goals exact trivial
  ·exact trivial
 ·obtain ⟨xs,rfl,hxs⟩:=hx
  obtain ⟨ys,rfl,hys⟩:=hy
  split
  ·rename_i c hc
   obtain ⟨h1,h2⟩:=agg_bin hE hc .eql ox oy hxs hys
   rw [YJ h1]
   exact Zf hh (v:=.bool c) (by rw [run_eql_struct,h2]; rfl) rfl
  ·rename_i c hc
   obtain ⟨h1,h2⟩:=agg_bin hE hc .neq ox oy hxs hys
   rw [YJ h1]
   exact Zf hh (v:=.bool (!c)) (by rw [run_neq_struct,h2]; rfl) rfl
  ·exact trivial
 ·exact trivial
end
end Go.VM
namespace Go.VM
open Go
section
variable {P:Program} {E:Ev} {φ:Phi} {w:World} {hp:Hp} {f:Nat}
theorem XK {ok:Nat→Prop} {x:V} {v:Value} (h:Vrel φ ok w x v) (hk:knownV x = true):L2 (Crel φ ok w) x.cells v.cells.toList:=by
 cases x with
 | c x =>
   have:v.cells = #[v]:=by
    cases x <;> simp only [knownV,Bool.false_eq_true] at hk <;> simp only [Vrel,Crel] at h
    case int=>rw [h]; rfl
    case bool=>rw [h]; rfl
    case sym=>rw [h]; rfl
    case str=>rw [h]; rfl
    case sl =>
     obtain ⟨A,c,h1,_⟩:=h
     simp only [List.cons.injEq,and_true] at h1
     rw [h1]; rfl
    case nils=>rw [h]; rfl
    case own=>rcases h with ⟨_,_,_,rfl⟩ | ⟨_,_,_,_,_,_,rfl⟩ <;> rfl
    case ptr=>obtain ⟨_,_,_,_,_,rfl⟩:=h; rfl
    case elp=>obtain ⟨_,_,_,_,_,rfl⟩:=h; rfl
    case nilp=>rw [h]; rfl
    case fn=>obtain ⟨_,rfl,_⟩:=h; rfl
    case nilf=>rw [h]; rfl
    case map=>obtain ⟨_,_,_,_,_,rfl⟩:=h; rfl
    case nilm=>rw [h]; rfl
    case ifn=>rw [h]; rfl
    case ife=>rw [h]; rfl
    case ifo=>obtain ⟨_,_,rfl⟩:=h; rfl
    case selfp=>rcases h with rfl | ⟨_,_,_,_,_,rfl⟩ <;> rfl
    case owa=>rcases h with ⟨_,_,_,rfl⟩ | ⟨_,_,_,_,_,_,rfl⟩ <;> rfl
    case yld=>rw [h]; rfl
   rw [this]
   exact ⟨h,trivial⟩
 | agg l =>
   obtain ⟨vs,rfl,hl⟩:=h
   exact hl
 | tup l=>cases hk
 | ipt l=>cases hk
theorem K_delAll {t:Ty} {x:t.D} {vs:List Value} (ids:List Nat) (h:K (okb φ hp) w t x vs):K (okb φ (delAll hp ids)) w t x vs:=(Yw φ w ids hp).K _ _ _ h
theorem XE:∀ (i j:List Nat) (hp:Hp),delAll hp (i ++ j) = delAll (delAll hp i) j
 | [],_,_=>rfl
 | a :: r,j,hp=>by simp only [List.cons_append,delAll]; exact XE r j _
theorem Xn (hh:HRel φ hp f w):∀ (t:Ty) (cs:List C) (vs:List Value) (x:t.D) (r:List C) (ids:List Nat),view Lv.std (lookA hp) t cs = some (x,r,ids)→L2 (Crel φ (okb φ hp) w) cs vs →
  ∃ vs1 vs2,vs = vs1 ++ vs2∧K (okb φ (delAll hp ids)) w t x vs1∧L2 (Crel φ (okb φ hp) w) r vs2
 | .int k,cs,vs,x,r,ids,h,hl=>by
   simp only [view] at h
   unfold vInt at h
   split at h
   ·split at h
    ·rename_i e; subst e
     simp only [Option.some.injEq,Prod.mk.injEq] at h
     obtain ⟨rfl,rfl,rfl⟩:=h
     match vs,hl with
     | v :: vs',hl=>exact ⟨[v],vs',rfl,by rw [show v = _ from hl.1]; rfl,hl.2⟩
    ·cases h
   ·cases h
 | .bool,cs,vs,x,r,ids,h,hl=>by
   simp only [view] at h
   unfold vBool at h
   split at h
   ·simp only [Option.some.injEq,Prod.mk.injEq] at h
    obtain ⟨rfl,rfl,rfl⟩:=h
    match vs,hl with
    | v :: vs',hl=>exact ⟨[v],vs',rfl,by rw [show v = _ from hl.1]; rfl,hl.2⟩
   ·simp only [Option.some.injEq,Prod.mk.injEq] at h
    obtain ⟨rfl,rfl,rfl⟩:=h
    match vs,hl with
    | v :: vs',hl=>exact ⟨[v],vs',rfl,by rw [show v = _ from hl.1]; rfl,hl.2⟩
   ·cases h
 | .str,cs,vs,x,r,ids,h,hl=>by
   simp only [view] at h
   unfold vStr at h
   split at h
   ·simp only [Option.some.injEq,Prod.mk.injEq] at h
    obtain ⟨rfl,rfl,rfl⟩:=h
    match vs,hl with
    | v :: vs',hl=>exact ⟨[v],vs',rfl,by rw [show v = _ from hl.1]; rfl,hl.2⟩
   ·cases h
 | .sl e,cs,vs,x,r,ids,h,hl=>by
   simp only [view] at h
   unfold vSl at h
   split at h
   ·split at h
    ·rename_i q; subst q
     simp only [Option.some.injEq,Prod.mk.injEq] at h
     obtain ⟨rfl,rfl,rfl⟩:=h
     match vs,hl with
     | v :: vs',hl=>exact ⟨[v],vs',rfl,hl.1,hl.2⟩
    ·cases h
   ·simp only [Option.some.injEq,Prod.mk.injEq] at h
    obtain ⟨rfl,rfl,rfl⟩:=h
    match vs,hl with
    | v :: vs',hl=>exact ⟨[v],vs',rfl,⟨none,0,by rw [show v = _ from hl.1]; rfl,Nat.le_refl _,fun h0=>absurd h0 (by simp)⟩,hl.2⟩
   ·rename_i id n r' 
    split at h
    ·rename_i l ids' hv
     simp only [Option.some.injEq,Prod.mk.injEq] at h
     obtain ⟨rfl,rfl,rfl⟩:=h
     unfold vRow at hv
     split at hv
     ·rename_i t' e' l' ho
      split at hv
      ·rename_i q; subst q
       simp only [Option.some.injEq,Prod.mk.injEq] at hv
       obtain ⟨rfl,rfl⟩:=hv
       match vs,hl with
       | v :: vs',hl =>
         refine ⟨[v],vs',rfl,?_,hl.2⟩
         rcases hl.1 with ⟨h1,rfl,A,rfl⟩ | ⟨b,sz,cap,nn,h1,h2,rfl⟩
         ·exact ⟨A,0,by show _ = [Value.slice A (List.length (List.take 0 l')) 0]; simp,by show List.length (List.take 0 l')≤0; simp,fun h0=>by change 0 < List.length (List.take 0 l') at h0; simp at h0⟩
         ·obtain ⟨q1,q2,q3,q4⟩:=row_K hh ho h1
          have:=K_take (w:=w) 0 n (Nat.zero_le _) (by omega) q4 (some ⟨b,0,none⟩) (fun _=>by simp [Addr.add])
          exact (by simpa using this:K (okb φ (delA hp id)) w (.sl e') (List.take n l') [.slice (some ⟨b,0,none⟩) n cap])
      ·cases hv
     ·rename_i t' e' l' j0 cs0 ho
      split at hv
      ·rename_i q; subst q
       split at hv
       ·rename_i y ids0 hvw
        simp only [Option.some.injEq,Prod.mk.injEq] at hv
        obtain ⟨rfl,rfl⟩:=hv
        match vs,hl with
        | v :: vs',hl =>
          refine ⟨[v],vs',rfl,?_,hl.2⟩
          obtain ⟨b,cap,arr,g1,g2,g3,g4,g5,g6,g7,us,g8,g9⟩:=hh.ob id _ ho
          rcases hl.1 with ⟨h1,_⟩ | ⟨b',sz,cap',nn,h1,h2,rfl⟩
          ·rw [g1] at h1; cases h1
          ·rw [g1] at h1; cases h1
           obtain ⟨va,vb,rfl,ha,hb⟩:=Xn hh e' cs0 us y [] ids0 hvw g8
           have:vb = []:=by
            cases vb with
            | nil=>rfl
            | cons _ _=>exact hb.elim
           subst this
           rw [List.append_nil] at g9
           have hokb:okb φ (delAll hp (id :: ids0)) b:=by
            intro i o p k1 k2 k3
            rw [Z0] at k1
            split at k1
            ·cases k1
            ·rename_i hn
             exact hh.dj i id o _ p _ b k1 ho (fun e=>hn (by simp [e])) k2 g1 k3 rfl
           have hmono:∀ (t:Ty) (x:t.D) (cs:List Value),K (okb φ hp) w t x cs→K (okb φ (delAll hp (id :: ids0))) w t x cs:=fun t x cs hk=>K_delAll _ hk
           have hlen:List.length (List.set l' j0 y) = List.length (α:=e'.D) l':=List.length_set
           have hfull:K (okb φ (delAll hp (id :: ids0))) w (.sl e') (List.set l' j0 y) [.slice (some ⟨b,0,none⟩) (List.length (α:=e'.D) (List.set l' j0 y)) cap]:=by
            refine ⟨_,cap,rfl,by rw [hlen]; exact g4,fun _=>⟨_,rfl,hokb,fun q x hx=>?_⟩⟩
            by_cases hq:q = j0
            ·subst hq
             rw [List.getElem?_set_self g6] at hx
             cases hx
             refine ⟨va,?_,fun i u hu=>?_⟩
             ·refine YI (fun bl hbl _=>⟨rfl,?_⟩) e' _ _ ha
              intro i o p k1 k2 k3
              rw [Z0] at k1
              split at k1
              ·cases k1
              ·rename_i hn
               refine hbl i o p ?_ k2 k3
               rw [Z0,if_neg (fun hm=>hn (by simp [hm]))]
               exact k1
             ·rw [Yu,Nat.zero_add,Xd g2]
              exact g9 i u hu
            ·rw [List.getElem?_set_ne (fun e=>hq e.symm)] at hx
             obtain ⟨vs1,q1,q2⟩:=g5 q x hq hx
             refine ⟨vs1,hmono _ _ _ q1,fun i u hu=>?_⟩
             rw [Yu,Nat.zero_add,Xd g2]
             exact q2 i u hu
           have:=K_take (w:=w) 0 n (Nat.zero_le _) (by rw [hlen]; exact h2) hfull (some ⟨b,0,none⟩) (fun _=>by simp [Addr.add])
           exact (by simpa using this:K (okb φ (delAll hp (id :: ids0))) w (.sl e') (List.take n (List.set l' j0 y)) [.slice (some ⟨b,0,none⟩) n cap])
       ·cases hv
      ·cases hv
     ·cases hv
    ·cases h
   ·cases h
 | .pair a b,cs,vs,x,r,ids,h,hl=>by
   simp only [view] at h
   split at h
   ·rename_i x1 r1 i1 h1
    split at h
    ·rename_i y1 r2 j1 h2
     simp only [Option.some.injEq,Prod.mk.injEq] at h
     obtain ⟨rfl,rfl,rfl⟩:=h
     obtain ⟨va,vb,rfl,ha,hb⟩:=Xn hh a cs vs x1 r1 i1 h1 hl
     obtain ⟨vc,vd,rfl,hc,hd⟩:=Xn hh b r1 vb y1 r2 j1 h2 hb
     refine ⟨va ++ vc,vd,by simp,⟨va,vc,rfl,?_,?_⟩,hd⟩
     ·rw [XE]; exact K_delAll j1 ha
     ·refine YI (fun bl hbl hlt=>⟨rfl,?_⟩) b _ _ hc
      intro i o p g1 g2 g3
      rw [Z0] at g1
      split at g1
      ·cases g1
      ·rename_i hn
       refine hbl i o p ?_ g2 g3
       rw [Z0,if_neg (fun hm=>hn (by simp [hm]))]
       exact g1
    ·cases h
   ·cases h
 | .wrap a,cs,vs,x,r,ids,h,hl=>by
   simp only [view] at h
   exact Xn hh a cs vs x r ids h hl
theorem YK {w':World} {x:V} {v:Value} {run:Result Value} (h:HRel φ hp f w) (kill:List Nat) (o:Ob) (p:Place) (hr:run = .ok v w')
  (hb:Go.RowKit.Below w.heap.size w w') (hpl:∀ b,p.S b→w.heap.size≤b)
  (ho:Orel (phiSet φ f p) (okb (phiSet φ f p) ((f,o) :: delAll hp kill)) w' f o) (hv:Vrel (phiSet φ f p) (okb (phiSet φ f p) ((f,o) :: delAll hp kill)) w' x v) :
  Good φ hp w f x [o] kill run :=
 ⟨v,w',_,_,hr,rfl,(h.delAll kill).new (Nat.le_refl _) o p hb hpl ho,(Yw φ w kill hp).trans (Xq (h.delAll kill) (Nat.le_refl _) o p hb hpl),hv,fun id hid=>by unfold phiSet; rw [if_neg (by omega)]⟩
theorem run_newVar (t:TypeId) (v:Value):(newVar t v).run P w = .ok ⟨w.heap.size,0,none⟩ (w.alloc (.cells v.cells t (0,0))):=by
 simp [newVar,newRow]
theorem Y5 (w:World) (o:Obj):(w.alloc o).heap[w.heap.size]? = some o:=by
 show (w.heap.push o)[w.heap.size]? = _
 simp
theorem YV (w:World) (o:Obj):Go.RowKit.Below w.heap.size w (w.alloc o):=(Go.RowKit.Below.refl _ _).alloc (Nat.le_refl _) o
theorem Zw (φ:Phi) (f:Nat) (p:Place):phiSet φ f p f = some p:=by simp [phiSet]
theorem Z_rel {ok:Nat→Prop} (z:Z):Crel φ ok w z.c z.val:=by cases z <;> rfl
theorem Z_relAt {ok:Nat→Prop} (f:Nat) (z:Z):Crel φ ok w (z.cAt f) z.val:=by
 cases z <;> first | rfl | exact .inl rfl
theorem L2_map {α β γ:Type} {R:β→γ→Prop} {g:α→β} {h:α→γ} (hr:∀ a,R (g a) (h a)):∀ l:List α,L2 R (l.map g) (l.map h)
 | []=>trivial
 | a :: r=>⟨hr a,L2_map hr r⟩
theorem alloc_ok (hE:∀ t i,E t = some i→TIok P t i) (hh:HRel φ hp f w) (t:TypeId) (b:Bool) (o:Value) (hb:b = true):FRok φ hp w f (falloc E f t) ((Instr.alloc t b o).run P w):=by
 subst hb
 unfold falloc
 cases hi:E t with
 | none=>exact trivial
 | some i =>
   obtain ⟨z,hz,hzc⟩:=XG (hE t i hi) w
   refine YK hh [] _ (.at w.heap.size 1 0 0) (v:=.pointer (some ⟨w.heap.size,0,none⟩)) (w':=w.alloc (.cells z.cells t (0,0))) ?_ (YV _ _) (fun b hb=>by cases hb; exact Nat.le_refl _) ?_ ?_
   ·simp [Instr.alloc,hz,run_newVar]
   ·refine ⟨w.heap.size,i.zero.map Z.val,Zw _ _ _,?_,L2_map (fun z=>Z_relAt _ z) _⟩
    rw [Y5,← hzc]
   ·exact ⟨_,_,_,_,Zw _ _ _,rfl⟩
theorem box_ok (hh:HRel φ hp f w) (t:TypeId) (x:V) (v:Value) (hx:Vrel φ (okb φ hp) w x v):FRok φ hp w f (fbox f t x) ((Instr.box t v).run P w):=by
 unfold fbox
 split
 ·rename_i hk
  have hl:=XK hx hk
  have hb:=YV w (.cells v.cells t (0,0))
  have hpl:∀ b,(Place.at w.heap.size 1 0 0).S b→w.heap.size≤b:=fun b hb=>by cases hb; exact Nat.le_refl _
  have ev:=Xq hh (Nat.le_refl f) (.box t x.cells) (.at w.heap.size 1 0 0) hb hpl
  refine YK hh [] _ (.at w.heap.size 1 0 0) (v:=.pointer (some ⟨w.heap.size,0,none⟩)) (w':=w.alloc (.cells v.cells t (0,0))) ?_ hb hpl ?_ ?_
  ·simp [Instr.box,run_newVar]
  ·exact ⟨w.heap.size,v.cells.toList,Zw _ _ _,by rw [Y5],Yo (fun _ _ hh=>ev.C hh) hl⟩
  ·exact ⟨_,_,_,_,Zw _ _ _,rfl⟩
 ·exact trivial
end
end Go.VM
namespace Go.VM
open Go
theorem YL {α:Type} (l xs:List α) (off:Nat) (h:off + xs.length≤l.length):(putL l off xs).length = l.length:=by
 simp only [putL,List.length_append,List.length_take,List.length_drop]; omega
theorem foldl_put {α:Type}:∀ (vs:List α) (off j:Nat) (cs:Array α),off + j + vs.length≤cs.size →
  ((vs.zipIdx j).foldl (fun cs p=>cs.setIfInBounds (off + p.2) p.1) cs).toList = putL cs.toList (off + j) vs
 | [],off,j,cs,h=>by simp [putL]
 | v :: vs,off,j,cs,h=>by
   simp only [List.length_cons] at h
   simp only [List.zipIdx_cons,List.foldl_cons]
   rw [foldl_put vs off (j + 1) _ (by simp; omega)]
   have hlt:off + j < cs.toList.length:=by simp; omega
   simp only [putL,Array.toList_setIfInBounds,List.length_cons,← Nat.add_assoc]
   rw [List.take_set,List.drop_set,if_pos (by omega)]
   rw [List.take_add_one,List.getElem?_eq_getElem hlt]
   simp only [Option.toList_some]
   rw [List.set_append]
   simp only [List.length_take,Nat.min_eq_left (Nat.le_of_lt hlt),Nat.lt_irrefl,if_false,Nat.sub_self,List.set_cons_zero]
   rw [show off + j + 1 + vs.length = off + j + (vs.length + 1) by omega]
   simp only [List.append_assoc,List.cons_append,List.nil_append]
   rfl
theorem fold_put {α:Type} (vs:Array α) (off:Nat) (cs:Array α) (h:off + vs.size≤cs.size) :
  (vs.zipIdx.foldl (fun cs p=>cs.setIfInBounds (off + p.2) p.1) cs).toList = putL cs.toList off vs.toList:=by
 rw [← Array.foldl_toList,Array.toList_zipIdx]
 simpa using foldl_put vs.toList off 0 cs (by simpa using h)
theorem L2_put {α β:Type} {R:α→β→Prop} {l xs:List α} {m ys:List β} (h:L2 R l m) (hx:L2 R xs ys) (off:Nat):L2 R (putL l off xs) (putL m off ys):=by
 unfold putL
 rw [YW hx]
 exact YA (YA (Xr off h) hx) (Xs _ h)
section
variable {P:Program} {E:Ev} {φ:Phi} {w:World} {hp:Hp} {f:Nat}
theorem fill_cons {place:Nat→Option (Nat × Nat)} {cells:Array Value} {i:Nat} {v:Value} {rest:List (Nat × Value)} {off size:Nat} (hpl:place i = some (off,size)) (hs:v.cells.size = size) (hl:off + size≤cells.size) :
  ∃ cells':Array Value,cells'.toList = putL cells.toList off v.cells.toList∧Instr.fill place cells ((i,v) :: rest) = Instr.fill place cells' rest:=by
 refine ⟨_,fold_put v.cells off cells (by omega),?_⟩
 simp only [Instr.fill,hpl,hs,ne_eq,not_true,decide_false,Bool.false_or]
 rw [if_neg (by simp; omega)]
theorem fillC_ok (hE:∀ t i,E t = some i→TIok P t i) {place:Nat→Option (Nat × Nat)} {fs:List (Nat × TypeId)} (hpl:∀ i off t,fs[i]? = some (off,t)→0 < szOf E t→place i = some (off,szOf E t)) :
  ∀ (parts:List (Nat × V)) (pv:List (Nat × Value)) (cs out:List C) (cells:Array Value),L2 (Crel φ (okb φ hp) w) cs cells.toList →
    L2 (fun p q=>p.1 = q.1∧Vrel φ (okb φ hp) w p.2 q.2) parts pv→fillC E fs cs parts = some out →
    ∃ cells',Instr.fill place cells pv = some cells'∧L2 (Crel φ (okb φ hp) w) out cells'.toList
 | [],[],cs,out,cells,hl,_,h=>by
   simp only [fillC,Option.some.injEq] at h
   subst h
   exact ⟨cells,rfl,hl⟩
 | (i,v) :: r,(i',u) :: pr,cs,out,cells,hl,hp',h=>by
   obtain ⟨⟨e,hv⟩,hr⟩:=hp'
   simp only at e hv
   subst e
   unfold fillC at h
   split at h
   ·rename_i off t hf
    split at h
    ·rename_i hc
     simp only [Bool.and_eq_true] at hc
     have hb:=Yt hc.1.2
     have hle:=Nat.le_of_ble_eq_true hc.2
     have hv':=XK hv hc.1.1.2
     have hus:u.cells.toList.length = u.cells.size:=by simp
     have hcs:cells.toList.length = cells.size:=by simp
     have hvl:=YW hv'
     have hcl:=YW hl
     have hpos:0 < szOf E t:=Nat.le_of_ble_eq_true hc.1.1.1
     obtain ⟨cells',h1,h2⟩:=fill_cons (rest:=pr) (cells:=cells) (v:=u) (hpl i off t hf hpos) (by omega) (by omega)
     rw [h2]
     exact fillC_ok hE hpl r pr _ out cells' (by rw [h1]; exact L2_put hl hv' off) hr h
    ·cases h
   ·cases h
 | [],_ :: _,_,_,_,_,hp',_=>hp'.elim
 | _ :: _,[],_,_,_,_,hp',_=>hp'.elim
theorem run_mapM {α β:Type} (g:α→Sem β) (h:α→β) (w:World):∀ l:List α,(∀ a ∈ l,(g a).run P w = .ok (h a) w)→(l.mapM g).run P w = .ok (l.map h) w
 | [],_=>by simp
 | a :: r,hr=>by
   have h1:=hr a (by simp)
   have h2:=run_mapM g h w r (fun b hb=>hr b (by simp [hb]))
   simp [h1,h2]
theorem run_mapA {α β:Type} (g:α→Sem β) (h:α→β) (w:World) (l:Array α) (hr:∀ a ∈ l.toList,(g a).run P w = .ok (h a) w):(l.mapM g).run P w = .ok (l.map h) w:=by
 rw [Array.mapM_eq_mapM_toList]
 have:=run_mapM (P:=P) g h w l.toList hr
 simp only [Sem.run_map,this,Result.andThen_ok]
 congr 1
 apply Array.ext'
 simp
theorem arrFs_get (sz:Nat) (e:TypeId):∀ (n k0 k:Nat) (off:Nat) (t:TypeId),(arrFs sz e k0 n)[k]? = some (off,t)→off = (k0 + k) * sz∧t = e
 | 0,k0,k,off,t,h=>by simp [arrFs] at h
 | n + 1,k0,0,off,t,h=>by simp [arrFs] at h; exact ⟨by rw [Nat.add_zero]; exact h.1.symm,h.2.symm⟩
 | n + 1,k0,k + 1,off,t,h=>by
   simp only [arrFs,List.getElem?_cons_succ] at h
   obtain ⟨h1,h2⟩:=arrFs_get sz e n (k0 + 1) k off t h
   exact ⟨by rw [h1]; congr 1; omega,h2⟩
theorem build_ok (hE:∀ t i,E t = some i→TIok P t i) (hh:HRel φ hp f w) (t:TypeId) (parts:List (Nat × V)) (pv:Array (Nat × Value))
  (hpv:L2 (fun p q=>p.1 = q.1∧Vrel φ (okb φ hp) w p.2 q.2) parts pv.toList):FRok φ hp w f (fbuild E t parts) ((Instr.build t pv).run P w):=by
 unfold fbuild
 cases hi:E t with
 | none=>exact trivial
 | some i =>
   have hI:=hE t i hi
   simp only
   split
   ·rename_i fs hk
    split
    ·rename_i hall
     split
     ·rename_i cs hf
      have hu:=hI.und
      rw [hk] at hu
      obtain ⟨a,h1,h2,_⟩:=hu
      obtain ⟨z,hz,hzc⟩:=XG hI w
      have hm:(a.mapM (fun f=>do pure (f.offset,← sizeOf f.type):Field→Sem (Nat × Nat))).run P w = .ok (a.map (fun f=>(f.offset,szOf E f.type))) w:=by
       refine run_mapA _ _ w a (fun fd hfd=>?_)
       have hmem:(fd.offset,fd.type) ∈ fs:=by rw [← h2]; exact List.mem_map.2 ⟨fd,hfd,rfl⟩
       have hpos:0 < szOf E fd.type:=Nat.le_of_ble_eq_true (List.all_eq_true.1 hall _ hmem)
       obtain ⟨ii,hii,hsz,hI'⟩:=YP hE hpos
       simp [YB hI',hsz]
      have hl0:L2 (Crel φ (okb φ hp) w) (i.zero.map Z.c) z.cells.toList:=by rw [hzc]; exact L2_map (fun z=>Z_rel z) _
      obtain ⟨cells',h3,h4⟩:=fillC_ok (w:=w) (φ:=φ) (hp:=hp) (place:=fun k=>(a.map (fun f=>(f.offset,szOf E f.type)))[k]?) (fs:=fs) hE (fun k off t' hk' hpos=>by
       rw [← h2,List.getElem?_map] at hk'
       simp only [Array.getElem?_map]
       rw [← Array.getElem?_toList]
       cases hg:a.toList[k]? with
       | none=>rw [hg] at hk'; cases hk'
       | some g =>
         rw [hg] at hk'
         simp only [Option.map_some,Option.some.injEq,Prod.mk.injEq] at hk'
         obtain ⟨rfl,rfl⟩:=hk'
         rfl) parts pv.toList _ cs z.cells hl0 hpv hf
      refine Zf hh (v:=.agg cells') ?_ ⟨cells'.toList,rfl,h4⟩
      unfold Instr.build
      simp only [Sem.run_bind,hz,Result.andThen_ok,Yi h1,hm,h3,Sem.run_pure]
     ·exact trivial
    ·exact trivial
   ·rename_i n e hk
    split
    ·rename_i hb
     split
     ·rename_i cs hf
      have hu:=hI.und
      rw [hk] at hu
      obtain ⟨z,hz,hzc⟩:=XG hI w
      obtain ⟨ii,hii,hszi,hI'⟩:=YP hE (Nat.le_of_ble_eq_true hb)
      have hs:(sizeOf e).run P w = .ok (szOf E e) w:=by rw [YB hI',← hszi]
      have hl0:L2 (Crel φ (okb φ hp) w) (i.zero.map Z.c) z.cells.toList:=by rw [hzc]; exact L2_map (fun z=>Z_rel z) _
      obtain ⟨cells',h3,h4⟩:=fillC_ok (w:=w) (φ:=φ) (hp:=hp) (place:=fun k=>some (k * szOf E e,szOf E e)) (fs:=arrFs (szOf E e) e 0 n) hE (fun k off t' hk' hpos=>by
       obtain ⟨rfl,rfl⟩:=arrFs_get _ _ n 0 k off t' hk'
       simp) parts pv.toList _ cs z.cells hl0 hpv hf
      refine Zf hh (v:=.agg cells') ?_ ⟨cells'.toList,rfl,h4⟩
      unfold Instr.build
      simp only [Sem.run_bind,hz,Result.andThen_ok,Yi hu,hs,h3,Sem.run_pure]
     ·exact trivial
    ·exact trivial
   ·exact trivial
theorem putL_get_lt {α:Type} {l xs:List α} {off i:Nat} (h:i < off) (hl:off + xs.length≤l.length):(putL l off xs)[i]? = l[i]?:=by
 unfold putL
 rw [List.append_assoc,List.getElem?_append_left (by rw [List.length_take]; omega),List.getElem?_take,if_pos h]
theorem putL_get_mid {α:Type} {l xs:List α} {off i:Nat} {x:α} (h:xs[i]? = some x) (hl:off + xs.length≤l.length):(putL l off xs)[off + i]? = some x:=by
 have hi:=(List.getElem?_eq_some_iff.1 h).1
 unfold putL
 rw [List.append_assoc,List.getElem?_append_right (by rw [List.length_take]; omega),List.length_take,Nat.min_eq_left (by omega),Nat.add_sub_cancel_left,List.getElem?_append_left hi]
 exact h
theorem lit_fill (hh:HRel φ hp f w) (e:Ty):∀ (parts:List (Nat × V)) (pv:List (Nat × Value)) (k:Nat) (l:List e.D) (ids:List Nat) (cells:Array Value),
  L2 (fun p q=>p.1 = q.1∧Vrel φ (okb φ hp) w p.2 q.2) parts pv→litC Lv.std (lookA hp) e k parts = some (l,ids)→(k + parts.length) * e.n≤cells.size →
  ∃ cells',Instr.fill (fun i=>some (i * e.n,e.n)) cells pv = some cells'∧cells'.size = cells.size∧l.length = parts.length∧(∀ q,q < k * e.n→cells'[q]? = cells[q]?) ∧
    ∀ j (x:e.D),l[j]? = some x→∃ vs,K (okb φ (delAll hp ids)) w e x vs∧∀ i u,vs[i]? = some u→cells'[(k + j) * e.n + i]? = some u
 | [],[],k,l,ids,cells,_,h,_=>by
   simp only [litC,Option.some.injEq,Prod.mk.injEq] at h
   obtain ⟨rfl,rfl⟩:=h
   exact ⟨cells,rfl,rfl,rfl,fun _ _=>rfl,fun j x hx=>by simp at hx⟩
 | (i,v) :: r,(i',u) :: pr,k,l,ids,cells,hp',h,hsz=>by
   obtain ⟨⟨ei,hv⟩,hr⟩:=hp'
   simp only at ei hv
   subst ei
   unfold litC at h
   split at h
   ·rename_i hc
    simp only [Bool.and_eq_true] at hc
    have hik:=Yt hc.1
    subst hik
    split at h
    ·rename_i x ids1 hvw
     split at h
     ·rename_i l' ids2 hlit
      simp only [Option.some.injEq,Prod.mk.injEq] at h
      obtain ⟨rfl,rfl⟩:=h
      have hcr:=XK hv hc.2
      obtain ⟨vs1,vs2,e1,hk,hvs2⟩:=Xn hh e v.cells u.cells.toList x [] ids1 hvw hcr
      have:vs2 = []:=by
       cases vs2 with
       | nil=>rfl
       | cons a b=>exact hvs2.elim
      subst this
      rw [List.append_nil] at e1
      have hvl:=Xz e x vs1 hk
      have hus:u.cells.toList.length = u.cells.size:=by simp
      have hcs:cells.toList.length = cells.size:=by simp
      simp only [List.length_cons] at hsz
      have hmul:i * e.n + e.n≤(i + (r.length + 1)) * e.n:=by
       rw [show i + (r.length + 1) = (i + 1) + r.length by omega,Nat.add_mul,Nat.add_mul,Nat.one_mul]; omega
      obtain ⟨c1,g1,g2⟩:=fill_cons (rest:=pr) (cells:=cells) (v:=u) (i:=i) (place:=fun i=>some (i * e.n,e.n)) rfl (by rw [← hus,e1,hvl]) (by omega)
      have hc1:c1.size = cells.size:=by
       rw [← Array.length_toList,g1,YL _ _ _ (by rw [e1,hvl,hcs]; omega),hcs]
      obtain ⟨c2,k1,k2,k3,k4,k5⟩:=lit_fill hh e r pr (i + 1) l' ids2 c1 hr hlit (by rw [hc1,show i + 1 + r.length = i + (r.length + 1) by omega]; exact hsz)
      refine ⟨c2,by rw [g2]; exact k1,k2.trans hc1,by simp [k3],fun q hq=>?_,fun j x' hx'=>?_⟩
      ·rw [k4 q (by rw [Nat.add_mul]; omega),← Array.getElem?_toList,g1,putL_get_lt hq (by rw [e1,hvl,hcs]; omega),Array.getElem?_toList]
      ·cases j with
       | zero =>
         simp only [List.getElem?_cons_zero,Option.some.injEq] at hx'
         subst hx'
         refine ⟨vs1,by rw [XE]; exact K_delAll ids2 hk,fun q y hy=>?_⟩
         have hq:=(List.getElem?_eq_some_iff.1 hy).1
         rw [Nat.add_zero,k4 _ (by rw [Nat.add_mul,Nat.one_mul]; omega),← Array.getElem?_toList,g1]
         exact putL_get_mid (by rw [e1]; exact hy) (by rw [e1,hvl,hcs]; omega)
       | succ j =>
         simp only [List.getElem?_cons_succ] at hx'
         obtain ⟨vs,q1,q2⟩:=k5 j x' hx'
         refine ⟨vs,?_,fun q y hy=>by have:=q2 q y hy; rwa [show i + 1 + j = i + (j + 1) by omega] at this⟩
         refine YI (fun bl hbl _=>⟨rfl,?_⟩) e _ _ q1
         intro a o p g1 g2 g3
         rw [Z0] at g1
         split at g1
         ·cases g1
         ·rename_i hn
          refine hbl a o p ?_ g2 g3
          rw [Z0,if_neg (fun hm=>hn (by simp [hm]))]
          exact g1
     ·cases h
    ·cases h
   ·cases h
 | [],_ :: _,_,_,_,_,hp',_,_=>hp'.elim
 | _ :: _,[],_,_,_,_,hp',_,_=>hp'.elim
theorem buildSlice_ok (hE:∀ t i,E t = some i→TIok P t i) (hh:HRel φ hp f w) (t:TypeId) (len:Nat) (parts:List (Nat × V)) (pv:Array (Nat × Value))
  (hpv:L2 (fun p q=>p.1 = q.1∧Vrel φ (okb φ hp) w p.2 q.2) parts pv.toList):FRok φ hp w f (fbuildSlice Lv.std E (lookA hp) f t len parts) ((Instr.buildSlice t len pv).run P w):=by
 unfold fbuildSlice
 cases he:elemOf E t with
 | none=>exact trivial
 | some et =>
   have hu:=Xu hE he
   simp only
   cases hi:E et with
   | none=>exact trivial
   | some i =>
     have hI:=hE et i hi
     simp only
     split
     ·rename_i hc
      simp only [Bool.and_eq_true] at hc
      have h1:=Yt hc.1.1
      have h2:=Yt hc.1.2
      have h3:=Nat.le_of_ble_eq_true hc.2
      split
      ·rename_i l ids hlit
       have hne:=hI.ne
       obtain ⟨z,hz,hzc⟩:=XG hI w
       let zero:Array Value:=if len * i.size = 0 then #[] else z.cells
       let base:Array Value:=(Array.range (len * i.size)).map (fun q=>zero[q % zero.size]!)
       have hbs:base.size = len * i.size:=by simp [base]
       obtain ⟨cells',k1,k2,k3,k4,k5⟩:=lit_fill hh i.ty parts pv.toList 0 l ids base hpv hlit (by rw [hbs,Nat.zero_add,h2,h1]; exact Nat.le_refl _)
       refine YK hh ids _ (.at w.heap.size i.ty.n len (List.length (α:=i.ty.D) l)) (v:=.slice (some ⟨w.heap.size,0,none⟩) len len) (w':=w.alloc (.cells cells' et (0,0))) ?_ (YV _ _) (fun b hb=>by cases hb; exact Nat.le_refl _) ?_ ?_
       ·have hle:¬ len * i.size > 2 ^ 24:=by simpa using h3
        have hfill:Instr.fill (fun q=>some (q * i.size,i.size)) base pv.toList = some cells':=by rw [← h1]; exact k1
        unfold Instr.buildSlice
        simp only [Sem.run_bind,Yi hu,Result.andThen_ok,YB hI]
        rw [Sem.run_ite,if_neg hle]
        by_cases h0:len * i.size = 0
        ·have hz0:zero = #[]:=by simp [zero,h0]
         have hb:Array.map (fun x=>(#[]:Array Value)[x % (#[]:Array Value).size]!) (Array.range (len * i.size)) = base:=by simp only [base,hz0]
         rw [Sem.run_ite,if_pos h0]
         simp only [Sem.run_bind,Sem.run_pure,Result.andThen_ok]
         rw [hb,hfill]
         simp [newRow]
        ·have hz0:zero = z.cells:=by simp only [zero,if_neg h0]
         have hb:Array.map (fun x=>z.cells[x % z.cells.size]!) (Array.range (len * i.size)) = base:=by simp only [base,hz0]
         rw [Sem.run_ite,if_neg h0]
         simp only [Sem.run_bind,hz,Sem.run_pure,Result.andThen_ok]
         rw [hb,hfill]
         simp [newRow]
       ·refine .inr ⟨w.heap.size,len,cells',Zw _ _ _,Y5 _ _,by rw [k2,hbs,h1],by rw [k3,h2]; exact Nat.le_refl _,fun j x hx=>?_⟩
        obtain ⟨vs,q1,q2⟩:=k5 j x hx
        have ev:=Xq (hh.delAll ids) (Nat.le_refl f) (.row et i.ty l) (.at w.heap.size i.ty.n len (List.length (α:=i.ty.D) l)) (YV w (.cells cells' et (0,0))) (fun b hb=>by cases hb; exact Nat.le_refl _)
        exact ⟨vs,ev.K _ _ _ q1,fun q u hu=>by have:=q2 q u hu; rwa [Nat.zero_add] at this⟩
       ·exact .inr ⟨_,_,_,_,Zw _ _ _,by rw [k3,h2]; exact Nat.le_refl _,rfl⟩
      ·exact trivial
     ·exact trivial
end
end Go.VM
namespace Go.VM
open Go
section
variable {P:Program} {E:Ev} {φ:Phi} {w:World} {hp:Hp} {f:Nat}
theorem Xv:∀ t:Ty,(zeroTy t).length = t.n
 | .int _ | .bool | .str | .sl _=>rfl
 | .pair a b=>by simp [zeroTy,Ty.n,Xv a,Xv b]
 | .wrap a=>Xv a
theorem XF {ok:Nat→Prop} {w:World}:∀ t:Ty,K ok w t t.dflt ((zeroTy t).map Z.val)
 | .int _=>rfl
 | .bool=>rfl
 | .str=>rfl
 | .sl e=>⟨none,0,rfl,Nat.le_refl _,fun h=>absurd h (by simp [Ty.dflt])⟩
 | .pair a b=>⟨_,_,by simp [zeroTy],XF a,XF b⟩
 | .wrap a=>XF a
theorem made_get {z:Array Value} {n j i:Nat} {u:Value} (hu:z[i]? = some u) (hj:j < n):(madeCells z (n * z.size))[j * z.size + i]? = some u:=by
 have hi:i < z.size:=(Array.getElem?_eq_some_iff.1 hu).1
 have hle:j * z.size + z.size≤n * z.size:=by rw [← Nat.succ_mul]; exact Nat.mul_le_mul_right _ hj
 have hlt:j * z.size + i < n * z.size:=by omega
 unfold madeCells
 rw [Array.getElem?_map,Array.getElem?_range,if_pos hlt]
 simp only [Option.map_some]
 rw [Nat.mul_comm,Nat.mul_add_mod,Nat.mod_eq_of_lt hi,getElem!_pos z i hi]
 rw [Array.getElem?_eq_getElem hi] at hu
 exact hu
theorem makeSlice_ok (hE:∀ t i,E t = some i→TIok P t i) (hh:HRel φ hp f w) (t:TypeId) (x y:V) (v u:Value) (hx:Vrel φ (okb φ hp) w x v) (hy:Vrel φ (okb φ hp) w y u) :
  FRok φ hp w f (fmakeSlice Lv.std E f t x y) ((Instr.makeSlice t v u).run P w):=by
 unfold fmakeSlice
 cases he:elemOf E t with
 | none=>exact trivial
 | some et =>
   have hu:=Xu hE he
   simp only
   split
   ·rename_i i k1 n k2 m hi
    have hI:=hE et i hi
    split
    ·rename_i hc
     have hz0:zeroTy i.ty = i.zero:=of_decide_eq_true hc
     rintro ⟨h0,h1,h2,h3⟩
     obtain rfl:v = _:=hx
     obtain rfl:u = _:=hy
     obtain ⟨ti,hti,hts,htb,htz⟩:=hI.info
     have hne:=hI.ne
     obtain ⟨z,hz,hzc⟩:∃ z,ti.zero = some z∧z.cells.toList = i.zero.map Z.val:=by
      cases h:ti.zero with
      | none=>simp [h] at htz
      | some z=>exact ⟨z,rfl,by simpa [h] using htz⟩
     have hzs:z.cells.size = i.ty.n:=by rw [← Array.length_toList,hzc,List.length_map,← hz0,Xv]
     have hsz:ti.size = z.cells.size:=by rw [hts,← hI.zsz,← Array.length_toList,hzc,List.length_map]
     have hr:=run_make (P:=P) w t et ti z hu hti hz k1 k2 n m h0 h1 (by rw [htb,Int.mul_comm]; omega) (by omega)
     rw [hsz] at hr
     refine YK hh [] _ (.at w.heap.size i.ty.n m.toNat n.toNat) hr (YV _ _) (fun b hb=>by cases hb; exact Nat.le_refl _) ?_ ?_
     ·have hlen:List.length (α:=i.ty.D) (List.replicate n.toNat i.ty.dflt) = n.toNat:=List.length_replicate
      refine .inr ⟨w.heap.size,m.toNat,_,?_,Y5 _ _,?_,?_,fun j x hx=>⟨i.zero.map Z.val,?_,fun q u hq=>?_⟩⟩
      ·rw [Zw]
       show some (Place.at _ _ _ _) = some (Place.at _ _ _ (List.length (α:=i.ty.D) (List.replicate n.toNat i.ty.dflt)))
       rw [hlen]
      ·rw [size_madeCells,hzs]
      ·show List.length (α:=i.ty.D) (List.replicate n.toNat i.ty.dflt)≤_
       rw [hlen]; omega
      ·change (List.replicate n.toNat i.ty.dflt)[j]? = some x at hx
       obtain rfl:x = i.ty.dflt:=by
        rw [List.getElem?_replicate] at hx
        split at hx
        ·cases hx; rfl
        ·cases hx
       rw [← hz0]; exact XF i.ty
      ·change (List.replicate n.toNat i.ty.dflt)[j]? = some x at hx
       have hj:j < n.toNat:=by
        have:=(List.getElem?_eq_some_iff.1 hx).1
        simpa using this
       rw [← hzs]
       refine made_get ?_ (by omega)
       rw [← hzc] at hq
       rwa [Array.getElem?_toList] at hq
     ·exact .inr ⟨_,_,_,_,Zw _ _ _,Nat.le_refl _,rfl⟩
    ·exact trivial
   ·exact trivial
end
end Go.VM
namespace Go.VM
open Go
def Src (ok:Nat→Prop) (w:World) (e:Ty) (ys:List e.D) (news:List Value):Prop :=
 news.length = List.length (α:=e.D) ys * e.n∧(∀ u ∈ news,u.oneCell' = true)∧∀ j (x:e.D),ys[j]? = some x→∃ vs,K ok w e x vs∧∀ i u,vs[i]? = some u→news[j * e.n + i]? = some u
theorem K_one {ok:Nat→Prop} {w:World}:∀ (t:Ty) (x:t.D) (vs:List Value),K ok w t x vs→∀ u ∈ vs,u.oneCell' = true
 | .int _,_,_,h | .bool,_,_,h | .str,_,_,h=>by simp only [K] at h; subst h; simp [Value.oneCell']
 | .sl _,_,_,h=>by obtain ⟨A,c,rfl,_⟩:=h; simp [Value.oneCell']
 | .pair a b,x,vs,h=>by
   obtain ⟨c1,c2,rfl,h1,h2⟩:=h
   intro u hu
   rcases List.mem_append.1 hu with hu | hu
   ·exact K_one a _ _ h1 u hu
   ·exact K_one b _ _ h2 u hu
 | .wrap a,x,vs,h=>K_one a x vs h
theorem gather {ok:Nat→Prop} {w:World} {R:Nat→Value→Prop} (e:Ty):∀ (ys:List e.D) (s:Nat),
  (∀ j (x:e.D),ys[j]? = some x→∃ vs,K ok w e x vs∧∀ i u,vs[i]? = some u→R ((s + j) * e.n + i) u)→∃ news,Src ok w e ys news∧∀ j u,news[j]? = some u→R (s * e.n + j) u
 | [],s,_=>⟨[],⟨by simp,by simp,fun j x hx=>by simp at hx⟩,fun j u hu=>by simp at hu⟩
 | y :: ys,s,h=>by
   obtain ⟨vs,hk,hv⟩:=h 0 y rfl
   obtain ⟨news,⟨h1,h2,h3⟩,hr⟩:=gather e ys (s + 1) (fun j x hx=>by have:=h (j + 1) x (by simpa using hx); rwa [show s + (j + 1) = s + 1 + j by omega] at this)
   have hlen:=Xz e y vs hk
   have hmul:(s + 1) * e.n = s * e.n + e.n:=Nat.succ_mul _ _
   refine ⟨vs ++ news,⟨by rw [List.length_append,h1,hlen,List.length_cons,Nat.succ_mul]; omega,fun u hu=>?_,fun j x hx=>?_⟩,fun j u hu=>?_⟩
   ·rcases List.mem_append.1 hu with hu | hu
    ·exact K_one e _ _ hk u hu
    ·exact h2 u hu
   ·cases j with
    | zero =>
      simp only [List.getElem?_cons_zero,Option.some.injEq] at hx
      subst hx
      refine ⟨vs,hk,fun i u hu=>?_⟩
      have hi:=(List.getElem?_eq_some_iff.1 hu).1
      rw [Nat.zero_mul,Nat.zero_add,List.getElem?_append_left hi]; exact hu
    | succ j =>
      simp only [List.getElem?_cons_succ] at hx
      obtain ⟨us,q1,q2⟩:=h3 j x hx
      refine ⟨us,q1,fun i u hu=>?_⟩
      have hm:(j + 1) * e.n = j * e.n + e.n:=Nat.succ_mul _ _
      rw [List.getElem?_append_right (by rw [hlen,hm]; omega),hlen,show (j + 1) * e.n + i - e.n = j * e.n + i by omega]
      exact q2 i u hu
   ·by_cases hj:j < vs.length
    ·rw [List.getElem?_append_left hj] at hu
     have:=hv j u hu
     simpa using this
    ·rw [List.getElem?_append_right (by omega)] at hu
     have:=hr _ u hu
     rw [hlen] at this
     rwa [show (s + 1) * e.n + (j - e.n) = s * e.n + j by omega] at this
theorem Src.app {ok:Nat→Prop} {w:World} {e:Ty} {l m:List e.D} {a b:List Value} (h:Src ok w e l a) (k:Src ok w e m b):Src ok w e (List.append (α:=e.D) l m) (a ++ b):=by
 obtain ⟨h1,h2,h3⟩:=h
 obtain ⟨k1,k2,k3⟩:=k
 have hl:List.length (α:=e.D) (List.append (α:=e.D) l m) = List.length (α:=e.D) l + List.length (α:=e.D) m:=List.length_append
 refine ⟨by rw [List.length_append,h1,k1,hl,Nat.add_mul],fun u hu=>?_,fun j x hx=>?_⟩
 ·rcases List.mem_append.1 hu with hu | hu
  ·exact h2 u hu
  ·exact k2 u hu
 ·change (l ++ m:List e.D)[j]? = some x at hx
  by_cases hj:j < List.length (α:=e.D) l
  ·rw [List.getElem?_append_left hj] at hx
   obtain ⟨vs,q1,q2⟩:=h3 j x hx
   refine ⟨vs,q1,fun i u hu=>?_⟩
   have hi:i < e.n:=by rw [← Xz e x vs q1]; exact (List.getElem?_eq_some_iff.1 hu).1
   have hle:j * e.n + e.n≤List.length (α:=e.D) l * e.n:=by rw [← Nat.succ_mul]; exact Nat.mul_le_mul_right _ hj
   rw [List.getElem?_append_left (by omega)]
   exact q2 i u hu
  ·rw [List.getElem?_append_right (by omega)] at hx
   obtain ⟨vs,q1,q2⟩:=k3 _ x hx
   refine ⟨vs,q1,fun i u hu=>?_⟩
   have hle:List.length (α:=e.D) l * e.n≤j * e.n:=Nat.mul_le_mul_right _ (by omega)
   rw [List.getElem?_append_right (by omega),h1]
   have:=q2 i u hu
   rwa [Nat.sub_mul,show j * e.n - List.length (α:=e.D) l * e.n + i = j * e.n + i - List.length (α:=e.D) l * e.n by omega] at this
theorem Src.mono {ok ok':Nat→Prop} {w w':World} {e:Ty} {l:List e.D} {a:List Value} (h:Src ok w e l a) (hk:∀ x vs,K ok w e x vs→K ok' w' e x vs):Src ok' w' e l a :=
 ⟨h.1,h.2.1,fun j x hx=>by obtain ⟨vs,q1,q2⟩:=h.2.2 j x hx; exact ⟨vs,hk _ _ q1,q2⟩⟩
section
variable {P:Program} {E:Ev} {φ:Phi} {w:World} {hp:Hp} {f:Nat}
section
variable (tB tX ty e:TypeId) (i:TypeInfo) (z:Value) (ht:P.underlying tB = some (.slice e)) (hX:(∃ q,P.underlying tX = some (.slice q))∨P.underlying tX = some .string)
  (hi:P.info? e = some i) (hz:i.zero = some z) (x:Value) (m:Nat) (news:List Value) (hlen:∀ w:World,(Builtin.lenOf x).run P w = .ok m w)
  (hf:∀ w':World,w'.heap = w.heap→(Builtin.firstCells i.size m x).run P w' = .ok news.toArray w') (hl:news.length = m * i.size)
include ht hX hi hlen hf hl
theorem run_app_none (hm:m = 0) (A:Option Addr):(Builtin.append_ #[tB,tX] ty #[.slice A 0 0,x]).run P w = .ok (.slice A 0 0) w:=by
 subst hm
 have hn:news = []:=List.eq_nil_of_length_eq_zero (by simpa using hl)
 subst hn
 have hfw:=hf w rfl
 rcases hX with ⟨q,hX⟩ | hX <;> cases A <;> simp [Builtin.append_,run_underlying ht,run_underlying hX,sizeOf,typeInfo,hi,hlen,hfw,storeCells]
theorem run_app_room (g sLen sCap:Nat) (cur:Array Value) (hg:w.heap[g]? = some (.cells cur e (0,0))) (h1:∀ u ∈ news,u.oneCell' = true)
  (hroom:sLen + m≤sCap) (hfit:sLen * i.size + news.length≤cur.size) :
  (Builtin.append_ #[tB,tX] ty #[.slice (some ⟨g,0,none⟩) sLen sCap,x]).run P w =
   .ok (.slice (some ⟨g,0,none⟩) (sLen + m) sCap) (w.setRow g (cur.toList.take (sLen * i.size) ++ news ++ cur.toList.drop (sLen * i.size + news.length)).toArray):=by
 have hfw:=hf w rfl
 have hst:=run_storeCells_at P g (sLen * i.size) e news 0 cur w hg (by simpa using hfit) h1
 simp only [Nat.add_zero] at hst
 rcases hX with ⟨q,hX⟩ | hX <;> simp [Builtin.append_,run_underlying ht,run_underlying hX,sizeOf,typeInfo,hi,hlen,hroom,hfw,Addr.add_lit,hst]
theorem run_app_grow (hz:i.zero = some z) (A:Option Addr) (sLen sCap:Nat) (olds:List Value) (hlo:olds.length = sLen * i.size) (hfo:∀ w':World,w'.heap = w.heap→(Builtin.firstCells i.size sLen (.slice A sLen sCap)).run P w' = .ok olds.toArray w')
  (hg:sCap < sLen + m) (h63:((sLen + m:Nat):Int)≤9223372036854775807) (hfit:Builtin.nextslicecap (sLen + m) sCap * i.bytes≤281474976710656) :
  (Builtin.append_ #[tB,tX] ty #[.slice A sLen sCap,x]).run P w =
   .ok (.slice (some ⟨w.heap.size,0,none⟩) (sLen + m) (grownCap w (sLen + m) sCap e))
    (w.drew.alloc (.cells (olds.toArray ++ news.toArray ++ Builtin.zeroCells z.cells (grownCap w (sLen + m) sCap e - (sLen + m))) e)):=by
 have hn:¬ (sLen + m≤sCap):=by omega
 have h63':¬ (9223372036854775807 < ((sLen:Int) + (m:Int))):=by omega
 have h48':¬ (281474976710656 < Builtin.nextslicecap (sLen + m) sCap * i.bytes):=by omega
 have hfw:=hf w.drew rfl
 have hfo':=hfo w.drew rfl
 rcases hX with ⟨q,hX⟩ | hX <;>
 ·simp [Builtin.append_,run_underlying ht,run_underlying hX,sizeOf,typeInfo,zeroValue,hi,hz,hlen,hn,h63',h48',Question.forced,hfw,hfo',newRow,grownCap]
  try (congr 2; apply Array.ext'; simp [List.append_assoc])
end
theorem noInt_ok (hE:∀ t i,E t = some i→TIok P t i) {t:TypeId} (h:noInt E t = true):(∃ q,P.underlying t = some (.slice q))∨P.underlying t = some .string:=by
 unfold noInt at h
 cases hi:E t with
 | none=>rw [hi] at h; cases h
 | some i =>
   rw [hi] at h
   simp only at h
   have hu:=(hE t i hi).und
   cases hk:i.kd <;> rw [hk] at h hu <;> simp only at h hu <;> try cases h
   ·exact .inr hu
   ·exact .inl ⟨_,hu⟩
end
end Go.VM
namespace Go.VM
open Go Go.Lib
section
variable {P:Program} {E:Ev} {φ:Phi} {w:World} {hp:Hp} {f:Nat}
theorem row_new {ok:Nat→Prop} {id b cap:Nat} {t:TypeId} {e:Ty} {l:List e.D} {xs:List Value} {arr:Array Value} (h1:φ id = some (.at b e.n cap (List.length (α:=e.D) l))) (h2:w.heap[b]? = some (.cells arr t (0,0)))
  (h3:arr.size = cap * e.n) (h4:List.length (α:=e.D) l≤cap) (hs:Src ok w e l xs) (hx:∀ (j:Nat) (u:Value),xs[j]? = some u→arr[j]? = some u):Orel φ ok w id (.row t e l) :=
 .inr ⟨b,cap,arr,h1,h2,h3,h4,fun j x hj=>by obtain ⟨vs,q1,q2⟩:=hs.2.2 j x hj; exact ⟨vs,q1,fun i u hu=>hx _ _ (q2 i u hu)⟩⟩
theorem K_src {ok:Nat→Prop} {e:Ty} {l:List e.D} {v:Value} (h:K ok w (.sl e) l [v]):∃ news,Src ok w e l news∧(∀ w:World,(Builtin.lenOf v).run P w = .ok (List.length (α:=e.D) l) w) ∧
  (∀ w':World,w'.heap = w.heap→(Builtin.firstCells e.n (List.length (α:=e.D) l) v).run P w' = .ok news.toArray w'):=by
 obtain ⟨A,c,h1,h2,h3⟩:=h
 obtain rfl:v = .slice A (List.length (α:=e.D) l) c:=by simpa using h1
 by_cases h0:0 < List.length (α:=e.D) l
 ·obtain ⟨ad,rfl,hok,hj⟩:=h3 h0
  obtain ⟨news,hs,hr⟩:=gather (ok:=ok) (w:=w) (R:=fun p u=>w.cell? (ad.add p) = some u) e l 0 (fun j x hx=>by
   obtain ⟨vs,q1,q2⟩:=hj j x hx
   exact ⟨vs,q1,fun i u hu=>by have:=q2 i u hu; rwa [Nat.zero_add]⟩)
  refine ⟨news,hs,fun w=>by simp [Builtin.lenOf],fun w' hw'=>?_⟩
  refine run_firstCells_some (P:=P) w' e.n _ ad _ c news hs.1 (fun j u hu=>?_)
  have:=hr j u hu
  simp only [Nat.zero_mul,Nat.zero_add] at this
  rw [← this]
  unfold World.cell?
  rw [hw']
 ·have hl0:List.length (α:=e.D) l = 0:=by omega
  have hl:l = ([]:List e.D):=List.eq_nil_of_length_eq_zero hl0
  subst hl
  refine ⟨[],⟨by simp,by simp,fun j x hx=>by simp at hx⟩,fun w=>by simp [Builtin.lenOf],fun w' hw'=>?_⟩
  cases A with
  | none=>simp [Builtin.firstCells]
  | some a=>exact run_firstCells_some (P:=P) w' e.n 0 a _ c [] (by simp) (by simp)
theorem own_src (hh:HRel φ hp f w) {id n:Nat} {t:TypeId} {e:Ty} {l:List e.D} (ho:lookA hp id = some (.row t e l)) {v:Value} (hv:Crel φ (okb φ hp) w (.own id n) v) :
  ∃ news,Src (okb φ hp) w e (List.take (α:=e.D) n l) news∧List.length (α:=e.D) (List.take (α:=e.D) n l) = n∧(∀ w:World,(Builtin.lenOf v).run P w = .ok n w) ∧
  (∀ w':World,w'.heap = w.heap→(Builtin.firstCells e.n n v).run P w' = .ok news.toArray w') ∧
  ((φ id = some .nil∧n = 0∧(∃ A,v = .slice A 0 0)∧news = [])∨∃ b cap arr,φ id = some (.at b e.n cap (List.length (α:=e.D) l))∧v = .slice (some ⟨b,0,none⟩) n cap∧w.heap[b]? = some (.cells arr t (0,0)) ∧
    arr.size = cap * e.n∧n≤List.length (α:=e.D) l∧List.length (α:=e.D) l≤cap∧∀ (j:Nat) (u:Value),news[j]? = some u→arr[j]? = some u):=by
 rcases hv with ⟨h1,rfl,A,rfl⟩ | ⟨b,sz,cap,nn,h1,h2,rfl⟩
 ·refine ⟨[],⟨by simp,by simp,fun j x hx=>by simp at hx⟩,by simp,fun w=>by simp [Builtin.lenOf],fun w' hw'=>?_,.inl ⟨h1,rfl,⟨A,rfl⟩,rfl⟩⟩
  cases A with
  | none=>simp [Builtin.firstCells]
  | some a=>exact run_firstCells_some (P:=P) w' e.n 0 a _ 0 [] (by simp) (by simp)
 ·rcases hh.ob id _ ho with ⟨h3,_⟩ | ⟨b',cap',arr,h3,h4,h5,h6,h7⟩
  ·rw [h1] at h3; cases h3
  ·rw [h1] at h3; cases h3
   have hlen:List.length (α:=e.D) (List.take (α:=e.D) n l) = n:=by rw [List.length_take]; omega
   obtain ⟨news,hs,hr⟩:=gather (ok:=okb φ hp) (w:=w) (R:=fun p u=>arr[p]? = some u) e (List.take (α:=e.D) n l) 0 (fun j x hx=>by
    rw [List.getElem?_take] at hx
    split at hx
    ·obtain ⟨vs,q1,q2⟩:=h7 j x hx
     exact ⟨vs,q1,fun i u hu=>by rw [Nat.zero_add]; exact q2 i u hu⟩
    ·cases hx)
   simp only [Nat.zero_mul,Nat.zero_add] at hr
   refine ⟨news,hs,hlen,fun w=>by simp [Builtin.lenOf],fun w' hw'=>?_,.inr ⟨b,cap,arr,h1,rfl,h4,h5,h2,h6,hr⟩⟩
   refine run_firstCells_some (P:=P) w' e.n _ _ _ cap news (by rw [hs.1,hlen]) (fun j u hu=>?_)
   rw [Yu,Nat.zero_add]
   have hc:w'.heap[b]? = some (.cells arr t (0,0)):=by rw [hw']; exact h4
   rw [Xd hc]; exact hr j u hu
theorem bytes_len (s:ByteArray):(bytesOf s).length = s.size:=by
 simp only [bytesOf,List.length_map,Array.length_toList]; rfl
theorem str_src {ok:Nat→Prop} (s:ByteArray):Src ok w (.int .u8) (bytesOf s) (strCells s):=by
 refine ⟨by rw [strCells_length]; show _ = (bytesOf s).length * 1; rw [bytes_len]; omega,strCells_oneCell s,fun j x hx=>?_⟩
 change (bytesOf s)[j]? = some x at hx
 refine ⟨[.int .u8 x],rfl,fun i u hu=>?_⟩
 have hi:i = 0:=by have:=(List.getElem?_eq_some_iff.1 hu).1; simp at this; omega
 subst hi
 simp only [List.getElem?_cons_zero,Option.some.injEq] at hu
 subst hu
 show (strCells s)[j * 1 + 0]? = _
 simp only [bytesOf,List.getElem?_map,Option.map_eq_some_iff] at hx
 obtain ⟨b,hb,rfl⟩:=hx
 simp only [Nat.mul_one,Nat.add_zero]
 simp [strCells,Array.getElem?_toList] at hb ⊢
 exact ⟨b,hb,rfl⟩
theorem fsrc_ok (hh:HRel φ hp f w) (e:Ty) (y:V) (v:Value) (ys:List e.D) (hy:Vrel φ (okb φ hp) w y v) (hs:fsrc Lv.std (lookA hp) e y = some ys) :
  ∃ news,Src (okb φ hp) w e ys news∧(∀ w:World,(Builtin.lenOf v).run P w = .ok (List.length (α:=e.D) ys) w) ∧
  (∀ w':World,w'.heap = w.heap→(Builtin.firstCells e.n (List.length (α:=e.D) ys) v).run P w' = .ok news.toArray w'):=by
 unfold fsrc at hs
 split at hs
 ·split at hs
  ·rename_i q; subst q
   cases hs
   exact K_src hy
  ·cases hs
 ·cases hs
  obtain rfl:v = _:=hy
  exact ⟨[],⟨by simp,by simp,fun j x hx=>by simp at hx⟩,fun w=>by simp [Builtin.lenOf],fun w' hw'=>by simp [Builtin.firstCells]⟩
 ·rename_i id n
  split at hs
  ·rename_i t e' l ho
   split at hs
   ·rename_i q; subst q
    cases hs
    obtain ⟨news,h1,h2,h3,h4,_⟩:=own_src (P:=P) hh ho hy
    refine ⟨news,h1,?_,?_⟩
    ·intro w
     show _ = Result.ok (List.length (α:=e'.D) (List.take (α:=e'.D) n l)) w
     rw [h2]; exact h3 w
    ·intro w' hw'
     show (Builtin.firstCells e'.n (List.length (α:=e'.D) (List.take (α:=e'.D) n l)) v).run P w' = _
     rw [h2]; exact h4 w' hw'
   ·cases hs
  ·cases hs
 ·rename_i s
  split at hs
  ·rename_i q; subst q
   cases hs
   obtain rfl:v = _:=hy
   have hl:List.length (α:=Ty.D (.int .u8)) (bytesOf s) = s.size:=bytes_len s
   refine ⟨strCells s,str_src s,?_,?_⟩
   ·intro w
    show _ = Result.ok (List.length (α:=Ty.D (.int .u8)) (bytesOf s)) w
    rw [hl]; simp [Builtin.lenOf]
   ·intro w' _
    show (Builtin.firstCells 1 (List.length (α:=Ty.D (.int .u8)) (bytesOf s)) (.string s)).run P w' = _
    rw [hl]; exact run_firstCells_string (P:=P) w' 1 s
  ·cases hs
 ·cases hs
end
end Go.VM
namespace Go.VM
open Go Go.Lib
section
variable {P:Program} {E:Ev} {φ:Phi} {w:World} {hp:Hp} {f:Nat}
theorem fbase_ok (hh:HRel φ hp f w) (et:TypeId) (e:Ty) (x:V) (v:Value) (l:List e.D) (kill:List Nat) (hx:Vrel φ (okb φ hp) w x v) (hs:fbase Lv.std (lookA hp) et e x = some (l,kill)) :
  ∃ news A n cap,v = .slice A n cap∧n = List.length (α:=e.D) l∧Src (okb φ hp) w e l news ∧
  (∀ w':World,w'.heap = w.heap→(Builtin.firstCells e.n n v).run P w' = .ok news.toArray w') ∧
  ((n = 0∧cap = 0∧l = []∧news = [])∨∃ id b sz nn arr o,kill = [id]∧lookA hp id = some o∧φ id = some (.at b sz cap nn)∧A = some ⟨b,0,none⟩∧w.heap[b]? = some (.cells arr et (0,0)) ∧
    arr.size = cap * e.n∧n≤cap∧∀ (j:Nat) (u:Value),news[j]? = some u→arr[j]? = some u):=by
 unfold fbase at hs
 split at hs
 ·cases hs
  obtain rfl:v = _:=hx
  exact ⟨[],none,0,0,rfl,rfl,⟨by simp,by simp,fun j x hx=>by simp at hx⟩,fun w' hw'=>by simp [Builtin.firstCells],.inl ⟨rfl,rfl,rfl,rfl⟩⟩
 ·rename_i id n
  split at hs
  ·rename_i t e' l' ho
   split at hs
   ·rename_i q; subst q
    split at hs
    ·rename_i ht
     have:=Yt ht
     subst this
     cases hs
     obtain ⟨news,h1,h2,h3,h4,h5⟩:=own_src (P:=P) hh ho hx
     have h1':Src (okb φ hp) w e' (Lv.std.take e' (castL rfl l') n) news:=h1
     rcases h5 with ⟨h6,rfl,⟨A,rfl⟩,rfl⟩ | ⟨b,cap,arr,h6,rfl,h7,h8,h9,h10,h11⟩
     ·exact ⟨[],A,0,0,rfl,h2.symm,h1',h4,.inl ⟨rfl,rfl,by show List.take (α:=e'.D) 0 l' = _; simp,rfl⟩⟩
     ·exact ⟨news,_,n,cap,rfl,h2.symm,h1',h4,.inr ⟨id,b,_,_,arr,_,rfl,ho,h6,rfl,h7,h8,by omega,h11⟩⟩
    ·cases hs
   ·cases hs
  ·cases hs
 ·cases hs
theorem append_ok (hE:∀ t i,E t = some i→TIok P t i) (hh:HRel φ hp f w) (t tx ty:TypeId) (x y:V) (v u:Value) (hx:Vrel φ (okb φ hp) w x v) (hy:Vrel φ (okb φ hp) w y u) :
  FRok φ hp w f (fappend Lv.std E (lookA hp) f t tx x y) ((Builtin.append_ #[t,tx] ty #[v,u]).run P w):=by
 unfold fappend
 cases he:elemOf E t with
 | none=>exact trivial
 | some et =>
   have hu:=Xu hE he
   simp only
   cases hi:E et with
   | none=>exact trivial
   | some i =>
     have hI:=hE et i hi
     simp only
     split
     ·rename_i hc
      simp only [Bool.and_eq_true] at hc
      have hsz:=Yt hc.1
      have hX:=noInt_ok hE hc.2
      split
      ·rename_i l kill m hb hs
       rintro ⟨hr1,hr2⟩
       obtain ⟨ti,hti,hts,htb,htz⟩:=hI.info
       obtain ⟨z,hz,hzc⟩:∃ z,ti.zero = some z∧z.cells.toList = i.zero.map Z.val:=by
        cases h:ti.zero with
        | none=>simp [h] at htz
        | some z=>exact ⟨z,rfl,by simpa [h] using htz⟩
       have hzs:z.cells.size = i.ty.n:=by rw [← Array.length_toList,hzc,List.length_map,hI.zsz,hsz]
       have hsz':ti.size = i.ty.n:=by rw [hts,hsz]
       obtain ⟨olds,A,n,cap,rfl,hn,ho1,ho2,ho3⟩:=fbase_ok (P:=P) hh et i.ty x v l kill hx hb
       obtain ⟨news,hn1,hn2,hn3⟩:=fsrc_ok (P:=P) hh i.ty y u m hy hs
       have hml:news.length = List.length (α:=i.ty.D) m * ti.size:=by rw [hn1.1,hsz']
       have hol:olds.length = n * ti.size:=by rw [ho1.1,hsz',hn]
       have ho2':∀ w':World,w'.heap = w.heap→(Builtin.firstCells ti.size n (.slice A n cap)).run P w' = .ok olds.toArray w':=by rw [hsz']; exact ho2
       have hn3':∀ w':World,w'.heap = w.heap→(Builtin.firstCells ti.size (List.length (α:=i.ty.D) m) u).run P w' = .ok news.toArray w':=by rw [hsz']; exact hn3
       have hlen:List.length (α:=i.ty.D) (List.append (α:=i.ty.D) l m) = n + List.length (α:=i.ty.D) m:=by rw [hn]; exact List.length_append
       obtain ⟨M,hM⟩:∃ M,M = List.length (α:=i.ty.D) m:=⟨_,rfl⟩
       have hr1':n + M≤140737488355328:=by rw [hn,hM]; exact hr1
       have hr2':(n + M) * i.bytes≤140737488355328:=by rw [hn,hM]; exact hr2
       rw [← hM] at hml hn3' hlen hn2
       have hadd:Lv.std.add (Lv.std.llen i.ty l) (Lv.std.llen i.ty m) = n + M:=by rw [hn,hM]; rfl
       rw [hadd]
       have hsrc:Src (okb φ hp) w i.ty (List.append (α:=i.ty.D) l m) (olds ++ news):=ho1.app hn1
       by_cases hroom:n + M≤cap
       ·rcases ho3 with ⟨rfl,rfl,hl0,hold⟩ | ⟨id,b,sz,nn,arr,o,rfl,hlo,hφ,rfl,hb1,hb2,hb3,hb4⟩
        ·have hM0:M = 0:=by omega
         have hr:=run_app_none (P:=P) (w:=w) t tx ty et ti hu hX hti u M news hn2 hn3' hml hM0 A
         have hlz:List.append (α:=i.ty.D) l m = ([]:List i.ty.D):=List.eq_nil_of_length_eq_zero (by rw [hlen,hM0])
         refine YK hh kill _ .nil hr (Go.RowKit.Below.refl _ _) (fun b hb=>hb.elim) (.inl ⟨Zw _ _ _,hlz⟩) (.inl ⟨Zw _ _ _,by omega,A,rfl⟩)
        ·have hfit:n * ti.size + news.length≤arr.size:=by
          rw [hml,hb2,hsz',← Nat.add_mul]; exact Nat.mul_le_mul_right _ hroom
         have hr:=run_app_room (P:=P) (w:=w) t tx ty et ti hu hX hti u M news hn2 hn3' hml b n cap arr hb1 hn1.2.1 hroom hfit
         have hS:(Place.at b sz cap nn).S b:=rfl
         have htu:Turned w (w.setRow b (arr.toList.take (n * ti.size) ++ news ++ arr.toList.drop (n * ti.size + news.length)).toArray) b :=
          ⟨rfl,rfl,rfl,by simp [World.setRow],fun k hk=>setRow_other w b k _ hk⟩
         have hp':∀ c,(Place.at b i.ty.n cap (List.length (α:=i.ty.D) (List.append (α:=i.ty.D) l m))).S c→c = b:=fun c hc=>hc
         have ev:=evo_turn hh hlo hφ hS htu [] (.row et i.ty (List.append (α:=i.ty.D) l m)) (Nat.le_refl f) hp'
         refine good_turn hh hlo hφ hS htu [] _ (p':=.at b i.ty.n cap (List.length (α:=i.ty.D) (List.append (α:=i.ty.D) l m))) hp' hr ?_ ?_
         ·refine row_new (xs:=olds ++ news) (Zw _ _ _) (setRow_heap w b arr _ et _ hb1) ?_ (by show List.length (α:=i.ty.D) (List.append (α:=i.ty.D) l m)≤_; rw [hlen]; exact hroom) (hsrc.mono (fun x vs=>ev.K _ _ _)) (fun j y hj=>?_)
          ·rw [← hb2,← Array.length_toList,← Array.length_toList]
           simp only [List.length_append,List.length_take,List.length_drop,Array.length_toList]
           omega
          ·rw [← Array.getElem?_toList]
           simp only
           have htl:(arr.toList.take (n * ti.size)).length = n * ti.size:=by rw [List.length_take,Array.length_toList]; omega
           by_cases hjl:j < n * ti.size
           ·rw [List.getElem?_append_left (by omega)] at hj
            rw [List.append_assoc,List.getElem?_append_left (by omega),List.getElem?_take,if_pos hjl,Array.getElem?_toList]
            exact hb4 j y hj
           ·rw [List.getElem?_append_right (by omega)] at hj
            have hjn:=(List.getElem?_eq_some_iff.1 hj).1
            rw [List.append_assoc,List.getElem?_append_right (by omega),htl,List.getElem?_append_left (by omega),← hol]
            exact hj
         ·exact .inr ⟨b,i.ty.n,cap,_,Zw _ _ _,by rw [hlen]; exact Nat.le_refl _,rfl⟩
       ·have hr:=run_app_grow (P:=P) (w:=w) t tx ty et ti z hu hX hti u M news hn2 hn3' hml hz A n cap olds hol ho2' (by omega) (by omega) (growslice_fits (by omega) (by rw [htb]; exact hr2'))
        have hge:=grownCap_ge w (n + M) cap et
        have hb:=(Go.RowKit.Below.refl w.heap.size w).drew.alloc (Nat.le_refl _) (.cells (olds.toArray ++ news.toArray ++ Builtin.zeroCells z.cells (grownCap w (n + M) cap et - (n + M))) et (0,0))
        have hpl:∀ b,(Place.at w.heap.size i.ty.n (grownCap w (n + M) cap et) (List.length (α:=i.ty.D) (List.append (α:=i.ty.D) l m))).S b→w.heap.size≤b:=fun b hb=>by cases hb; exact Nat.le_refl _
        have ev:=(Yw φ w kill hp).trans (Xq (hh.delAll kill) (Nat.le_refl f) (.row et i.ty (List.append (α:=i.ty.D) l m)) (.at w.heap.size i.ty.n (grownCap w (n + M) cap et) (List.length (α:=i.ty.D) (List.append (α:=i.ty.D) l m))) hb hpl)
        refine YK hh kill _ (.at w.heap.size i.ty.n (grownCap w (n + M) cap et) (List.length (α:=i.ty.D) (List.append (α:=i.ty.D) l m))) hr hb hpl ?_ ?_
        ·refine row_new (xs:=olds ++ news) (Zw _ _ _) (Y5 w.drew _) ?_ (by show List.length (α:=i.ty.D) (List.append (α:=i.ty.D) l m)≤_; rw [hlen]; exact hge) (hsrc.mono (fun x vs=>ev.K _ _ _)) (fun j y hj=>?_)
         ·simp only [Array.size_append,List.size_toArray,size_zeroCells,hzs,hol,hml,hsz',← Nat.add_mul]
          congr 1
          omega
         ·rw [← Array.getElem?_toList]
          simp only [Array.toList_append,List.append_assoc]
          rw [← List.append_assoc,List.getElem?_append_left (List.getElem?_eq_some_iff.1 hj).1]
          exact hj
        ·exact .inr ⟨_,_,_,_,Zw _ _ _,by rw [hlen]; exact Nat.le_refl _,rfl⟩
      ·exact trivial
     ·exact trivial
end
end Go.VM
