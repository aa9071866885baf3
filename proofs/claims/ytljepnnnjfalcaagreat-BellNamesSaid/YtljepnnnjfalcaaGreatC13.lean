/- What functions of the weak memory compute, proved through the condition generator, and plain facts of it. Conditions: none of ours. -/
import Derived.Test.YtljepnnnjfalcaaGreatC12
set_option autoImplicit false
set_option maxRecDepth 100000
set_option linter.all false
namespace Go.Proofs.Tryz
open Go Go.VM
def a140 (L:Lv) (I:Nat→Ds [.sl Mv]→Prop):Nat→LAnn
 | 0=>anR L [2] [(2,some 0,94,Mv)] [.br 2 0 Mv] I
 | _=>.no
def a69 (L:Lv) (I:Nat→Ds []→Prop):Nat→LAnn
 | 0=>anR L [4] [] [] I
 | _=>.no
noncomputable def bT90 (L:Lv) (F:BxF) (I:Nat→Ds [.sl Mv]→Prop):FuncId→FT
 | 190=>.inl (D140 (a140 L I))
 | g=>bT F g
def n90 (L:Lv) (F:BxF) (I:Nat→Ds [.sl Mv]→Prop) (m:McD) (s:StD)  : VC :=
 let z1:=(Prod.fst s,s.2);
 let z2:=m.1;
 let z3:=z2.2;
 let z4:=(Prod.fst z2,z3.1,z3.2);
 let z5:=z2.1;
 let z6:=Ty.sl (Ty.pair (Ty.int .u8) (Ty.pair It (Ty.pair It (Ty.pair It (Ty.pair It It)))));
 let z7:=z3.1;
 let z8:=z3.2;
 let z9:=m.2;
 let z10:=s.1;
 let z11:=Ty.pair It (Ty.pair (Ty.sl It) (Ty.pair (Ty.sl (Ty.pair It It)) (Ty.pair (Ty.sl It) Ty.bool)));
 let z12:=s.2;
 let z13:=Int × Bool;
 let z14:=List z13 × Unit;
 let z15:=(BxF.each F z1 (z4,m.2)); .obl (BxF.pE F z1 (z4,m.2)) (.obl (St.mk 13 [(2,V.c (C.ptr 5 0))] [(0,Ob.amb),(1,Ob.box 149 [C.sl It z5,C.sl z6 z7,
  C.int .i64 z8,C.sym z9]),(2,Ob.box 45 [C.sl It z10,C.sl z11 z12]),(5,Ob.box 89 [C.own 7 0]),(7,Ob.row 94 Mv [])] 8 = St.mk 13 [(2,V.c (C.ptr 5 0))] [(0,Ob.amb),
  (1,Ob.box 149 [C.sl It z5,C.sl z6 z7,C.int .i64 z8,C.sym z9]),(2,Ob.box 45 [C.sl It z10,C.sl z11 z12]),(5,Ob.box 89 [C.own 7 (L.llen Mv [])]),(7,Ob.row 94 Mv
  [])] 8) (.obl (I 0 ([],())) (.all Bool fun (v1:Bool)=>.br v1 (.all z14 fun (v2:List (Int × Bool) × Unit) =>
 let z16:=L.take Mv v2.1 (L.llen Mv v2.1);
 let z17:=L.llen Mv z16; .all Nat fun (v3:Nat)=>.all (z13 × Unit) fun (v4:(Int × Bool) × Unit) =>
 let z18:=(L.take Mv [(Prod.fst v4.1,v4.1.2)] 1);
 let z19:=L.add z17 (L.llen Mv z18);
 let z20:=L.app Mv z16 z18; .imp (L.nth (z13 × Unit) z15 v3 v4∧I v3 v2) (.obl (L.room z19 16) (.ok (St.mk 13 [(2,V.c (C.ptr 5 0))] [(0,Ob.amb),(1,Ob.box 149
  [C.sl It z5,C.sl z6 z7,C.int .i64 z8,C.sym z9]),(2,Ob.box 45 [C.sl It z10,C.sl z11 z12]),(5,Ob.box 89 [C.own 7 z19]),(7,Ob.row 94 Mv z20)] 8 = St.mk 13 [(2,V.c
  (C.ptr 5 0))] [(0,Ob.amb),(1,Ob.box 149 [C.sl It z5,C.sl z6 z7,C.int .i64 z8,C.sym z9]),(2,Ob.box 45 [C.sl It z10,C.sl z11 z12]),(5,Ob.box 89 [C.own 7 (Lv.llen
  L Mv z20)]),(7,Ob.row 94 Mv z20)] 8∧I (Nat.succ v3) (L.app Mv z16 z18,()))))) (.all z14 fun (v5:List (Int × Bool) × Unit)=>.imp (I (L.cnt (z13 × Unit) z15) v5)
  (.ok ((L.take Mv v5.1 (L.llen Mv v5.1),()) = (BxF.moves F m s,())))))))
theorem n90_go (L:Lv) (F:BxF) (I:Nat→Ds [.sl Mv]→Prop) (m:McD) (s:StD) (h:VC.holds (n90 L F I m s)):Holds (contractVC L E01 (callG L E01 (only (bT90 L F I) [161,160,191,190]) 3) (spcOf (only (bT90 L F I) [161,160,191,190])) (D90 a0) (S90 F) (m,s,())):=Holds.of_eq (by kernel_rfl) h
def n69 (L:Lv) (F:BxF) (I:Nat→Ds []→Prop) (m:McD) (s:StD)  : VC :=
 let z1:=(Prod.fst s,s.2);
 let z2:=m.1;
 let z3:=z2.2;
 let z4:=(Prod.fst z2,z3.1,z3.2);
 let z5:=z2.1;
 let z6:=Ty.sl (Ty.pair (Ty.int .u8) (Ty.pair It (Ty.pair It (Ty.pair It (Ty.pair It It)))));
 let z7:=z3.1;
 let z8:=z3.2;
 let z9:=Ty.pair It (Ty.pair (Ty.sl It) (Ty.pair (Ty.sl (Ty.pair It It)) (Ty.pair (Ty.sl It) Ty.bool)));
 let z10:=Int × Bool;
 let z11:=(BxF.each F z1 (z4,m.2));
 let z12:=(BxF.ended F m s,()); .obl (BxF.pE F z1 (z4,m.2)) (.obl (St.mk 9 [(4,V.c (C.ptr 3 0))] [(0,Ob.amb),(1,Ob.box 149 [C.sl It z5,C.sl z6 z7,C.int
  .i64 z8,C.sym m.2]),(2,Ob.box 45 [C.sl It s.1,C.sl z9 s.2]),(3,Ob.box 4 [C.sym false])] 6 = St.mk 9 [(4,V.c (C.ptr 3 0))] [(0,Ob.amb),
  (1,Ob.box 149 [C.sl It z5,C.sl z6 z7,C.int .i64 z8,C.sym m.2]),(2,Ob.box 45 [C.sl It s.1,C.sl z9 s.2]),(3,Ob.box 4 [C.sym false])] 6)
  (.obl (I 0 ()) (.all Bool fun (v1:Bool)=>.br v1 (.all Unit fun (v2:Unit)=>.all Nat fun (v3:Nat)=>.all (z10 × Unit) fun (v4:(Int × Bool) × Unit) =>
  .imp (L.nth (z10 × Unit) z11 v3 v4∧I v3 v2) (.ok ((false,()) = z12))) (.all Unit fun (v5:Unit)=>.imp (I (L.cnt (z10 × Unit) z11) v5) (.ok ((true,()) =
  z12))))))
theorem n69_go (L:Lv) (F:BxF) (I:Nat→Ds []→Prop) (m:McD) (s:StD) (h:VC.holds (n69 L F I m s)):Holds (vcB L F [161,191] (D69 (a69 L I)) (S69 F) (m,s,())):=Holds.of_eq (by kernel_rfl) h
def endedF (m:McD) (s:StD):Bool:=decide (movesF m s = [])
theorem mvN_len (s:StD) (m:McD):∀ n,(mvN s m n).length≤2 * n
 | 0=>Nat.le_refl _
 | n + 1=>by
   have:=mvN_len s m n
   rw [mvN,List.length_append,mvAt,List.length_append]
   have h1:(if canF m s (s.2.length - (n + 1):Nat) then [(((s.2.length - (n + 1):Nat):Int),false)] else ([]:List MvD)).length≤1:=by split <;> simp
   have h2:(if 0 < (thAt s (s.2.length - (n + 1):Nat)).2.2.1.length then [(((s.2.length - (n + 1):Nat):Int),true)] else ([]:List MvD)).length≤1:=by split <;> simp
   omega
theorem each_get {s:StD} {m:McD} {j:Nat} {y:MvD × Unit} (h:(eachF s m)[j]? = some y):(movesF m s)[j]? = some y.1∧j < (movesF m s).length:=by
 unfold eachF at h
 rw [List.getElem?_map] at h
 cases hc:(movesF m s)[j]? with
 | none=>rw [hc] at h; cases h
 | some p=>rw [hc] at h; simp only [Option.map_some,Option.some.injEq] at h; subst h; exact ⟨rfl,(List.getElem?_eq_some_iff.1 hc).1⟩
theorem take_snocM {l:List MvD} {j:Nat} {y:MvD} (h:l[j]? = some y):l.take (j + 1) = l.take j ++ [y]:=by rw [List.take_succ,h]; rfl
theorem ok90 (F:BxF) (h:F.moves = movesF) (h1:F.each = eachF) (hp:F.pE = pEF) (k1:ItOk prog 191 (I135 F)):SpecOk prog 100 (S90 F):=by
 refine Zc hm hE D90 fnok90 _ fun (z:McD × StD × Unit) hpre=>?_
 obtain ⟨m,s,⟨⟩⟩:=z
 have hpre':F.pE s m:=hpre
 have hb:s.2.length≤1000000:=by
  have:=hpre'
  rw [hp] at this
  exact this.1
 have hl:=mvN_len s m s.2.length
 have hml:(movesF m s).length≤2 * s.2.length:=hl
 let I:Nat→List MvD × Unit→Prop:=fun j x=>x.1 = (movesF m s).take j
 refine Yp _ 3 a0 (Zs (T:=bT90 Lv.std F I) (l:=[161,160,191,190]) (Za (Yy (fnok110 a0) (by kernel_rfl)) (Za (Yy (fnok123 a0) (by kernel_rfl)) (Za (tb_it k1 (by kernel_rfl)) (Za (Yy (fnok140 (a140 Lv.std I)) (by kernel_rfl)) Z4))))) ?_
 refine n90_go Lv.std F I m s ?_
 simp only [n90,VC.holds,ZJ,ZO,Zb,Zh,Zm,Yj,Ym,Z5,ZM,Yl,Yk,Yf,ZX,ZY,ZT,ZR,Ye,ZN,Zz,ZD,Zr,Z1,ZS,Z2,ZK,ZW,Yb,ZV,ZP,ZQ,Zt,ZH,Ya,Z3,ZI,Yd,Yc,Z6,Z7,Zg,ZC,ZL,ZU,Z8,Z9,Zd,Ze,ZA,ZB,Zu,Zv,Zx,Zy,Zk,Zl,Zp,Zq,Zi,Zj,Zn,Zo,ZG,ZF,ZZ,Yg,ZE,h,h1,pe5,List.take_length,List.take_succ_cons,List.take_zero,List.length_append,List.length_cons,List.length_nil,Nat.zero_add,Prod.mk.injEq,and_true,true_and]
 refine ⟨hpre',rfl,fun b=>⟨fun _=>?_,fun _=>?_⟩⟩
 ·rintro ⟨x,⟨⟩⟩ j ⟨y,⟨⟩⟩ ⟨g1,g2⟩
  obtain ⟨g3,g4⟩:=each_get g1
  have g2':x = (movesF m s).take j:=g2
  subst g2'
  have hlen:((movesF m s).take j).length = j:=by rw [List.length_take]; omega
  refine ⟨⟨by rw [hlen]; omega,by rw [hlen]; omega⟩,?_⟩
  show (movesF m s).take j ++ [y] = (movesF m s).take (j + 1)
  exact (take_snocM g3).symm
 ·rintro ⟨x,⟨⟩⟩ g2
  have g2':x = (movesF m s).take (eachF s m).length:=g2
  rw [g2']
  exact List.take_of_length_le (by simp [eachF])
theorem ok69 (F:BxF) (h:F.ended = endedF) (h1:F.each = eachF) (hp:F.pE = pEF) (k1:ItOk prog 191 (I135 F)):SpecOk prog 118 (S69 F):=by
 refine Zc hm hE D69 fnok69 _ fun (z:McD × StD × Unit) hpre=>?_
 obtain ⟨m,s,⟨⟩⟩:=z
 have hpre':F.pE s m:=hpre
 let I:Nat→Unit→Prop:=fun j _=>j = 0
 refine Yp _ 3 (a69 Lv.std I) (Zs (T:=bT F) (l:=[161,191]) (Za (Yy (fnok110 a0) (by kernel_rfl)) (Za (tb_it k1 (by kernel_rfl)) Z4))) ?_
 refine n69_go Lv.std F I m s ?_
 simp only [n69,VC.holds,ZJ,ZO,Zb,Zh,Zm,Yj,Ym,Z5,ZM,Yl,Yk,Yf,ZX,ZY,ZT,ZR,Ye,ZN,Zz,ZD,Zr,Z1,ZS,Z2,ZK,ZW,Yb,ZV,ZP,ZQ,Zt,ZH,Ya,Z3,ZI,Yd,Yc,Z6,Z7,Zg,ZC,ZL,ZU,Z8,Z9,Zd,Ze,ZA,ZB,Zu,Zv,Zx,Zy,Zk,Zl,Zp,Zq,Zi,Zj,Zn,Zo,ZG,ZF,ZZ,Yg,ZE,h,h1,pe5,endedF,Prod.mk.injEq,and_true,true_and]
 refine ⟨hpre',rfl,fun b=>⟨fun _=>?_,fun _=>?_⟩⟩
 ·rintro ⟨⟩ j y ⟨g1,_⟩
  have:=(each_get g1).2
  rw [decide_eq_false (fun e=>by rw [e] at this; cases this)]
 ·rintro ⟨⟩ g
  have g':(eachF s m).length = 0:=g
  have:(movesF m s) = []:=List.eq_nil_of_length_eq_zero (by simpa [eachF] using g')
  rw [decide_eq_true this]
end Go.Proofs.Tryz
namespace Go.Proofs.Tryz
open Go Go.VM
def a79 (L:Lv) (I:Ds [.sl Th,It]→Prop) (mu:Ds [.sl Th,It]→Nat):Nat→LAnn
 | 0=>anH L [2,3,10,11] [(3,some 1,137,Th)] [.br 3 1 Th,.s 11 It] I mu
 | _=>.no
def n79 (L:Lv) (F:BxF) (I:Ds [.sl Th,It]→Prop) (mu:Ds [.sl Th,It]→Nat) (p:WkD)  : VC :=
 let z1:=p.1;
 let z2:=p.2.1;
 let z3:=L.cast (L.llen (Ty.sl In) z2);
 let z4:=p.2.2;
 let z5:=L.llen It z1;
 let z6:=Int × List Int × List (Int × Int) × List Int × Bool;
 let z7:=(L.take Th [(0,L.take It (L.rep It (L.toN 10) 0) (L.toN 10),[],[],false)] 1);
 let z8:=L.llen Th z7; .obl (BxF.pLi F z1) (.obl (St.mk 22 [(2,V.c (C.ptr 2 0)),(3,V.c (C.ptr 4 0)),(10,V.c (C.int .i64 z3)),(11,V.c (C.int .i64 0))]
  [(0,Ob.amb),(1,Ob.box 50 [C.sl It z1,C.sl (Ty.sl In) z2,C.int .i64 z4]),(2,Ob.box 45 [C.nils,C.nils]),(3,Ob.row 3 It z1),(4,Ob.box 45 [C.own 3 z5,C.own 6 0]),
  (6,Ob.row 137 Th [])] 7 = St.mk 22 [(2,V.c (C.ptr 2 0)),(3,V.c (C.ptr 4 0)),(10,V.c (C.int .i64 z3)),(11,V.c (C.int .i64 0))] [(0,Ob.amb),(1,Ob.box 50
  [C.sl It z1,C.sl (Ty.sl In) z2,C.int .i64 z4]),(2,Ob.box 45 [C.nils,C.nils]),(3,Ob.row 3 It z1),(4,Ob.box 45 [C.own 3 z5,C.own 6 (L.llen Th [])]),(6,Ob.row
  137 Th [])] 7) (.obl (I ([],0,())) (.all (List z6 × Int × Unit) fun (v1:List (Int × List Int × List (Int × Int) × List Int × Bool) × Int × Unit) =>
 let z9:=v1.2.1;
 let z10:=v1.1;
 let z11:=L.llen Th z10;
 let z12:=L.take Th z10 z11;
 let z13:=L.add (L.llen Th z12) z8;
 let z14:=L.ar .add .i64 z9 1;
 let z15:=L.app Th z12 z7;
 let z16:=(L.app Th z12 z7,L.ar .add .i64 z9 1,()); .imp (I v1) (.br (L.cmp .lss z9 z3) (.obl (L.mkOk 10 10 8) (.obl (L.room z13 88)
  (.ok (St.mk 22 [(2,V.c (C.ptr 2 0)),(3,V.c (C.ptr 4 0)),(10,V.c (C.int .i64 z3)),(11,V.c (C.int .i64 z14))] [(0,Ob.amb),(1,Ob.box 50 [C.sl It z1,C.sl
  (Ty.sl In) z2,C.int .i64 z4]),(2,Ob.box 45 [C.nils,C.nils]),(3,Ob.row 3 It z1),(4,Ob.box 45 [C.own 3 z5,C.own 6 z13]),(6,Ob.row 137 Th z15)] 7 = St.mk 22 [(2,
  V.c (C.ptr 2 0)),(3,V.c (C.ptr 4 0)),(10,V.c (C.int .i64 z3)),(11,V.c (C.int .i64 z14))] [(0,Ob.amb),(1,Ob.box 50 [C.sl It z1,C.sl (Ty.sl In) z2,C.int
  .i64 z4]),(2,Ob.box 45 [C.nils,C.nils]),(3,Ob.row 3 It z1),(4,Ob.box 45 [C.own 3 z5,C.own 6 (L.llen Th z15)]),(6,Ob.row 137 Th z15)] 7∧I z16∧mu z16 < mu
  v1)))) (.ok (((L.take It z1 z5,L.take Th z10 z11),()) = (BxF.first F p,())))))))
theorem n79_go (L:Lv) (F:BxF) (I:Ds [.sl Th,It]→Prop) (mu:Ds [.sl Th,It]→Nat) (p:WkD) (h:VC.holds (n79 L F I mu p)):Holds (vcB L F [113] (D79 (a79 L I mu)) (S79 F) (p,())):=Holds.of_eq (by kernel_rfl) h
def th0:ThD:=(0,List.replicate 10 0,[],[],false)
def firstF (p:WkD):StD:=(p.1,List.replicate p.2.1.length th0)
theorem ok79 (F:BxF) (h:F.first = firstF) (hp:F.pFirst = fun p=>p.1.length≤1000000∧p.2.1.length≤1000000) (q1:F.pLi = fun l=>l.length≤1000000) (k:XOk prog 113 (R76 F).x):SpecOk prog 99 (S79 F):=by
 refine Zc hm hE D79 fnok79 _ fun (z:WkD × Unit) hpre=>?_
 obtain ⟨p,⟨⟩⟩:=z
 have hpre':F.pFirst p:=hpre
 rw [hp] at hpre'
 obtain ⟨g1,g2⟩:=hpre'
 let I:List ThD × Int × Unit→Prop:=fun x=>(0≤x.2.1∧x.2.1≤p.2.1.length)∧x.1 = List.replicate x.2.1.toNat th0
 let mu:List ThD × Int × Unit→Nat:=fun x=>(p.2.1.length - x.2.1).toNat
 refine Yp _ 3 (a79 Lv.std I mu) (Zs (T:=bT F) (l:=[113]) (Za (XB k (by kernel_rfl)) Z4)) ?_
 refine n79_go Lv.std F I mu p ?_
 simp only [n79,VC.holds,ZJ,ZO,Zb,Zh,Zm,Yj,Ym,Z5,ZM,Yl,Yk,Yf,ZX,ZY,ZT,ZR,Ye,ZN,Zz,ZD,Zr,Z1,ZS,Z2,ZK,ZW,Yb,ZV,ZP,ZQ,Zt,ZH,Ya,Z3,ZI,Yd,Yc,Z6,Z7,Zg,ZC,ZL,ZU,Z8,Z9,Zd,Ze,ZA,ZB,Zu,Zv,Zx,Zy,Zk,Zl,Zp,Zq,Zi,Zj,Zn,Zo,ZG,ZF,ZZ,Yg,ZE,h,q1,List.take_length,List.take_succ_cons,List.take_zero,List.length_append,List.length_cons,List.length_nil,Nat.zero_add,Prod.mk.injEq,and_true,true_and]
 refine ⟨g1,⟨⟨Int.le_refl 0,by show (0:Int)≤p.2.1.length; omega⟩,rfl⟩,?_⟩
 rintro ⟨l,x,⟨⟩⟩ ⟨i1,i2⟩
 simp only at i1 i2 ⊢
 obtain ⟨k,rfl⟩:∃ k:Nat,x = k:=⟨x.toNat,by omega⟩
 rw [Int.toNat_natCast] at i2
 subst i2
 have ew:IntKind.i64.wrap ((k:Int) + 1) = (k:Int) + 1:=Yn (by omega) (by omega)
 have e10:List.take (Int.toNat 10) (List.replicate (Int.toNat 10) (0:Int)) = List.replicate 10 0:=by decide
 rw [ew]
 refine ⟨fun hlt=>⟨by omega,⟨by rw [List.length_replicate]; omega,by rw [List.length_replicate]; omega⟩,⟨⟨by show (0:Int)≤(k:Int) + 1; omega,by show (k:Int) + 1≤_; omega⟩,?_⟩,by show ((p.2.1.length:Int) - ((k:Int) + 1)).toNat < ((p.2.1.length:Int) - k).toNat; omega⟩,fun hge=>?_⟩
 ·show List.replicate k th0 ++ [((0:Int),List.take (Int.toNat 10) (List.replicate (Int.toNat 10) (0:Int)),([]:List KpD),([]:List Int),false)] = List.replicate ((k:Int) + 1).toNat th0
  rw [e10,show ((k:Int) + 1).toNat = k + 1 by omega]
  exact (List.replicate_succ' (n:=k) (a:=th0)).symm
 ·have:k = p.2.1.length:=by omega
  subst this; rfl
end Go.Proofs.Tryz
namespace Go.Proofs.Tryz
open Go Go.VM
theorem YF {α:Type} (p:α→Bool) (l:List α) (k:Nat) (d:α) (h:k < l.length):(l.drop k).all p = (p ((l[k]?).getD d) && (l.drop (k + 1)).all p):=by
 rw [List.drop_eq_getElem_cons h,List.all_cons,List.getElem?_eq_getElem h]; rfl
theorem any_drop {α:Type} (p:α→Bool) (l:List α) (k:Nat) (d:α) (h:k < l.length):(l.drop k).any p = (p ((l[k]?).getD d) || (l.drop (k + 1)).any p):=by
 rw [List.drop_eq_getElem_cons h,List.any_cons,List.getElem?_eq_getElem h]; rfl
theorem Yq {x:Int} (h:0≤x):∃ k:Nat,x = k:=⟨x.toNat,by omega⟩
theorem wr {k:Nat} {n:Nat} (h:(k:Int) < n) (hn:n≤1000000):IntKind.i64.wrap ((k:Int) + 1) = ((k + 1:Nat):Int):=by rw [Yn (by omega) (by omega)]; omega
def Iv (n:Nat) (P:Nat→Prop):Int × Unit→Prop:=fun x=>0≤x.1∧x.1≤n∧P x.1.toNat
def Mu (n:Nat):Int × Unit→Nat:=fun x=>((n:Int) - x.1).toNat
theorem Iv.mk {n:Nat} {P:Nat→Prop} {k:Nat} (h:k≤n) (p:P k):Iv n P ((k:Int),()):=⟨Int.natCast_nonneg k,Int.ofNat_le.2 h,by show P (k:Int).toNat; rw [Int.toNat_natCast]; exact p⟩
theorem Iv.zero {n:Nat} {P:Nat→Prop} (p:P 0):Iv n P ((0:Int),()):=Iv.mk (k:=0) (Nat.zero_le n) p
theorem Iv.elim {n:Nat} {P:Nat→Prop} {x:Int × Unit} (h:Iv n P x):∃ k:Nat,x = ((k:Int),())∧k≤n∧P k:=by
 obtain ⟨x,⟨⟩⟩:=x
 obtain ⟨h1,h2,h3⟩:=h
 obtain ⟨k,rfl⟩:=Yq h1
 refine ⟨k,rfl,Int.ofNat_le.1 h2,?_⟩
 have h3':P (k:Int).toNat:=h3
 rw [Int.toNat_natCast] at h3'; exact h3'
theorem Mu.lt {n k:Nat} (h:k < n):Mu n (((k + 1:Nat):Int),()) < Mu n ((k:Int),()):=by show ((n:Int) - ((k + 1:Nat):Int)).toNat < ((n:Int) - (k:Int)).toNat; omega
def bL (l:List Int):Prop:=l.length≤1000000
def bW (p:WkD):Prop:=p.1.length≤1000000∧p.2.1.length≤1000000∧∀ l ∈ p.2.1,l.length≤1000000
def bTh (t:ThD):Prop:=t.2.1.length≤1000000∧t.2.2.1.length≤1000000∧t.2.2.2.1.length≤1000000
def bS (s:StD):Prop:=s.1.length≤1000000∧s.2.length≤1000000∧∀ t ∈ s.2,bTh t
def numsF (l:List Int):Bool:=l.all isNumF
def regOk (has:Bool) (r:Int):Bool:=if has then withinF r 0 9 else decide (r = 0)
def insOkF (i:InD) (many:Int):Bool :=
 let rg:=fun a b c d=>regOk a i.2.1 && regOk b i.2.2.1 && regOk c i.2.2.2.1 && regOk d i.2.2.2.2.1
 if i.1 = 1 then rg true false false false && isNumF i.2.2.2.2.2
 else if i.1 = 2∨i.1 = 3∨i.1 = 4∨i.1 = 5∨i.1 = 6∨i.1 = 7 then rg true true true false && decide (i.2.2.2.2.2 = 0)
 else if i.1 = 8∨i.1 = 9 then rg true true false false && withinF i.2.2.2.2.2 0 63
 else if i.1 = 10 then rg true true true true && withinF i.2.2.2.2.2 0 63
 else if i.1 = 11 then rg false false false false && decide (i.2.2.2.2.2 = 0)
 else if i.1 = 12 then rg false true false false && withinF i.2.2.2.2.2 0 63
 else if i.1 = 13 then rg false false false false && withinF i.2.2.2.2.2 0 many
 else if i.1 = 14 then rg true false false false && withinF i.2.2.2.2.2 0 many
 else if i.1 = 15 then rg true false false false && decide (i.2.2.2.2.2 = 0)
 else false
def listOk (l:List InD):Bool:=l.all fun i=>insOkF i l.length
def longL (l:List InD):Bool:=decide (200 < (l.length:Int))
def checkF (p:WkD):Int :=
 if 64 < p.1.length∨4 < p.2.1.length then 5
 else if p.2.1.any longL then 5
 else if withinF p.2.2 1 8 = false∨numsF p.1 = false then 3
 else if p.1.length = 0∨p.2.1.length = 0 then 4
 else if p.2.1.all listOk then 0 else 4
def kpOk (n:Nat) (k:KpD):Bool:=withinF k.1 0 ((n:Int) - 1) && isNumF k.2
def thOk (p:WkD) (k:Nat) (t:ThD):Bool :=
 decide (t.2.1.length = 10) && numsF t.2.1 && numsF t.2.2.2.1 && withinF t.1 0 ((p.2.1[k]?).getD []).length && decide ((t.2.2.1.length:Int)≤p.2.2) && decide (t.2.2.2.1.length≤20) && t.2.2.1.all (kpOk p.1.length)
def thsN (p:WkD) (s:StD):Nat→Bool
 | 0=>true
 | n + 1=>thOk p (s.2.length - (n + 1)) ((s.2[s.2.length - (n + 1)]?).getD (0,[],[],[],false)) && thsN p s n
def isStF (p:WkD) (s:StD):Bool:=decide (s.1.length = p.1.length) && decide (s.2.length = p.2.1.length) && numsF s.1 && thsN p s s.2.length
def ckStF (p:WkD) (s:StD):Int:=if checkF p ≠ 0 then checkF p else if isStF p s then 0 else 2
theorem ck5a (p:WkD) (h:64 < p.1.length∨4 < p.2.1.length):checkF p = 5:=by rw [checkF,if_pos h]
theorem ck5b (p:WkD) (h:¬ (64 < p.1.length∨4 < p.2.1.length)) (h1:p.2.1.any longL = true):checkF p = 5:=by rw [checkF,if_neg h,if_pos h1]
theorem ck3 (p:WkD) (h:¬ (64 < p.1.length∨4 < p.2.1.length)) (h1:p.2.1.any longL = false) (h2:withinF p.2.2 1 8 = false∨numsF p.1 = false):checkF p = 3:=by rw [checkF,if_neg h,if_neg (by rw [h1]; simp),if_pos h2]
theorem ck4a (p:WkD) (h:¬ (64 < p.1.length∨4 < p.2.1.length)) (h1:p.2.1.any longL = false) (h2:withinF p.2.2 1 8 = true) (h3:numsF p.1 = true) (h4:p.1.length = 0∨p.2.1.length = 0):checkF p = 4:=by
 rw [checkF,if_neg h,if_neg (by rw [h1]; simp),if_neg (by rw [h2,h3]; simp),if_pos h4]
theorem ck4b (p:WkD) (h:¬ (64 < p.1.length∨4 < p.2.1.length)) (h1:p.2.1.any longL = false) (h2:withinF p.2.2 1 8 = true) (h3:numsF p.1 = true) (h4:¬ (p.1.length = 0∨p.2.1.length = 0)) (h5:p.2.1.all listOk = false):checkF p = 4:=by
 rw [checkF,if_neg h,if_neg (by rw [h1]; simp),if_neg (by rw [h2,h3]; simp),if_neg h4,if_neg (by rw [h5]; simp)]
theorem ck0 (p:WkD) (h:¬ (64 < p.1.length∨4 < p.2.1.length)) (h1:p.2.1.any longL = false) (h2:withinF p.2.2 1 8 = true) (h3:numsF p.1 = true) (h4:¬ (p.1.length = 0∨p.2.1.length = 0)) (h5:p.2.1.all listOk = true):checkF p = 0:=by
 rw [checkF,if_neg h,if_neg (by rw [h1]; simp),if_neg (by rw [h2,h3]; simp),if_neg h4,if_pos h5]
def howF (t:ThD) (n:Nat):Int:=if t.1 = n then 1 else if t.2.2.2.2 then 2 else 3
def endThs (m:McD) (s:StD) (n:Nat):List (List Int) × List Int:=((List.range n).map (fun (k:Nat)=>(thAt s k).2.2.2.1),(List.range n).map fun (k:Nat)=>howF (thAt s k) (listAt m k).length)
def endOfF (m:McD) (s:StD):EnD:=(s.1,(endThs m s s.2.length).1,(endThs m s s.2.length).2)
end Go.Proofs.Tryz
