/- What functions of the weak memory compute, proved through the condition generator, and plain facts of it. Conditions: none of ours. -/
import Derived.Test.YtljepnnnjfalcaaGreatC17
import Derived.Test.YtljepnnnjfalcaaGreatC13
set_option autoImplicit false
set_option maxRecDepth 100000
set_option linter.all false
namespace Go.Proofs.Tryz
open Go Go.VM
def a66 (L:Lv) (I:Ds [.sl Mt,.sl (.pair .str .bool),It]→Prop) (mu:Ds [.sl Mt,.sl (.pair .str .bool),It]→Nat) (I2:List MtD × Int × List MvD × Unit→Ds [.sl Mt,.sl (.pair .str .bool),It]→Prop) (m2:List MtD × Int × List MvD × Unit→Ds [.sl Mt,.sl (.pair .str .bool),It]→Nat):Nat→LAnn
 | 0=>anH L [1,4,5,6] [] [.r 4 Mt,.m 5 .str .bool,.s 6 It] I mu
 | 2=>anE L [1,4,5,6,35,36,37] [] [.h (.r 4 Mt),.h (.s 6 It),.h (.s 35 (.sl Mv))] [.r 4 Mt,.m 5 .str .bool,.s 37 It] I2 m2
 | _=>.no
def n66 (L:Lv) (F:BxF) (I:Ds [.sl Mt,.sl (.pair .str .bool),It]→Prop) (mu:Ds [.sl Mt,.sl (.pair .str .bool),It]→Nat) (I2:List MtD × Int × List MvD × Unit→Ds [.sl Mt,.sl (.pair .str .bool),It]→Prop) (m2:List MtD × Int × List MvD × Unit→Ds [.sl Mt,.sl (.pair .str .bool),It]→Nat) (m:McD)  : VC :=
 let z1:=m.1;
 let z2:=z1.2;
 let z3:=(Prod.fst z1,z2.1,z2.2);
 let z4:=Ty.pair (Ty.pair (Ty.sl It) (Ty.sl Th)) Kp;
 let z5:=BxF.first F z3;
 let z6:=(Prod.fst z5,z5.2);
 let z7:=(L.llen z4 [(z6,Int.negSucc 0,0)]);
 let z8:=(Prod.fst (L.get z4 [(z6,Int.negSucc 0,0)] (L.toN 0)));
 let z9:=(Prod.fst z8,z8.2);
 let z10:=z1.1;
 let z11:=z2.1;
 let z12:=z2.2;
 let z13:=m.2;
 let z14:=BxF.key F z9;
 let z15:=L.mput Ty.str Ty.bool [] z14 true;
 let z16:=List Int × List (Int × List Int × List (Int × Int) × List Int × Bool);
 let z17:=List (z16 × Int × Int) × List (ByteArray × Bool) × Int × Unit;
 let z18:=(Prod.fst (BxF.all F m),Prod.snd (BxF.all F m),()); .obl (BxF.pFirst F z3) (.obl (L.inR 0 1) (.obl (L.ltN (L.toN 0) z7) (.obl (BxF.pKey F z9) (.obl
  (St.mk 69 [(1,V.c (C.ptr 1 0)),(4,V.c (C.own 4 1)),(5,V.c (C.map 5)),(6,V.c (C.int .i64 0))] [(0,Ob.amb),(1,Ob.box 149 [C.sl It z10,C.sl (Ty.sl In) z11,C.int
  .i64 z12,C.sym z13]),(4,Ob.row 174 z4 [(z6,Int.negSucc 0,0)]),(5,Ob.map Ty.str Ty.bool z15)] 6 = St.mk 69 [(1,V.c (C.ptr 1 0)),(4,V.c (C.own 4 z7)),(5,V.c
  (C.map 5)),(6,V.c (C.int .i64 0))] [(0,Ob.amb),(1,Ob.box 149 [C.sl It z10,C.sl (Ty.sl In) z11,C.int .i64 z12,C.sym z13]),(4,Ob.row 174 z4 [(z6,
  Int.negSucc 0,0)]),(5,Ob.map Ty.str Ty.bool z15)] 6) (.obl (I ([(z6,Int.negSucc 0,0)],L.mput Ty.str Ty.bool [] z14 true,0,())) (.all z17 fun (v1:List ((List Int
  × List (Int × List Int × List (Int × Int) × List Int × Bool)) × Int × Int) × List (ByteArray × Bool) × Int × Unit) =>
 let z19:=v1.2;
 let z20:=z19.2;
 let z21:=z20.1;
 let z22:=v1.1;
 let z23:=L.llen z4 z22;
 let z24:=L.toN z21;
 let z25:=Prod.fst (L.get z4 z22 z24);
 let z26:=(Prod.fst z25,z25.2);
 let z27:=(BxF.moves F (z3,m.2) z26);
 let z28:=L.llen Mv z27;
 let z29:=L.cast z28;
 let z30:=z19.1;
 let z31:=(Prod.fst v1,z20.1,BxF.moves F (z3,m.2) z26,());
 let z32:=L.ar .add .i64 z21 1; .imp (I v1) (.br (L.cmp .lss z21 (L.cast z23)) (.obl (L.inR z21 z23) (.obl (L.ltN z24 z23) (.obl (BxF.pE
  F z26 (z3,m.2)) (.obl (St.mk 69 [(1,V.c (C.ptr 1 0)),(4,V.c (C.own 6 z23)),(5,V.c (C.map 7)),(6,V.c (C.int .i64 z21)),(35,V.c (C.sl Mv z27)),(36,V.c
  (C.int .i64 z29)),(37,V.c (C.int .i64 0))] [(0,Ob.amb),(1,Ob.box 149 [C.sl It z10,C.sl (Ty.sl In) z11,C.int .i64 z12,C.sym z13]),(6,Ob.row 174 z4
  z22),(7,Ob.map Ty.str Ty.bool z30)] 8 = St.mk 69 [(1,V.c (C.ptr 1 0)),(4,V.c (C.own 6 z23)),(5,V.c (C.map 7)),(6,V.c (C.int .i64 z21)),(35,V.c (C.sl Mv z27)),
  (36,V.c (C.int .i64 z29)),(37,V.c (C.int .i64 0))] [(0,Ob.amb),(1,Ob.box 149 [C.sl It z10,C.sl (Ty.sl In) z11,C.int .i64 z12,C.sym z13]),(6,Ob.row
  174 z4 z22),(7,Ob.map Ty.str Ty.bool z30)] 8) (.obl (I2 z31 (Prod.fst v1,z19.1,0,())) (.all z17 fun (v2:List ((List Int × List (Int × List Int × List (Int ×
  Int) × List Int × Bool)) × Int × Int) × List (ByteArray × Bool) × Int × Unit) =>
 let z33:=v2.2;
 let z34:=z33.2;
 let z35:=z34.1;
 let z36:=v2.1;
 let z37:=L.llen z4 z36;
 let z38:=Prod.fst (L.get z4 z36 z24);
 let z39:=(Prod.fst z38,z38.2);
 let z40:=L.get Mv z27 (L.toN z35);
 let z41:=(Prod.fst z40,z40.2);
 let z42:=(BxF.doo F (z3,m.2) z39 z41);
 let z43:=(Prod.fst z42,z42.2);
 let z44:=z33.1;
 let z45:=BxF.key F z43;
 let z46:=L.ar .add .i64 z35 1;
 let z47:=(Prod.fst v2,z33.1,L.ar .add .i64 z35 1,());
 let z48:=L.take z4 z36 z37;
 let z49:=(L.take z4 [(z43,z20.1,z34.1)] 1);
 let z50:=L.add (L.llen z4 z48) (L.llen z4 z49);
 let z51:=L.app z4 z48 z49;
 let z52:=L.mput Ty.str Ty.bool z44 z45 true;
 let z53:=(L.app z4 z48 z49,L.mput Ty.str Ty.bool z44 z45 true,L.ar .add .i64 z35 1,());
 let z54:=(Prod.fst v2,z33.1,L.ar .add .i64 z21 1,()); .imp (I2 z31 v2) (.br (L.cmp .lss z35 z29) (.obl (L.inR z35 z28) (.obl (L.inR
  z21 z37) (.obl (L.ltN z24 z37) (.obl (BxF.pDo F (z3,m.2) z39 z41) (.obl (BxF.pKey F z43) (.br (L.mval Ty.str Ty.bool z44 z45) (.ok (St.mk 69 [(1,V.c
  (C.ptr 1 0)),(4,V.c (C.own 6 z37)),(5,V.c (C.map 7)),(6,V.c (C.int .i64 z21)),(35,V.c (C.sl Mv z27)),(36,V.c (C.int .i64 z29)),(37,V.c (C.int
  .i64 z46))] [(0,Ob.amb),(1,Ob.box 149 [C.sl It z10,C.sl (Ty.sl In) z11,C.int .i64 z12,C.sym z13]),(6,Ob.row 174 z4 z36),(7,Ob.map Ty.str Ty.bool z44)] 8 =
  St.mk 69 [(1,V.c (C.ptr 1 0)),(4,V.c (C.own 6 z37)),(5,V.c (C.map 7)),(6,V.c (C.int .i64 z21)),(35,V.c (C.sl Mv z27)),(36,V.c (C.int .i64 z29)),(37,V.c
  (C.int .i64 z46))] [(0,Ob.amb),(1,Ob.box 149 [C.sl It z10,C.sl (Ty.sl In) z11,C.int .i64 z12,C.sym z13]),(6,Ob.row 174 z4 z36),(7,Ob.map Ty.str Ty.bool
  z44)] 8∧I2 z31 z47∧m2 z31 z47 < m2 z31 v2)) (.br (L.cmp .eql (L.cast z37) 20000) (.ok (([],5,()) = z18)) (.obl (L.room z50 64) (.ok (St.mk 69 [(1,V.c
  (C.ptr 1 0)),(4,V.c (C.own 6 z50)),(5,V.c (C.map 7)),(6,V.c (C.int .i64 z21)),(35,V.c (C.sl Mv z27)),(36,V.c (C.int .i64 z29)),(37,V.c (C.int
  .i64 z46))] [(0,Ob.amb),(1,Ob.box 149 [C.sl It z10,C.sl (Ty.sl In) z11,C.int .i64 z12,C.sym z13]),(6,Ob.row 174 z4 z51),(7,Ob.map Ty.str Ty.bool z52)] 8 =
  St.mk 69 [(1,V.c (C.ptr 1 0)),(4,V.c (C.own 6 (L.llen z4 z51))),(5,V.c (C.map 7)),(6,V.c (C.int .i64 z21)),(35,V.c (C.sl Mv z27)),(36,V.c (C.int .i64
  z29)),(37,V.c (C.int .i64 z46))] [(0,Ob.amb),(1,Ob.box 149 [C.sl It z10,C.sl (Ty.sl In) z11,C.int .i64 z12,C.sym z13]),(6,Ob.row 174 z4 z51),(7,Ob.map
  Ty.str Ty.bool z52)] 8∧I2 z31 z53∧m2 z31 z53 < m2 z31 v2)))))))))) (.ok (St.mk 69 [(1,V.c (C.ptr 1 0)),(4,V.c (C.own 4 z37)),(5,V.c (C.map 5)),(6,V.c (C.int
  .i64 z32))] [(0,Ob.amb),(1,Ob.box 149 [C.sl It z10,C.sl (Ty.sl In) z11,C.int .i64 z12,C.sym z13]),(4,Ob.row 174 z4 z36),(5,Ob.map Ty.str Ty.bool z44)] 6 =
  St.mk 69 [(1,V.c (C.ptr 1 0)),(4,V.c (C.own 4 z37)),(5,V.c (C.map 5)),(6,V.c (C.int .i64 z32))] [(0,Ob.amb),(1,Ob.box 149 [C.sl It z10,C.sl (Ty.sl In) z11,
  C.int .i64 z12,C.sym z13]),(4,Ob.row 174 z4 z36),(5,Ob.map Ty.str Ty.bool z44)] 6∧I z54∧mu z54 < mu v1))))))))) (.ok ((L.take z4 z22 z23,0,()) =
  z18)))))))))
theorem n66_go (L:Lv) (F:BxF) (I:Ds [.sl Mt,.sl (.pair .str .bool),It]→Prop) (mu:Ds [.sl Mt,.sl (.pair .str .bool),It]→Nat) (I2:List MtD × Int × List MvD × Unit→Ds [.sl Mt,.sl (.pair .str .bool),It]→Prop) (m2:List MtD × Int × List MvD × Unit→Ds [.sl Mt,.sl (.pair .str .bool),It]→Nat) (m:McD) (h:VC.holds (n66 L F I mu I2 m2 m)):Holds (vcC L F [99,100,102,177] (D66 (a66 L I mu I2 m2)) (S66 F) (m,())):=Holds.of_eq (by kernel_rfl) h
theorem pre_get {α:Type} {l l0:List α} (h:l.take l0.length = l0) {n:Nat} (hn:n < l0.length):l[n]? = l0[n]?:=by
 have:(l.take l0.length)[n]? = l0[n]?:=by rw [h]
 rw [List.getElem?_take] at this
 rw [if_pos hn] at this; exact this
theorem addN_cons (m:McD) (s:StD) (a:Int) (j:Nat) (v:MvD) (r:List MvD) (l:List MtD):addN m s a j (v :: r) l = if metIn l (doF m s v) then addN m s a (j + 1) r l else if l.length = 20000 then none else addN m s a (j + 1) r (l ++ [(doF m s v,a,(j:Int))]):=rfl
theorem ok66 (F:BxF) (h:F.all = allF) (h1:F.first = firstF) (h2:F.moves = movesF) (h3:F.doo = doF) (h4:F.key = keyF) (hp:F.okM = fun m=>OkP m.1) (q:F.pE = pEF) (q1:F.pDo = pDoF) (q2:F.pFirst = fun p=>p.1.length≤1000000∧p.2.1.length≤1000000) (q3:F.pKey = fun s=>s.1.length≤64∧s.2.length≤4∧∀ t ∈ s.2,t.2.1.length≤100∧t.2.2.1.length≤100∧t.2.2.2.1.length≤100)
  (k1:SpecOk prog 99 (S79 F)) (k2:SpecOk prog 100 (S90 F)) (k3:SpecOk prog 102 (S99 F)) (k4:SpecOk prog 177 (S109 F)):SpecOk prog 115 (S66 F):=by
 refine Zc hm hE D66 fnok66 _ fun (z:McD × Unit) hpre=>?_
 obtain ⟨⟨p,b⟩,⟨⟩⟩:=z
 have o1:F.okM (p,b):=hpre
 rw [hp] at o1
 have o1:OkP p:=o1
 let I:List MtD × List (ByteArray × Bool) × Int × Unit→Prop:=fun x=>(0≤x.2.2.1∧x.2.2.1≤x.1.length)∧x.1.length≤20000∧(∀ y ∈ x.1,OkS p y.1)∧SeenOk p x.2.1 x.1∧bfsN (p,b) (20001 - x.2.2.1.toNat) x.2.2.1.toNat x.1 = bfs0 (p,b)
 let mu:List MtD × List (ByteArray × Bool) × Int × Unit→Nat:=fun x=>(20001 - x.2.2.1).toNat
 let nd:List MtD→Int→StD:=fun l a=>((l[a.toNat]?).getD (([],[]),0,0)).1
 let I2:List MtD × Int × List MvD × Unit→List MtD × List (ByteArray × Bool) × Int × Unit→Prop:=fun e x=>(0≤x.2.2.1∧x.2.2.1≤e.2.2.1.length)∧e.1.length≤x.1.length∧x.1.take e.1.length = e.1∧x.1.length≤20000∧(∀ y ∈ x.1,OkS p y.1)∧SeenOk p x.2.1 x.1 ∧
  addN (p,b) (nd e.1 e.2.1) e.2.1 x.2.2.1.toNat (e.2.2.1.drop x.2.2.1.toNat) x.1 = addN (p,b) (nd e.1 e.2.1) e.2.1 0 e.2.2.1 e.1
 let m2:List MtD × Int × List MvD × Unit→List MtD × List (ByteArray × Bool) × Int × Unit→Nat:=fun e x=>(e.2.2.1.length - x.2.2.1).toNat
 refine Yp _ 3 (a66 Lv.std I mu I2 m2) (Zs (T:=cT F) (l:=[99,100,102,177]) (Za (Yh k1 (by kernel_rfl)) (Za (Yh k2 (by kernel_rfl)) (Za (Yh k3 (by kernel_rfl)) (Za (Yh k4 (by kernel_rfl)) Z4))))) ?_
 refine n66_go Lv.std F I mu I2 m2 (p,b) ?_
 have e1:∀ (l:List MtD) (k:Int),Lv.std.get Mt l k.toNat = (l[k.toNat]?).getD (([],[]),0,0):=fun _ _=>rfl
 have e2:∀ (l:List MvD) (k:Int),Lv.std.get Mv l k.toNat = (l[k.toNat]?).getD (0,false):=fun _ _=>rfl
 simp only [n66,VC.holds,ZJ,Zt,Zr,ZH,e1,e2,ZI,Z6,Zb,Z2,ZK,ZL,Z3,ZP,ZQ,List.take_length,List.take_succ_cons,List.take_zero,List.length_append,List.length_cons,List.length_nil,Nat.zero_add,Zd,Ze,Zk,Zl,h,h1,h2,h3,h4,q,q1,q2,q3,pe5,Prod.mk.injEq,and_true,true_and]
 have e0:((([(firstF p,Int.negSucc 0,0)]:List MtD)[Int.toNat 0]?).getD (([],[]),0,0)).1 = firstF p:=rfl
 have of:=first_ok o1
 simp only [e0]
 refine ⟨⟨by have:=o1.w64; omega,by have:=o1.t4; omega⟩,by decide,by decide,key_sm o1 of,⟨⟨Int.le_refl 0,by show (0:Int)≤1; decide⟩,by show (1:Nat)≤20000; decide,fun y hy=>?_,?_,rfl⟩,?_⟩
 ·rw [List.mem_singleton.1 hy]; exact of
 ·exact seen_put (l:=[]) o1 (fun s hs=>rfl) of _ _
 rintro ⟨l,mp,x,⟨⟩⟩ ⟨⟨i1,i2⟩,i3,i4,i5,i6⟩
 simp only at i1 i2 i3 i4 i5 i6 ⊢
 obtain ⟨n,rfl⟩:=Yq i1
 rw [Int.toNat_natCast] at i6 ⊢
 have allc:∀ r,bfs0 (p,b) = r→allF (p,b) = match r with | some l=>(l,0) | none=>([],5):=fun r hr=>by rw [allF,hr]; cases r <;> rfl
 refine ⟨fun hlt=>?_,fun hge=>?_⟩
 ·have hn:n < l.length:=by omega
  have hl0:l[n]? = some l[n]:=List.getElem?_eq_getElem hn
  obtain ⟨f,hf⟩:∃ f,20001 - n = f + 1:=⟨20001 - n - 1,by omega⟩
  have hb:bfsN (p,b) (20001 - n) n l = match addN (p,b) l[n].1 n 0 (movesF (p,b) l[n].1) l with | none=>none | some l'=>bfsN (p,b) f (n + 1) l':=by rw [hf,bfsN,hl0]; rfl
  rw [hl0,Option.getD_some]
  have os:=i4 _ (List.getElem_mem hn)
  generalize hsg:l[n].1 = s at *
  generalize hmv:movesF (p,b) s = mv at *
  have hnd:nd l n = s:=by
   show ((l[(n:Int).toNat]?).getD (([],[]),0,0)).1 = s
   rw [Int.toNat_natCast,hl0]; exact hsg
  have hml:mv.length≤8:=by
   have:=mvN_len s (p,b) s.2.length
   have h2:(movesF (p,b) s).length≤2 * s.2.length:=this
   rw [hmv] at h2
   have:=os.tl; have:=o1.t4; omega
  refine ⟨⟨i1,hlt⟩,hn,ok_pE o1 os,⟨⟨Int.le_refl 0,by show (0:Int)≤mv.length; omega⟩,Nat.le_refl _,List.take_length,i3,i4,i5,rfl⟩,?_⟩
  rintro ⟨l2,mp2,y,⟨⟩⟩ ⟨⟨j1,j2⟩,j3,j4,j5,j6,j7,j8⟩
  have j1:(0:Int)≤y:=j1
  obtain ⟨j,rfl⟩:=Yq j1
  have j2:(j:Int)≤mv.length:=j2
  have j3:l.length≤l2.length:=j3
  have j4:l2.take l.length = l:=j4
  have j5:l2.length≤20000:=j5
  have j6:∀ y ∈ l2,OkS p y.1:=j6
  have j7:SeenOk p mp2 l2:=j7
  have j8:addN (p,b) (nd l n) n (j:Int).toNat (mv.drop (j:Int).toNat) l2 = addN (p,b) (nd l n) n 0 mv l:=j8
  rw [hnd,Int.toNat_natCast] at j8
  have hg2:l2[n]? = some l[n]:=(pre_get j4 hn).trans hl0
  simp only [Int.toNat_natCast,hg2,Option.getD_some,hsg]
  refine ⟨fun hlt2=>?_,fun hge2=>?_⟩
  ·have hj:j < mv.length:=by omega
   have hvm:mv[j] ∈ movesF (p,b) s:=by rw [hmv]; exact List.getElem_mem hj
   rw [List.getElem?_eq_getElem hj,Option.getD_some,wr hlt2 (by omega)]
   have od:=do_ok o1 os hvm
   rw [List.drop_eq_getElem_cons hj,addN_cons] at j8
   generalize mv[j] = v at *
   have m2l:∀ u w:_,m2 (l,(n:Int),mv,()) (u,w,((j + 1:Nat):Int),()) < m2 (l,(n:Int),mv,()) (l2,mp2,(j:Int),()):=fun u w=>by show ((mv.length:Int) - ((j + 1:Nat):Int)).toNat < ((mv.length:Int) - (j:Int)).toNat; omega
   have hj0:(0:Int)≤((j + 1:Nat):Int):=by omega
   have hj1:((j + 1:Nat):Int)≤(mv.length:Int):=by omega
   refine ⟨⟨j1,hlt2⟩,⟨i1,by omega⟩,by omega,ok_pDo o1 os hvm,key_sm o1 od,fun hm=>⟨?_,m2l _ _⟩,fun hm=>⟨fun h2=>?_,fun h2=>⟨⟨by omega,by omega⟩,?_,m2l _ _⟩⟩⟩
   ·rw [j7 _ od] at hm
    rw [if_pos hm] at j8
    refine ⟨⟨hj0,hj1⟩,j3,j4,j5,j6,j7,?_⟩
    show addN (p,b) (nd l n) n ((j + 1:Nat):Int).toNat (mv.drop ((j + 1:Nat):Int).toNat) l2 = addN (p,b) (nd l n) n 0 mv l
    rw [hnd,Int.toNat_natCast]; exact j8
   ·rw [j7 _ od] at hm
    rw [if_neg (by rw [hm]; simp),if_pos (by omega)] at j8
    rw [← j8] at hb
    rw [allc none (by rw [← i6,hb])]
    exact ⟨rfl,rfl⟩
   ·rw [j7 _ od] at hm
    rw [if_neg (by rw [hm]; simp),if_neg (by omega)] at j8
    refine ⟨⟨hj0,hj1⟩,by show l.length≤(l2 ++ [_]).length; rw [List.length_append]; omega,?_,by show (l2 ++ [_]).length≤20000; simp only [List.length_append,List.length_cons,List.length_nil]; omega,fun y hy=>?_,seen_put o1 j7 od _ _,?_⟩
    ·show (l2 ++ [_]).take l.length = l
     rw [List.take_append_of_le_length j3]; exact j4
    ·rcases List.mem_append.1 hy with h3 | h3
     ·exact j6 y h3
     ·rw [List.mem_singleton.1 h3]; exact od
    ·show addN (p,b) (nd l n) n ((j + 1:Nat):Int).toNat (mv.drop ((j + 1:Nat):Int).toNat) (l2 ++ [(doF (p,b) s v,(n:Int),(j:Int))]) = addN (p,b) (nd l n) n 0 mv l
     rw [hnd,Int.toNat_natCast]; exact j8
  ·rw [show j = mv.length by omega,List.drop_length] at j8
   have j8:some l2 = addN (p,b) s n 0 mv l:=j8
   rw [← j8] at hb
   rw [show IntKind.i64.wrap ((n:Int) + 1) = ((n + 1:Nat):Int) by rw [Yn (by omega) (by omega)]; omega]
   refine ⟨⟨⟨by show (0:Int)≤((n + 1:Nat):Int); omega,by show ((n + 1:Nat):Int)≤(l2.length:Int); omega⟩,j5,j6,j7,?_⟩,by show ((20001:Int) - ((n + 1:Nat):Int)).toNat < ((20001:Int) - (n:Int)).toNat; omega⟩
   show bfsN (p,b) (20001 - ((n + 1:Nat):Int).toNat) ((n + 1:Nat):Int).toNat l2 = bfs0 (p,b)
   rw [Int.toNat_natCast,show 20001 - (n + 1) = f by omega,← i6,hb]
 ·obtain ⟨f,hf⟩:∃ f,20001 - n = f + 1:=⟨20001 - n - 1,by omega⟩
  have hb:bfsN (p,b) (20001 - n) n l = some l:=by rw [hf,bfsN,List.getElem?_eq_none (by omega)]
  rw [allc (some l) (by rw [← i6,hb])]
  exact ⟨rfl,rfl⟩
end Go.Proofs.Tryz
namespace Go.Proofs.Tryz
open Go Go.VM
def a45 (L:Lv) (I:Ds [It]→Prop) (mu:Ds [It]→Nat):Nat→LAnn
 | 0=>anH L [2,3,37,38,39] [] [.s 39 It] I mu
 | _=>.no
def a71 (L:Lv) (I:Ds [.sl (.sl It),.sl U8,It]→Prop) (mu:Ds [.sl (.sl It),.sl U8,It]→Nat):Nat→LAnn
 | 0=>anH L [2,4,5,14,15,16] [(5,some 1,22,.sl It),(5,some 2,5,U8)] [.br 5 1 (.sl It),.br 5 2 U8,.s 16 It] I mu
 | _=>.no
def n71 (L:Lv) (F:BxF) (I:Ds [.sl (.sl It),.sl U8,It]→Prop) (mu:Ds [.sl (.sl It),.sl U8,It]→Nat) (m:McD) (s:StD)  : VC :=
 let z1:=s.1;
 let z2:=s.2;
 let z3:=L.llen Th z2;
 let z4:=L.cast z3;
 let z5:=m.1.1;
 let z6:=m.1.2;
 let z7:=z6.1;
 let z8:=z6.2;
 let z9:=m.2;
 let z10:=L.llen It z1;
 let z11:=Ty.int .u8;
 let z12:=L.take z11 [1] 1;
 let z13:=L.llen z11 z12;
 let z14:=L.take z11 [2] 1;
 let z15:=L.llen z11 z14;
 let z16:=L.take z11 [3] 1;
 let z17:=L.llen z11 z16; .obl (BxF.pLi F z1) (.obl (St.mk 51 [(2,V.c (C.ptr 1 0)),(4,V.c (C.ptr 3 0)),(5,V.c (C.ptr 5 0)),(14,V.c (C.sl Th z2)),(15,V.c (C.int
  .i64 z4)),(16,V.c (C.int .i64 0))] [(0,Ob.amb),(1,Ob.box 149 [C.sl It z5,C.sl (Ty.sl In) z7,C.int .i64 z8,C.sym z9]),(2,Ob.box 45 [C.sl It z1,C.sl
  Th z2]),(3,Ob.box 114 [C.nils,C.nils,C.nils]),(4,Ob.row 3 It z1),(5,Ob.box 114 [C.own 4 z10,C.own 8 0,C.own 9 0]),(8,Ob.row 22 (Ty.sl It) []),(9,Ob.row 5 z11 [])] 10
  = St.mk 51 [(2,V.c (C.ptr 1 0)),(4,V.c (C.ptr 3 0)),(5,V.c (C.ptr 5 0)),(14,V.c (C.sl Th z2)),(15,V.c (C.int .i64 z4)),(16,V.c (C.int .i64 0))] [(0,
  Ob.amb),(1,Ob.box 149 [C.sl It z5,C.sl (Ty.sl In) z7,C.int .i64 z8,C.sym z9]),(2,Ob.box 45 [C.sl It z1,C.sl Th z2]),(3,Ob.box 114 [C.nils,C.nils,C.nils]),(4,
  Ob.row 3 It z1),(5,Ob.box 114 [C.own 4 z10,C.own 8 (L.llen (Ty.sl It) []),C.own 9 (L.llen z11 [])]),(8,Ob.row 22 (Ty.sl It) []),(9,Ob.row 5 z11 [])] 10) (.obl (I
  ([],[],0,())) (.all (List (List Int) × List Int × Int × Unit) fun (v1:List (List Int) × List Int × Int × Unit) =>
 let z18:=v1.2.2.1;
 let z19:=L.toN z18;
 let z20:=L.get Th z2 z19;
 let z21:=z20.2.2.2;
 let z22:=z21.1;
 let z23:=BxF.pLi F z22;
 let z24:=v1.1;
 let z25:=L.llen (Ty.sl It) z24;
 let z26:=L.take (Ty.sl It) z24 z25;
 let z27:=L.take (Ty.sl It) [L.take It z22 (L.llen It z22)] 1;
 let z28:=L.add (L.llen (Ty.sl It) z26) (L.llen (Ty.sl It) z27);
 let z29:=L.room z28 24;
 let z30:=v1.2.1;
 let z31:=L.llen z11 z30;
 let z32:=L.take z11 z30 z31;
 let z33:=L.llen z11 z32;
 let z34:=L.add z33 z13;
 let z35:=L.ar .add .i64 z18 1;
 let z36:=L.app (Ty.sl It) z26 z27;
 let z37:=L.app z11 z32 z12;
 let z38:=L.llen (Ty.sl It) z36;
 let z39:=(L.app (Ty.sl It) z26 z27,L.app z11 z32 z12,L.ar .add .i64 z18 1,());
 let z40:=L.add z33 z15;
 let z41:=L.app z11 z32 z14;
 let z42:=(L.app (Ty.sl It) z26 z27,L.app z11 z32 z14,L.ar .add .i64 z18 1,());
 let z43:=L.add z33 z17;
 let z44:=L.app z11 z32 z16;
 let z45:=(L.app (Ty.sl It) z26 z27,L.app z11 z32 z16,L.ar .add .i64 z18 1,()); .imp (I v1) (.br (L.cmp .lss z18 z4) (.obl (L.inR z18 z3)
  (.obl (L.inR z18 (L.llen (Ty.sl In) z7)) (.br (L.cmp .eql z20.1 (L.cast (L.llen In (L.get (Ty.sl In) z7 z19)))) (.obl z23 (.obl z29
  (.obl (L.room z34 1) (.ok (St.mk 51 [(2,V.c (C.ptr 1 0)),(4,V.c (C.ptr 3 0)),(5,V.c (C.ptr 5 0)),(14,V.c (C.sl Th z2)),(15,V.c (C.int .i64 z4)),(16,V.c
  (C.int .i64 z35))] [(0,Ob.amb),(1,Ob.box 149 [C.sl It z5,C.sl (Ty.sl In) z7,C.int .i64 z8,C.sym z9]),(2,Ob.box 45 [C.sl It z1,C.sl Th z2]),(3,Ob.box 114
  [C.nils,C.nils,C.nils]),(4,Ob.row 3 It z1),(5,Ob.box 114 [C.own 4 z10,C.own 8 z28,C.own 9 z34]),(8,Ob.row 22 (Ty.sl It) z36),(9,Ob.row 5 z11 z37)] 10 = St.mk 51 [(2,
  V.c (C.ptr 1 0)),(4,V.c (C.ptr 3 0)),(5,V.c (C.ptr 5 0)),(14,V.c (C.sl Th z2)),(15,V.c (C.int .i64 z4)),(16,V.c (C.int .i64 z35))] [(0,Ob.amb),(1,
  Ob.box 149 [C.sl It z5,C.sl (Ty.sl In) z7,C.int .i64 z8,C.sym z9]),(2,Ob.box 45 [C.sl It z1,C.sl Th z2]),(3,Ob.box 114 [C.nils,C.nils,C.nils]),(4,Ob.row 3 It
  z1),(5,Ob.box 114 [C.own 4 z10,C.own 8 z38,C.own 9 (L.llen z11 z37)]),(8,Ob.row 22 (Ty.sl It) z36),(9,Ob.row 5 z11 z37)] 10∧I z39∧mu z39 < mu v1))))) (.br
  z21.2 (.obl z23 (.obl z29 (.obl (L.room z40 1) (.ok (St.mk 51 [(2,V.c (C.ptr 1 0)),(4,V.c (C.ptr 3 0)),(5,V.c (C.ptr 5 0)),(14,V.c (C.sl Th z2)),(15,
  V.c (C.int .i64 z4)),(16,V.c (C.int .i64 z35))] [(0,Ob.amb),(1,Ob.box 149 [C.sl It z5,C.sl (Ty.sl In) z7,C.int .i64 z8,C.sym z9]),(2,Ob.box 45
  [C.sl It z1,C.sl Th z2]),(3,Ob.box 114 [C.nils,C.nils,C.nils]),(4,Ob.row 3 It z1),(5,Ob.box 114 [C.own 4 z10,C.own 8 z28,C.own 9 z40]),(8,Ob.row 22 (Ty.sl It) z36),
  (9,Ob.row 5 z11 z41)] 10 = St.mk 51 [(2,V.c (C.ptr 1 0)),(4,V.c (C.ptr 3 0)),(5,V.c (C.ptr 5 0)),(14,V.c (C.sl Th z2)),(15,V.c (C.int .i64 z4)),(16,V.c (C.int
  .i64 z35))] [(0,Ob.amb),(1,Ob.box 149 [C.sl It z5,C.sl (Ty.sl In) z7,C.int .i64 z8,C.sym z9]),(2,Ob.box 45 [C.sl It z1,C.sl Th z2]),(3,Ob.box 114 [C.nils,
  C.nils,C.nils]),(4,Ob.row 3 It z1),(5,Ob.box 114 [C.own 4 z10,C.own 8 z38,C.own 9 (L.llen z11 z41)]),(8,Ob.row 22 (Ty.sl It) z36),(9,Ob.row 5 z11 z41)] 10∧I z42 ∧
  mu z42 < mu v1))))) (.obl z23 (.obl z29 (.obl (L.room z43 1) (.ok (St.mk 51 [(2,V.c (C.ptr 1 0)),(4,V.c (C.ptr 3 0)),(5,V.c (C.ptr 5 0)),(14,V.c (C.sl Th z2)),
  (15,V.c (C.int .i64 z4)),(16,V.c (C.int .i64 z35))] [(0,Ob.amb),(1,Ob.box 149 [C.sl It z5,C.sl (Ty.sl In) z7,C.int .i64 z8,C.sym z9]),(2,Ob.box 45
  [C.sl It z1,C.sl Th z2]),(3,Ob.box 114 [C.nils,C.nils,C.nils]),(4,Ob.row 3 It z1),(5,Ob.box 114 [C.own 4 z10,C.own 8 z28,C.own 9 z43]),(8,Ob.row 22 (Ty.sl It) z36),
  (9,Ob.row 5 z11 z44)] 10 = St.mk 51 [(2,V.c (C.ptr 1 0)),(4,V.c (C.ptr 3 0)),(5,V.c (C.ptr 5 0)),(14,V.c (C.sl Th z2)),(15,V.c (C.int .i64 z4)),(16,V.c (C.int
  .i64 z35))] [(0,Ob.amb),(1,Ob.box 149 [C.sl It z5,C.sl (Ty.sl In) z7,C.int .i64 z8,C.sym z9]),(2,Ob.box 45 [C.sl It z1,C.sl Th z2]),(3,Ob.box 114 [C.nils,
  C.nils,C.nils]),(4,Ob.row 3 It z1),(5,Ob.box 114 [C.own 4 z10,C.own 8 z38,C.own 9 (L.llen z11 z44)]),(8,Ob.row 22 (Ty.sl It) z36),(9,Ob.row 5 z11 z44)] 10∧I z45 ∧
  mu z45 < mu v1))))))))) (.ok (((L.take It z1 z10,L.take (Ty.sl It) z24 z25,L.take z11 z30 z31),()) = (BxF.endOf F m s,())))))))
theorem n71_go (L:Lv) (F:BxF) (I:Ds [.sl (.sl It),.sl U8,It]→Prop) (mu:Ds [.sl (.sl It),.sl U8,It]→Nat) (m:McD) (s:StD) (h:VC.holds (n71 L F I mu m s)):Holds (vcC L F [113] (D71 (a71 L I mu)) (S71 F) (m,s,())):=Holds.of_eq (by kernel_rfl) h
theorem ok71 (F:BxF) (h:F.endOf = endOfF) (hp:F.pEnd = fun m s=>bS s∧s.2.length≤m.1.2.1.length) (q:F.pLi = fun l=>l.length≤1000000) (k1:XOk prog 113 (R76 F).x):SpecOk prog 120 (S71 F):=by
 refine Zc hm hE D71 fnok71 _ fun (z:McD × StD × Unit) hpre=>?_
 obtain ⟨m,s,⟨⟩⟩:=z
 have hpre':F.pEnd m s:=hpre
 rw [hp] at hpre'
 obtain ⟨⟨g1,g2,g3⟩,g4⟩:=hpre'
 let I:List (List Int) × List Int × Int × Unit→Prop:=fun x=>(0≤x.2.2.1∧x.2.2.1≤s.2.length)∧(x.1,x.2.1) = endThs m s x.2.2.1.toNat
 let mu:List (List Int) × List Int × Int × Unit→Nat:=fun x=>(s.2.length - x.2.2.1).toNat
 refine Yp _ 3 (a71 Lv.std I mu) (Zs (T:=cT F) (l:=[113]) (Za (XB k1 (by kernel_rfl)) Z4)) ?_
 refine n71_go Lv.std F I mu m s ?_
 have e1:∀ k:Int,Lv.std.get Th s.2 k.toNat = thAt s k:=fun _=>rfl
 have e2:∀ k:Int,Lv.std.get (.sl In) m.1.2.1 k.toNat = listAt m k:=fun _=>rfl
 simp only [n71,VC.holds,ZJ,Zt,Zr,ZH,e1,e2,ZI,Zb,Z2,ZK,ZL,Z3,List.take_length,List.take_succ_cons,List.take_zero,List.length_append,List.length_cons,List.length_nil,Nat.zero_add,Zd,Ze,Zk,Zl,h,q,Prod.mk.injEq,and_true,true_and]
 refine ⟨g1,⟨⟨Int.le_refl 0,by show (0:Int)≤s.2.length; omega⟩,rfl⟩,?_⟩
 rintro ⟨l,l2,x,⟨⟩⟩ ⟨⟨i1,i2⟩,i3⟩
 simp only at i1 i2 i3 ⊢
 obtain ⟨k,rfl⟩:=Yq i1
 rw [Int.toNat_natCast] at i3
 obtain ⟨rfl,rfl⟩:l = (endThs m s k).1∧l2 = (endThs m s k).2:=⟨congrArg Prod.fst i3,congrArg Prod.snd i3⟩
 have n1:(endThs m s k).1.length = k:=by simp [endThs]
 have n2:(endThs m s k).2.length = k:=by simp [endThs]
 rw [n1,n2]
 refine ⟨fun hlt=>?_,fun hge=>?_⟩
 ·have hk:k < s.2.length:=by omega
  have bt:bTh (thAt s k):=by
   unfold thAt; rw [Int.toNat_natCast,List.getElem?_eq_getElem hk]; exact g3 _ (List.getElem_mem hk)
  have stp:∀ h:Int,h = howF (thAt s k) (listAt m k).length→I ((endThs m s k).1 ++ [(thAt s k).2.2.2.1],(endThs m s k).2 ++ [h],((k + 1:Nat):Int),()):=fun h hh=>by
   refine ⟨⟨by show (0:Int)≤((k + 1:Nat):Int); omega,by show ((k + 1:Nat):Int)≤(s.2.length:Int); omega⟩,?_⟩
   show (_,_) = endThs m s ((k + 1:Nat):Int).toNat
   rw [Int.toNat_natCast,hh]
   simp only [endThs,List.range_succ,List.map_append,List.map_cons,List.map_nil]
  have ml:mu ((endThs m s k).1 ++ [(thAt s k).2.2.2.1],(endThs m s k).2 ++ [1],((k + 1:Nat):Int),()) < mu ((endThs m s k).1,(endThs m s k).2,(k:Int),()):=by
   show ((s.2.length:Int) - ((k + 1:Nat):Int)).toNat < ((s.2.length:Int) - (k:Int)).toNat; omega
  rw [wr hlt g2]
  refine ⟨⟨i1,hlt⟩,⟨i1,by omega⟩,fun c1=>⟨bt.2.2,⟨by omega,by omega⟩,⟨by omega,by omega⟩,stp 1 (by rw [howF,if_pos c1]),ml⟩,fun c1=>⟨fun c2=>⟨bt.2.2,⟨by omega,by omega⟩,⟨by omega,by omega⟩,stp 2 (by rw [howF,if_neg c1,if_pos c2]),ml⟩,fun c2=>⟨bt.2.2,⟨by omega,by omega⟩,⟨by omega,by omega⟩,stp 3 (by rw [howF,if_neg c1,if_neg (by rw [c2]; simp)]),ml⟩⟩⟩
 ·have:k = s.2.length:=by omega
  subst this; rfl
end Go.Proofs.Tryz
