/- What some functions of the lexer compute, proved through the condition generator. No condition of ours. -/
import Derived.Test.YthmlejcfgbpcbaaDoorP18x0
import Derived.Test.YthmlejcfgbpcbaaDoorP13ax0
import Derived.Test.YthmlejcfgbpcbaaDoorP15ax0
set_option autoImplicit false
set_option linter.all false
namespace Go.Proofs.Tryd
open Go Go.VM
set_option maxRecDepth 100000

/-! ### tokens alike at both ends -/
theorem hdT_take (fr : Int) (l m : List Lx) : l.take (hdT fr l m) = m.take (hdT fr l m) := by
  obtain ⟨b1, b2⟩ := hdT_le fr l m
  apply List.ext_getElem
  · rw [List.length_take, List.length_take]; omega
  · intro i h1 h2
    rw [List.getElem_take, List.getElem_take]
    rw [List.length_take] at h1
    exact (hdT_at fr l m i (by omega) (by omega) (by omega)).2
theorem tlT_take (to by_ : Int) : ∀ l m : List Lx, m.take (tlT to by_ l m) = (l.take (tlT to by_ l m)).map fun t => (t.1, t.2.1, t.2.2 + by_)
  | [], m => by simp [tlT]
  | x :: l, [] => by simp [tlT]
  | x :: l, y :: m => by
    have ih := tlT_take to by_ l m
    simp only [tlT]
    split
    · rename_i h
      obtain ⟨h1, h2, h3, h4⟩ := h
      rw [List.take_succ_cons, List.take_succ_cons, List.map_cons, ih]
      congr 1
      exact Prod.ext h2.symm (Prod.ext h3.symm h4)
    · rfl
theorem rev_take {α : Type} (l : List α) (n : Nat) (h : n ≤ l.length) : (l.reverse.take n).reverse = l.drop (l.length - n) := by
  rw [List.take_reverse, List.reverse_reverse]
theorem tlT_drop_eq (to by_ : Int) (l m : List Lx) : m.drop (m.length - tlT to by_ l.reverse m.reverse) = (l.drop (l.length - tlT to by_ l.reverse m.reverse)).map fun t => (t.1, t.2.1, t.2.2 + by_) := by
  obtain ⟨c1, c2⟩ := tlT_le to by_ l.reverse m.reverse
  rw [List.length_reverse] at c1 c2
  have h := tlT_take to by_ l.reverse m.reverse
  have h2 := congrArg List.reverse h
  rw [← List.map_reverse, rev_take m _ c2, rev_take l _ c1] at h2
  exact h2
theorem tlT_more {to by_ : Int} {ns nt : Nat} (hn : (nt : Int) = ns + by_) : ∀ (w : List Tk) (u v : List Lx), (∀ x ∈ w, to ≤ (ns : Int) - x.2.2) → w.length ≤ tlT to by_ (w.map (tkAt ns) ++ u) (w.map (tkAt nt) ++ v)
  | [], u, v, _ => by simp
  | x :: w, u, v, h => by
    have ih := tlT_more hn w u v fun y hy => h y (by simp [hy])
    have hx := h x (by simp)
    simp only [List.map_cons, List.cons_append, tlT, List.length_cons]
    rw [if_pos ⟨hx, rfl, rfl, by show (nt : Int) - x.2.2 = (ns : Int) - x.2.2 + by_; omega⟩]
    omega

/-! ### gaps of texts that agree -/
theorem gapF_agree {s t : ByteArray} {F : Int} (hs : F ≤ s.size) (ht : F ≤ t.size) (ha : ∀ j : Int, 0 ≤ j → j < F → byteAt s j = byteAt t j) : ∀ (n : Nat) (e : Int) (b : Bool), F - e ≤ n → 0 ≤ e → e ≤ s.size → gapF s ((s.size : Int) - e).toNat b < F → gapF t ((t.size : Int) - e).toNat b = gapF s ((s.size : Int) - e).toNat b
  | 0, e, b, hn, h0, h1, hg => by
    have := gapF_bounds s ((s.size : Int) - e).toNat b (by omega)
    omega
  | n + 1, e, b, hn, h0, h1, hg => by
    have hb := gapF_bounds s ((s.size : Int) - e).toNat b (by omega)
    have hef : e < F := by omega
    have e1 := gapF_step s e b h0 (by omega)
    have e2 := gapF_step t e b h0 (by omega)
    rw [← ha e h0 hef] at e2
    have ih := fun b' hh => gapF_agree hs ht ha n (e + 1) b' (by omega) (by omega) (by omega) hh
    rw [e1] at hg
    rw [e1, e2]
    by_cases c1 : byteAt s e = 10
    · rw [if_pos c1] at hg ⊢; rw [if_pos c1]; exact ih _ hg
    · rw [if_neg c1] at hg ⊢; rw [if_neg c1]
      cases b with
      | true => simp only [if_true] at hg ⊢; exact ih _ hg
      | false =>
        simp only [Bool.false_eq_true, if_false] at hg ⊢
        by_cases c2 : byteAt s e = 32
        · rw [if_pos c2] at hg ⊢; rw [if_pos c2]; exact ih _ hg
        · rw [if_neg c2] at hg ⊢; rw [if_neg c2]
          by_cases c3 : byteAt s e = 37
          · rw [if_pos c3] at hg ⊢; rw [if_pos c3]; exact ih _ hg
          · rw [if_neg c3, if_neg c3]
theorem gap_agree {s t : ByteArray} {F e : Int} (hs : F ≤ s.size) (ht : F ≤ t.size) (ha : ∀ j : Int, 0 ≤ j → j < F → byteAt s j = byteAt t j) (h0 : 0 ≤ e) (h1 : e ≤ s.size) (hg : gap s e < F) : gap t e = gap s e :=
  gapF_agree hs ht ha (F - e).toNat e false (by omega) h0 h1 hg
/-- A line feed within a gap ends all that is before it. -/
theorem gapF_feed {q : ByteArray} {d : Int} (hd : d < q.size) (hb : byteAt q d = 10) : ∀ (n : Nat) (e : Int) (b : Bool), d - e ≤ n → 0 ≤ e → e ≤ d → d < gapF q ((q.size : Int) - e).toNat b → gapF q ((q.size : Int) - e).toNat b = gapF q ((q.size : Int) - (d + 1)).toNat false
  | n, e, b, hn, h0, h1, hg => by
    have e1 := gapF_step q e b h0 (by omega)
    by_cases he : e = d
    · subst he
      rw [e1, if_pos hb]
    · rw [e1] at hg
      rw [e1]
      cases n with
      | zero => omega
      | succ n =>
        have ih := fun b' hh => gapF_feed hd hb n (e + 1) b' (by omega) (by omega) (by omega) hh
        by_cases c1 : byteAt q e = 10
        · rw [if_pos c1] at hg ⊢; exact ih _ hg
        · rw [if_neg c1] at hg ⊢
          cases b with
          | true => simp only [if_true] at hg ⊢; exact ih _ hg
          | false =>
            simp only [Bool.false_eq_true, if_false] at hg ⊢
            by_cases c2 : byteAt q e = 32
            · rw [if_pos c2] at hg ⊢; exact ih _ hg
            · rw [if_neg c2] at hg ⊢
              by_cases c3 : byteAt q e = 37
              · rw [if_pos c3] at hg ⊢; exact ih _ hg
              · rw [if_neg c3] at hg; omega
theorem gap_feed {q : ByteArray} {d : Int} (h0 : 0 ≤ d) (hd : d < q.size) (hb : byteAt q d = 10) (hg : d < gap q 0) : gap q 0 = gap q (d + 1) := by
  have := gapF_feed hd hb d.toNat 0 false (by omega) (by omega) h0 hg
  exact this

/-! ### tokens, and a line feed -/
theorem sc_bound : ∀ (l : List Tk) (r : ByteArray), Sc r l → ∀ x ∈ l, 0 < x.2.2 ∧ x.2.2 ≤ r.size
  | [], _, _, x, hx => by simp at hx
  | y :: l, r, h, x, hx => by
    have hr := (sc_rt h).1
    obtain ⟨k1, k2, k3, k4, k5⟩ := h
    rcases List.mem_cons.1 hx with rfl | hx
    · omega
    · have ih := sc_bound l _ k5 x hx
      have hp := (tx_pre r).1
      rw [k3] at hp
      have h1 := rest_size (s := r) (i := y.2.1.size) (by omega) (by omega)
      have h2 := skip_size (rest r y.2.1.size)
      omega
theorem skip_at {q : ByteArray} {d : Int} (h0 : 0 ≤ d) (hd : d < q.size) (hb : byteAt q d = 10) : (d < gap q 0 ∧ skip q = skip (rest q (d + 1))) ∨ (gap q 0 ≤ d ∧ byteAt (skip q) (d - gap q 0) = 10 ∧ rest (skip q) (d - gap q 0 + 1) = rest q (d + 1) ∧ ((skip q).size : Int) = q.size - gap q 0) := by
  have b := gap_bounds q 0 (by omega) (by omega)
  by_cases c : d < gap q 0
  · refine .inl ⟨c, ?_⟩
    rw [skip_rest (by omega) (by omega)]
    unfold skip
    rw [gap_feed h0 hd hb c]
  · refine .inr ⟨by omega, ?_, ?_, ?_⟩
    · unfold skip
      rw [rest_byte b.1 (by omega) (by omega), show gap q 0 + (d - gap q 0) = d by omega, hb]
    · unfold skip
      rw [rest_rest b.1 (by omega) (by omega)]
      congr 1; omega
    · unfold skip
      rw [rest_size b.1 b.2]
theorem sc_feed : ∀ (a : List Tk) (r : ByteArray) (d : Int), Sc r a → 0 ≤ d → d < r.size → byteAt r d = 10 → ∃ a1 a2, a = a1 ++ a2 ∧ Sc (skip (rest r (d + 1))) a2 ∧ ∀ x ∈ a1, (r.size : Int) - x.2.2 ≤ d
  | [], r, d, h, h0, h1, _ => by have : r.size = 0 := h; omega
  | x :: a, r, d, h, h0, h1, hb => by
    have hr := (sc_rt h).1
    obtain ⟨k1, k2, k3, k4, k5⟩ := h
    obtain ⟨hp, hp2⟩ := tx_pre r
    have hby := @tx_byte r
    rw [k3] at hp hp2 hby
    have hdx : (x.2.1.size : Int) ≤ d := by
      refine Classical.byContradiction fun hc => ?_
      have h2 := (hby h0 (by omega)).2.1
      rw [hp2 d h0 (by omega)] at h2
      exact h2 hb
    have hq := rest_size (s := r) (i := x.2.1.size) (by omega) (by omega)
    have hqb : byteAt (rest r x.2.1.size) (d - x.2.1.size) = 10 := by
      rw [rest_byte (by omega) (by omega) (by omega), show (x.2.1.size : Int) + (d - x.2.1.size) = d by omega, hb]
    have hqr : rest (rest r x.2.1.size) (d - x.2.1.size + 1) = rest r (d + 1) := by
      rw [rest_rest (by omega) (by omega) (by omega)]; congr 1; omega
    rcases skip_at (by omega) (by omega) hqb with ⟨c1, c2⟩ | ⟨c1, c2, c3, c4⟩
    · refine ⟨[x], a, rfl, ?_, fun y hy => ?_⟩
      · rw [c2, hqr] at k5; exact k5
      · rw [List.mem_singleton] at hy; subst hy; omega
    · have hg := gap_bounds (rest r x.2.1.size) 0 (by omega) (by omega)
      obtain ⟨a1, a2, e1, e2, e3⟩ := sc_feed a _ _ k5 (by omega) (by omega) c2
      refine ⟨x :: a1, a2, by rw [e1]; rfl, by rw [c3, hqr] at e2; exact e2, fun y hy => ?_⟩
      rcases List.mem_cons.1 hy with rfl | hy
      · omega
      · have := e3 y hy
        omega

/-! ### tokens ahead of where texts part -/
theorem rest_head {r t q : ByteArray} (h : r = t ++ q) : rest r t.size = q := by rw [h, rest_app]
theorem tx_split {r : ByteArray} : r = tx r ++ rest r (tx r).size := by
  obtain ⟨h1, h2⟩ := tx_pre r
  have h3 := rest_size (s := r) (i := (tx r).size) (by omega) (by omega)
  have h4 := app_size (tx r) (rest r (tx r).size)
  refine ba_ext2 (by omega) fun j j0 j1 => ?_
  by_cases c : j < (tx r).size
  · rw [byteAt_app_l j0 c, h2 j j0 c]
  · rw [byteAt_app_r (by omega) (by omega), rest_byte (by omega) (by omega) (by omega)]
    congr 1; omega
theorem sc_head {s t : ByteArray} {F : Int} (hs : F ≤ s.size) (ht : F ≤ t.size) (ha : ∀ j : Int, 0 ≤ j → j < F → byteAt s j = byteAt t j) :
    ∀ (a : List Tk) (i : Int) (b : List Tk), 0 ≤ i → i ≤ s.size → i ≤ t.size → Sc (rest s i) a → Sc (rest t i) b → ∀ (k : Nat) (hk : k < a.length), (s.size : Int) - a[k].2.2 + a[k].2.1.size < F → k < hdT F (a.map (tkAt s.size)) (b.map (tkAt t.size))
  | [], _, _, _, _, _, _, _, k, hk, _ => by simp at hk
  | x :: a, i, b, h0, h1, h2, hA, hB, k, hk, hend => by
    have hxr := sc_rt hA
    have hx0 := hxr.1
    obtain ⟨k1, k2, k3, k4, k5⟩ := hA
    have zs := rest_size h0 h1
    have zt := rest_size h0 h2
    obtain ⟨p1, p2⟩ := tx_pre (rest s i)
    have hspl := tx_split (r := rest s i)
    rw [k3] at p1 p2 hspl
    have zq := rest_size (s := rest s i) (i := x.2.1.size) (by omega) (by omega)
    -- the token ends ahead of F
    have hxe : i + x.2.1.size < F := by
      cases k with
      | zero =>
        simp only [List.getElem_cons_zero] at hend
        omega
      | succ k =>
        simp only [List.getElem_cons_succ] at hend
        simp only [List.length_cons] at hk
        have hb := sc_bound a _ k5 a[k] (List.getElem_mem (by omega))
        have := skip_size (rest (rest s i) x.2.1.size)
        omega
    match b, hB with
    | [], hB => have hB' : (rest t i).size = 0 := hB; omega
    | y :: b, hB =>
      have hyr := sc_rt hB
      obtain ⟨m1, m2, m3, m4, m5⟩ := hB
      -- the rests begin alike
      have hsb : ∀ j : Int, 0 ≤ j → i + j < F → byteAt (rest s i) j = byteAt (rest t i) j := fun j j0 j1 => by
        rw [rest_byte h0 j0 (by omega), rest_byte h0 j0 (by omega)]; exact ha _ (by omega) (by omega)
      have zq2 := rest_size (s := rest t i) (i := x.2.1.size) (by omega) (by omega)
      have htspl : rest t i = x.2.1 ++ rest (rest t i) x.2.1.size := by
        have h4 := app_size x.2.1 (rest (rest t i) x.2.1.size)
        refine ba_ext2 (by omega) fun j j0 j1 => ?_
        by_cases c : j < x.2.1.size
        · rw [byteAt_app_l j0 c, p2 j j0 c, hsb j j0 (by omega)]
        · rw [byteAt_app_r (by omega) (by omega), rest_byte (s := rest t i) (by omega) (by omega) (by omega)]
          congr 1; omega
      have hqb : byteAt (rest (rest s i) x.2.1.size) 0 = byteAt (rest (rest t i) x.2.1.size) 0 := by
        rw [rest_byte (s := rest s i) (by omega) (by omega) (by omega), rest_byte (s := rest t i) (by omega) (by omega) (by omega), Int.add_zero]
        exact hsb _ (by omega) (by omega)
      have htx : tx (rest t i) = x.2.1 := by
        rw [htspl]
        exact (tx_app hxr.2.1 hx0 (by omega) (by omega) hqb).1 (by rw [← hspl]; exact k3)
      have ey : y.2.1 = x.2.1 := m3.symm.trans htx
      have ek : y.1 = x.1 := by
        rw [ey, ← hsb 0 (by omega) (by omega), k4] at m4
        exact (Prod.mk.inj m4).1.symm
      have eat : tkAt t.size y = tkAt s.size x := by
        unfold tkAt
        rw [ek, ey]
        refine Prod.ext rfl (Prod.ext rfl ?_)
        show (t.size : Int) - y.2.2 = (s.size : Int) - x.2.2
        omega
      simp only [List.map_cons, hdT]
      rw [if_pos ⟨by show (s.size : Int) - x.2.2 < F; omega, eat.symm⟩]
      cases k with
      | zero => omega
      | succ k =>
        simp only [List.getElem_cons_succ] at hend
        simp only [List.length_cons] at hk
        rw [rest_rest h0 (by omega) (by omega), skip_rest (by omega) (by omega)] at k5
        rw [ey, rest_rest h0 (by omega) (by omega), skip_rest (by omega) (by omega)] at m5
        have hgb := gap_bounds s (i + x.2.1.size) (by omega) (by omega)
        have hb := sc_bound a _ k5 a[k] (List.getElem_mem (by omega))
        have zz := rest_size (s := s) (i := gap s (i + x.2.1.size)) (by omega) (by omega)
        have hg : gap t (i + x.2.1.size) = gap s (i + x.2.1.size) := gap_agree hs ht ha (by omega) (by omega) (by omega)
        rw [hg] at m5
        have := sc_head hs ht ha a _ b (by omega) (by omega) (by omega) k5 m5 k (by omega) hend
        omega

/-! ### the stage's theorem -/
theorem scan_places {s : ByteArray} (h : (scanF s).2.2 = 0) : arePlacesF (scanF s).1 = true := by
  obtain ⟨hc, l, k1, k2, k3⟩ := scan_ok h
  have hz := chk_small hc
  have hsk := skip_size s
  rw [k3]
  refine List.all_eq_true.2 fun y hy => ?_
  obtain ⟨x, hx, rfl⟩ := List.mem_map.1 hy
  have := sc_bound l _ k1 x hx
  exact (place_iff _).2 (by unfold tkAt; simp only; omega)
theorem mem_mid {α : Type} {l : List α} {a b : Nat} {x : α} (h : x ∈ (l.take b).drop a) : x ∈ l := List.mem_of_mem_take (List.mem_of_mem_drop h)
theorem kept_head {s t : ByteArray} {F : Int} (hs : F ≤ s.size) (ht : F ≤ t.size) (ha : ∀ j : Int, 0 ≤ j → j < F → byteAt s j = byteAt t j) {a b : List Tk} (a1 : Sc (skip s) a) (b1 : Sc (skip t) b) (k : Nat) (hk : k < a.length)
    (hend : (s.size : Int) - a[k].2.2 + a[k].2.1.size < F) : k < hdT F (a.map (tkAt s.size)) (b.map (tkAt t.size)) := by
  have hg := gap_bounds s 0 (by omega) (by omega)
  have hbb := sc_bound a _ a1 a[k] (List.getElem_mem hk)
  have hsz : ((skip s).size : Int) = s.size - gap s 0 := by unfold skip; exact rest_size hg.1 hg.2
  have hgt : gap t 0 = gap s 0 := gap_agree hs ht ha (by omega) (by omega) (by omega)
  have hB : Sc (rest t (gap s 0)) b := by rw [← hgt]; exact b1
  exact sc_head hs ht ha a (gap s 0) b hg.1 hg.2 (by omega) a1 hB k hk hend
theorem sc_sync (q : ByteArray) (l : List Tk) (f : Int) (hl : Sc (skip q) l) (f0 : 0 ≤ f) (f1 : f < q.size) (fb : byteAt q f = 10) : ∃ l1 l2, l = l1 ++ l2 ∧ Sc (skip (rest q (f + 1))) l2 ∧ ∀ y ∈ l1, (q.size : Int) - y.2.2 ≤ f := by
  rcases skip_at f0 f1 fb with ⟨c1, c2⟩ | ⟨c1, c2, c3, c4⟩
  · exact ⟨[], l, rfl, by rw [← c2]; exact hl, fun y hy => by cases hy⟩
  · have hg := gap_bounds q 0 (by omega) (by omega)
    obtain ⟨l1, l2, w1, w2, w3⟩ := sc_feed l _ _ hl (by omega) (by omega) c2
    exact ⟨l1, l2, w1, by rw [c3] at w2; exact w2, fun y hy => by have := w3 y hy; omega⟩
theorem left_mem {α : Type} {l l1 l2 : List α} (h : l = l1 ++ l2) (k : Nat) (hk : k < l.length) (hlt : k < l1.length) : l[k] ∈ l1 := by
  subst h
  rw [List.getElem_append_left hlt]
  exact List.getElem_mem _
theorem kept_tail {s t : ByteArray} {to by_ : Int} (hby : (t.size : Int) = s.size + by_) (h0 : 0 ≤ to) (h1 : 0 ≤ to + by_) (hsuf : ∀ j : Int, to ≤ j → j < s.size → byteAt t (j + by_) = byteAt s j) {a b : List Tk} (a1 : Sc (skip s) a) (b1 : Sc (skip t) b)
    {feed : Int} (g1 : to ≤ feed) (hlt : feed < s.size) (h10 : byteAt s feed = 10) (k : Nat) (hk : k < a.length) (hat : feed < (s.size : Int) - a[k].2.2) :
    a.length ≤ k + tlT to by_ (a.map (tkAt s.size)).reverse (b.map (tkAt t.size)).reverse := by
  have h10' : byteAt t (feed + by_) = 10 := by rw [hsuf feed g1 hlt]; exact h10
  have hrest : rest t (feed + by_ + 1) = rest s (feed + 1) := by
    have z1 := rest_size (s := t) (i := feed + by_ + 1) (by omega) (by omega)
    have z2 := rest_size (s := s) (i := feed + 1) (by omega) (by omega)
    refine ba_ext2 (by omega) fun j j0 j1 => ?_
    rw [rest_byte (s := t) (by omega) j0 (by omega), rest_byte (s := s) (by omega) j0 (by omega), ← hsuf (feed + 1 + j) (by omega) (by omega)]
    congr 1; omega
  obtain ⟨l1, l2, u1, u2, u3⟩ := sc_sync s a feed a1 (by omega) hlt h10
  obtain ⟨m1, m2, v1, v2, v3⟩ := sc_sync t b _ b1 (by omega) (by omega) h10'
  rw [hrest] at v2
  have em := sc_det _ _ _ u2 v2
  subst em
  have hzr := rest_size (s := s) (i := feed + 1) (by omega) (by omega)
  have hsk := skip_size (rest s (feed + 1))
  have hbd := sc_bound l2 _ u2
  have hmore := tlT_more (to := to) (by_ := by_) (ns := s.size) (nt := t.size) hby l2.reverse ((l1.map (tkAt s.size)).reverse) ((m1.map (tkAt t.size)).reverse) fun y hy => by
    have := hbd y (by simpa using hy)
    omega
  rw [List.length_reverse, List.map_reverse, List.map_reverse, ← List.reverse_append, ← List.reverse_append, ← List.map_append, ← List.map_append, ← u1, ← v1] at hmore
  have hkl : l1.length ≤ k := by
    refine Classical.byContradiction fun hn => ?_
    have := u3 _ (left_mem u1 k hk (by omega))
    omega
  have hal := congrArg List.length u1
  rw [List.length_append] at hal
  omega
theorem kept_patch {L M : List Lx} {x : Ed} {H T : Nat} (hL : L.length ≤ 900) (hM : M.length ≤ 900) (hx : isPlaceF x.1 = true ∧ isPlaceF x.2.1 = true ∧ x.1 ≤ x.2.1) (hp : x.2.2.size ≤ 2500) (pl1 : arePlacesF L = true) (pl2 : arePlacesF M = true)
    (sum : H + T ≤ min L.length M.length) (htk : L.take H = M.take H) (ttk : M.drop (M.length - T) = (L.drop (L.length - T)).map fun t => (t.1, t.2.1, t.2.2 + ((x.2.2.size : Int) - (x.2.1 - x.1)))) :
    patchF L x ((H : Int), (T : Int), (M.take (M.length - T)).drop H) = (M, 0) := by
  have hnl : ((M.take (M.length - T)).drop H).length = M.length - T - H := by rw [List.length_drop, List.length_take]; omega
  have hpo : patchOk L x ((H : Int), (T : Int), (M.take (M.length - T)).drop H) := by
    refine ⟨⟨hL, by simp only; omega, hp⟩, hx.1, hx.2.1, hx.2.2, by simp only; omega, by simp only; omega, by simp only; omega, by simp only; omega, pl1, ?_⟩
    exact List.all_eq_true.2 fun y hy => List.all_eq_true.1 pl2 y (mem_mid hy)
  have hpatch := patch_ok hpo (by simp only; omega)
  simp only at hpatch
  rw [hpatch]
  refine Prod.ext ?_ rfl
  show List.take ((H : Int)).toNat L ++ (M.take (M.length - T)).drop H ++ ((L.drop ((L.length : Int) - T).toNat).map fun t => (t.1, t.2.1, t.2.2 + ((x.2.2.size : Int) - (x.2.1 - x.1)))) = M
  rw [Int.toNat_natCast, htk, show ((L.length : Int) - T).toNat = L.length - T by omega, ← ttk]
  have h1 : M.take H = (M.take (M.length - T)).take H := by rw [List.take_take]; congr 1; omega
  rw [h1, List.take_append_drop, List.take_append_drop]
theorem kept {s : ByteArray} {x : Ed} (h : (rescanF s x).2.2 = 0) :
    ∃ (H T : Nat) (N : List Lx), rescanF s x = (((H : Int), (T : Int), N), 0, 0) ∧ (scanF s).2.2 = 0 ∧ applyF s x = (nowF s x, 0) ∧ (scanF (nowF s x)).2.2 = 0 ∧ (scanF s).1.length ≤ 900 ∧ 0 ≤ x.1 ∧ x.1 ≤ x.2.1 ∧ x.2.1 ≤ s.size ∧ x.2.2.size ≤ 2500 ∧ s.size ≤ 2500 ∧
      H + T ≤ (scanF s).1.length ∧ patchF (scanF s).1 x ((H : Int), (T : Int), N) = ((scanF (nowF s x)).1, 0) ∧
      ∀ feed : Int, x.2.1 ≤ feed → (feed < s.size → byteAt s feed = 10) → ∀ (k : Nat) (hk : k < (scanF s).1.length),
        ((scanF s).1[k].2.2 + (scanF s).1[k].2.1.size < x.1 → k < H) ∧ (feed < (scanF s).1[k].2.2 → (scanF s).1.length ≤ k + T) := by
  have e1 : (scanF s).2.2 = 0 := Classical.byContradiction fun hn => by rw [resc_e1 hn] at h; exact hn h
  have e2 : isEditF s x = true := by
    cases he : isEditF s x with
    | true => rfl
    | false => rw [resc_e2 e1 he] at h; simp at h
  have e3 : (scanF (nowF s x)).2.2 = 0 := Classical.byContradiction fun hn => by rw [resc_e3 e1 e2 hn] at h; exact hn h
  obtain ⟨f1, f2, f3⟩ := (isEdit_iff s x).1 e2
  have hz := now_size s x f1 f2 f3
  have hby := byteAt_now s x f1 f2 f3
  obtain ⟨hc, a, a1, a2, a3⟩ := scan_ok e1
  obtain ⟨hc', b, b1, b2, b3⟩ := scan_ok e3
  have ap := apply_ok hc e2 hc'
  have pl1 := scan_places e1
  have pl2 := scan_places e3
  have hr := resc_ok e1 e2 e3
  have hzs := chk_small hc
  have hzt := chk_small hc'
  have hx : isPlaceF x.1 = true ∧ isPlaceF x.2.1 = true ∧ x.1 ≤ x.2.1 := ⟨(place_iff _).2 (by omega), (place_iff _).2 (by omega), f2⟩
  rw [a3] at pl1
  rw [b3] at pl2
  simp only at pl1 pl2
  have la : (a.map (tkAt s.size)).length = a.length := by simp
  have lb : (b.map (tkAt (nowF s x).size)).length = b.length := by simp
  have sum := tlT_sum x.1 x.2.1 x.2.2.size f2 (a.map (tkAt s.size)) (b.map (tkAt (nowF s x).size))
  have htk := hdT_take x.1 (a.map (tkAt s.size)) (b.map (tkAt (nowF s x).size))
  have ttk := tlT_drop_eq x.2.1 ((x.2.2.size : Int) - (x.2.1 - x.1)) (a.map (tkAt s.size)) (b.map (tkAt (nowF s x).size))
  have hp : x.2.2.size ≤ 2500 := by omega
  have hkp := kept_patch (x := x) (by omega) (by omega) hx hp pl1 pl2 sum htk ttk
  have khead := kept_head (s := s) (t := nowF s x) (F := x.1) (by omega) (by omega) (fun j j0 j1 => by rw [hby j j0 (by omega), if_pos j1]) a1 b1
  have ktail := @kept_tail s (nowF s x) x.2.1 ((x.2.2.size : Int) - (x.2.1 - x.1)) (by omega) (by omega) (by omega) (fun j j0 j1 => by
    rw [hby _ (by omega) (by omega), if_neg (by omega), if_neg (by omega)]
    congr 1; omega) a b a1 b1
  have h4 : (scanF s).1 = a.map (tkAt s.size) := by rw [a3]
  have h5 : (scanF (nowF s x)).1 = b.map (tkAt (nowF s x).size) := by rw [b3]
  rw [h4, h5] at hr
  rw [hr, h4, h5]
  refine ⟨_, _, _, rfl, e1, ap, e3, by omega, f1, f2, f3, hp, hzs, by omega, hkp, fun feed g1 g3 k hk => ⟨fun hh => ?_, fun hh => ?_⟩⟩
  · have hk' : k < a.length := by omega
    rw [List.getElem_map] at hh
    exact khead k hk' hh
  · have hk' : k < a.length := by omega
    rw [List.getElem_map] at hh
    have hbb := sc_bound a _ a1 a[k] (List.getElem_mem hk')
    have hh' : feed < (s.size : Int) - a[k].2.2 := hh
    have hlt : feed < s.size := by omega
    rw [la]
    exact ktail g1 hlt (g3 hlt) k hk' hh'
end Go.Proofs.Tryd
set_option autoImplicit false
set_option linter.all false
namespace Go.Proofs.Tryd
open Go Go.VM
set_option maxRecDepth 100000
def a16 (L : Lv) (I : Ds [It] → Prop) (mu : Ds [It] → Nat) (J : Ds [It] → Prop) (nu : Ds [It] → Nat) : Nat → LAnn
  | 0 => anH L [0, 3, 5, 8, 18] [] [.s 18 It] I mu
  | 2 => anH L [3, 5, 8, 18, 19] [] [.s 19 It] J nu
  | _ => .no
def n16 (L : Lv) (F : LexF) (I : Ds [It] → Prop) (mu : Ds [It] → Nat) (J : Ds [It] → Prop) (nu : Ds [It] → Nat) (s : ByteArray) (x : Ed)  : VC :=
 VC.obl (LexF.pB F (Prod.snd (Prod.snd x)))
 (VC.br (Lv.cmp L BinOp.neq (Prod.snd (Prod.snd (LexF.rescan F s (Prod.fst x, Prod.fst (Prod.snd x), Prod.snd (Prod.snd x))))) 0)
 (VC.obl True (VC.br (LexF.awake F) (VC.ok ((true, ()) = (true, ()))) (VC.ok ((false, ()) = (true, ())))))
 (VC.obl True
 (VC.br (LexF.short F s)
 (VC.obl True
 (VC.br (LexF.short F (Prod.snd (Prod.snd x)))
 (VC.obl True
 (VC.obl (LexF.pB F (Prod.snd (Prod.snd x)))
 (VC.obl True
 (VC.br (Lv.cmp L BinOp.neq (Prod.snd (Prod.snd (LexF.scan F s))) 0) (VC.ok ((false, ()) = (true, ())))
 (VC.br (Lv.cmp L BinOp.neq (Prod.snd (LexF.apply F s (Prod.fst x, Prod.fst (Prod.snd x), Prod.snd (Prod.snd x)))) 0) (VC.ok ((false, ()) = (true, ())))
 (VC.br (Lv.cmp L BinOp.neq (Prod.snd (Prod.snd (LexF.scan F (Prod.fst (LexF.apply F s (Prod.fst x, Prod.fst (Prod.snd x), Prod.snd (Prod.snd x))))))) 0)
 (VC.ok ((false, ()) = (true, ())))
 (VC.br (Lv.cmp L BinOp.gtr (Lv.cast L (Lv.llen L Lt (Prod.fst (LexF.scan F s)))) 900)
 (VC.ok ((false, ()) = (true, ())))
 (VC.br (Lv.cmp L BinOp.lss (Prod.fst (Prod.fst (LexF.rescan F s (Prod.fst x, Prod.fst (Prod.snd x), Prod.snd (Prod.snd x))))) 0)
 (VC.ok ((false, ()) = (true, ())))
 (VC.br (Lv.cmp L BinOp.lss (Prod.fst (Prod.snd (Prod.fst (LexF.rescan F s (Prod.fst x, Prod.fst (Prod.snd x), Prod.snd (Prod.snd x)))))) 0)
 (VC.ok ((false, ()) = (true, ())))
 (VC.br
 (Lv.cmp L BinOp.gtr (Prod.fst (Prod.fst (LexF.rescan F s (Prod.fst x, Prod.fst (Prod.snd x), Prod.snd (Prod.snd x)))))
 (Lv.cast L (Lv.llen L Lt (Prod.fst (LexF.scan F s)))))
 (VC.ok ((false, ()) = (true, ())))
 (VC.br
 (Lv.cmp L BinOp.gtr (Prod.fst (Prod.snd (Prod.fst (LexF.rescan F s (Prod.fst x, Prod.fst (Prod.snd x), Prod.snd (Prod.snd x))))))
 (Lv.ar L BinOp.sub IntKind.i64 (Lv.cast L (Lv.llen L Lt (Prod.fst (LexF.scan F s))))
 (Prod.fst (Prod.fst (LexF.rescan F s (Prod.fst x, Prod.fst (Prod.snd x), Prod.snd (Prod.snd x)))))))
 (VC.ok ((false, ()) = (true, ())))
 (VC.obl
 (Lv.room L
 (Lv.add L (Lv.llen L Lt [])
 (Lv.llen L Lt (Prod.fst (LexF.scan F s))))
 32)
 (VC.obl
 (LexF.pL F
 (Lv.take L Lt
 (Lv.app L Lt [] (Prod.fst (LexF.scan F s)))
 (Lv.add L (Lv.llen L Lt [])
 (Lv.llen L Lt (Prod.fst (LexF.scan F s))))) ∧
 LexF.pS F (Prod.snd (Prod.snd x)) ∧ LexF.pL F (Prod.snd (Prod.snd (Prod.fst (LexF.rescan F s (Prod.fst x, Prod.fst (Prod.snd x), Prod.snd (Prod.snd x)))))))
 (VC.br
 (Lv.cmp L BinOp.neq
 (Prod.snd
 (LexF.patch F
 (Lv.take L Lt
 (Lv.app L Lt [] (Prod.fst (LexF.scan F s)))
 (Lv.add L (Lv.llen L Lt [])
 (Lv.llen L Lt (Prod.fst (LexF.scan F s)))))
 (Prod.fst x, Prod.fst (Prod.snd x), Prod.snd (Prod.snd x))
 (Prod.fst (Prod.fst (LexF.rescan F s (Prod.fst x, Prod.fst (Prod.snd x), Prod.snd (Prod.snd x)))),
 Prod.fst (Prod.snd (Prod.fst (LexF.rescan F s (Prod.fst x, Prod.fst (Prod.snd x), Prod.snd (Prod.snd x))))),
 Prod.snd (Prod.snd (Prod.fst (LexF.rescan F s (Prod.fst x, Prod.fst (Prod.snd x), Prod.snd (Prod.snd x))))))))
 0)
 (VC.ok ((false, ()) = (true, ())))
 (VC.obl (LexF.pL F (Prod.fst (LexF.scan F (Prod.fst (LexF.apply F s (Prod.fst x, Prod.fst (Prod.snd x), Prod.snd (Prod.snd x)))))))
 (VC.br
 (LexF.same F (Prod.fst (LexF.scan F (Prod.fst (LexF.apply F s (Prod.fst x, Prod.fst (Prod.snd x), Prod.snd (Prod.snd x))))))
 (Prod.fst
 (LexF.patch F
 (Lv.take L Lt
 (Lv.app L Lt [] (Prod.fst (LexF.scan F s)))
 (Lv.add L (Lv.llen L Lt [])
 (Lv.llen L Lt (Prod.fst (LexF.scan F s)))))
 (Prod.fst x, Prod.fst (Prod.snd x), Prod.snd (Prod.snd x))
 (Prod.fst (Prod.fst (LexF.rescan F s (Prod.fst x, Prod.fst (Prod.snd x), Prod.snd (Prod.snd x)))),
 Prod.fst (Prod.snd (Prod.fst (LexF.rescan F s (Prod.fst x, Prod.fst (Prod.snd x), Prod.snd (Prod.snd x))))),
 Prod.snd (Prod.snd (Prod.fst (LexF.rescan F s (Prod.fst x, Prod.fst (Prod.snd x), Prod.snd (Prod.snd x)))))))))
 (VC.obl
 (St.mk 177
 [(0, V.c (C.str s)), (3, V.c (C.ptr 1 0)), (5, V.c (C.ptr 2 0)),
 (8, V.c (C.sl Lt (Prod.fst (LexF.scan F s)))),
 (18, V.c (C.int IntKind.i64 (Prod.fst (Prod.snd x))))]
 [(0, Ob.amb), (1, Ob.box 35 [C.int IntKind.i64 (Prod.fst x), C.int IntKind.i64 (Prod.fst (Prod.snd x)), C.str (Prod.snd (Prod.snd x))]),
 (2,
 Ob.box 40
 [C.int IntKind.i64 (Prod.fst (Prod.fst (LexF.rescan F s (Prod.fst x, Prod.fst (Prod.snd x), Prod.snd (Prod.snd x))))),
 C.int IntKind.i64 (Prod.fst (Prod.snd (Prod.fst (LexF.rescan F s (Prod.fst x, Prod.fst (Prod.snd x), Prod.snd (Prod.snd x)))))),
 C.sl Lt
 (Prod.snd (Prod.snd (Prod.fst (LexF.rescan F s (Prod.fst x, Prod.fst (Prod.snd x), Prod.snd (Prod.snd x))))))])]
 4 =
 St.mk 177
 [(0, V.c (C.str s)), (3, V.c (C.ptr 1 0)), (5, V.c (C.ptr 2 0)),
 (8, V.c (C.sl Lt (Prod.fst (LexF.scan F s)))),
 (18, V.c (C.int IntKind.i64 (Prod.fst (Prod.snd x))))]
 [(0, Ob.amb), (1, Ob.box 35 [C.int IntKind.i64 (Prod.fst x), C.int IntKind.i64 (Prod.fst (Prod.snd x)), C.str (Prod.snd (Prod.snd x))]),
 (2,
 Ob.box 40
 [C.int IntKind.i64 (Prod.fst (Prod.fst (LexF.rescan F s (Prod.fst x, Prod.fst (Prod.snd x), Prod.snd (Prod.snd x))))),
 C.int IntKind.i64 (Prod.fst (Prod.snd (Prod.fst (LexF.rescan F s (Prod.fst x, Prod.fst (Prod.snd x), Prod.snd (Prod.snd x)))))),
 C.sl Lt
 (Prod.snd (Prod.snd (Prod.fst (LexF.rescan F s (Prod.fst x, Prod.fst (Prod.snd x), Prod.snd (Prod.snd x))))))])]
 4)
 (VC.obl (I (Prod.fst (Prod.snd x), ()))
 (VC.all (Int × Unit) fun (x_1 : Int × Unit) =>
 VC.imp (I x_1)
 (VC.br (Lv.cmp L BinOp.lss (Prod.fst x_1) (Lv.cast L (Lv.slen L s)))
 (VC.obl (Lv.inR L (Prod.fst x_1) (Lv.slen L s))
 (VC.br (Lv.cmp L BinOp.neq (Lv.byte L s (Prod.fst x_1)) 10)
 (VC.ok
 (St.mk 177
 [(0, V.c (C.str s)), (3, V.c (C.ptr 1 0)), (5, V.c (C.ptr 2 0)),
 (8, V.c (C.sl Lt (Prod.fst (LexF.scan F s)))),
 (18, V.c (C.int IntKind.i64 (Lv.ar L BinOp.add IntKind.i64 (Prod.fst x_1) 1)))]
 [(0, Ob.amb),
 (1, Ob.box 35 [C.int IntKind.i64 (Prod.fst x), C.int IntKind.i64 (Prod.fst (Prod.snd x)), C.str (Prod.snd (Prod.snd x))]),
 (2,
 Ob.box 40
 [C.int IntKind.i64 (Prod.fst (Prod.fst (LexF.rescan F s (Prod.fst x, Prod.fst (Prod.snd x), Prod.snd (Prod.snd x))))),
 C.int IntKind.i64
 (Prod.fst (Prod.snd (Prod.fst (LexF.rescan F s (Prod.fst x, Prod.fst (Prod.snd x), Prod.snd (Prod.snd x)))))),
 C.sl Lt
 (Prod.snd (Prod.snd (Prod.fst (LexF.rescan F s (Prod.fst x, Prod.fst (Prod.snd x), Prod.snd (Prod.snd x))))))])]
 4 =
 St.mk 177
 [(0, V.c (C.str s)), (3, V.c (C.ptr 1 0)), (5, V.c (C.ptr 2 0)),
 (8, V.c (C.sl Lt (Prod.fst (LexF.scan F s)))),
 (18, V.c (C.int IntKind.i64 (Lv.ar L BinOp.add IntKind.i64 (Prod.fst x_1) 1)))]
 [(0, Ob.amb),
 (1, Ob.box 35 [C.int IntKind.i64 (Prod.fst x), C.int IntKind.i64 (Prod.fst (Prod.snd x)), C.str (Prod.snd (Prod.snd x))]),
 (2,
 Ob.box 40
 [C.int IntKind.i64 (Prod.fst (Prod.fst (LexF.rescan F s (Prod.fst x, Prod.fst (Prod.snd x), Prod.snd (Prod.snd x))))),
 C.int IntKind.i64
 (Prod.fst (Prod.snd (Prod.fst (LexF.rescan F s (Prod.fst x, Prod.fst (Prod.snd x), Prod.snd (Prod.snd x)))))),
 C.sl Lt
 (Prod.snd (Prod.snd (Prod.fst (LexF.rescan F s (Prod.fst x, Prod.fst (Prod.snd x), Prod.snd (Prod.snd x))))))])]
 4 ∧
 I (Lv.ar L BinOp.add IntKind.i64 (Prod.fst x_1) 1, ()) ∧
 mu (Lv.ar L BinOp.add IntKind.i64 (Prod.fst x_1) 1, ()) < mu x_1))
 (VC.obl
 (St.mk 177
 [(3, V.c (C.ptr 1 0)), (5, V.c (C.ptr 2 0)),
 (8, V.c (C.sl Lt (Prod.fst (LexF.scan F s)))),
 (18, V.c (C.int IntKind.i64 (Prod.fst x_1))), (19, V.c (C.int IntKind.i64 0))]
 [(0, Ob.amb), (1, Ob.box 35 [C.int IntKind.i64 (Prod.fst x), C.int IntKind.i64 (Prod.fst (Prod.snd x)), C.str (Prod.snd (Prod.snd x))]),
 (2,
 Ob.box 40
 [C.int IntKind.i64 (Prod.fst (Prod.fst (LexF.rescan F s (Prod.fst x, Prod.fst (Prod.snd x), Prod.snd (Prod.snd x))))),
 C.int IntKind.i64 (Prod.fst (Prod.snd (Prod.fst (LexF.rescan F s (Prod.fst x, Prod.fst (Prod.snd x), Prod.snd (Prod.snd x)))))),
 C.sl Lt
 (Prod.snd (Prod.snd (Prod.fst (LexF.rescan F s (Prod.fst x, Prod.fst (Prod.snd x), Prod.snd (Prod.snd x))))))])]
 4 =
 St.mk 177
 [(3, V.c (C.ptr 1 0)), (5, V.c (C.ptr 2 0)),
 (8, V.c (C.sl Lt (Prod.fst (LexF.scan F s)))),
 (18, V.c (C.int IntKind.i64 (Prod.fst x_1))), (19, V.c (C.int IntKind.i64 0))]
 [(0, Ob.amb), (1, Ob.box 35 [C.int IntKind.i64 (Prod.fst x), C.int IntKind.i64 (Prod.fst (Prod.snd x)), C.str (Prod.snd (Prod.snd x))]),
 (2,
 Ob.box 40
 [C.int IntKind.i64 (Prod.fst (Prod.fst (LexF.rescan F s (Prod.fst x, Prod.fst (Prod.snd x), Prod.snd (Prod.snd x))))),
 C.int IntKind.i64 (Prod.fst (Prod.snd (Prod.fst (LexF.rescan F s (Prod.fst x, Prod.fst (Prod.snd x), Prod.snd (Prod.snd x)))))),
 C.sl Lt
 (Prod.snd (Prod.snd (Prod.fst (LexF.rescan F s (Prod.fst x, Prod.fst (Prod.snd x), Prod.snd (Prod.snd x))))))])]
 4)
 (VC.obl (J (0, ()))
 (VC.all (Int × Unit) fun (x_2 : Int × Unit) =>
 VC.imp (J x_2)
 (VC.br
 (Lv.cmp L BinOp.lss (Prod.fst x_2)
 (Lv.cast L (Lv.llen L Lt (Prod.fst (LexF.scan F s)))))
 (VC.obl
 (Lv.inR L (Prod.fst x_2)
 (Lv.llen L Lt (Prod.fst (LexF.scan F s))))
 (VC.obl
 (Lv.inR L (Prod.fst x_2)
 (Lv.llen L Lt (Prod.fst (LexF.scan F s))))
 (VC.br
 (Lv.cmp L BinOp.lss
 (Lv.ar L BinOp.add IntKind.i64
 (Prod.snd
 (Prod.snd
 (Lv.get L Lt (Prod.fst (LexF.scan F s))
 (Lv.toN L (Prod.fst x_2)))))
 (Lv.cast L
 (Lv.slen L
 (Prod.fst
 (Prod.snd
 (Lv.get L Lt (Prod.fst (LexF.scan F s))
 (Lv.toN L (Prod.fst x_2))))))))
 (Prod.fst x))
 (VC.br
 (Lv.cmp L BinOp.geq (Prod.fst x_2)
 (Prod.fst (Prod.fst (LexF.rescan F s (Prod.fst x, Prod.fst (Prod.snd x), Prod.snd (Prod.snd x))))))
 (VC.ok ((false, ()) = (true, ())))
 (VC.obl
 (Lv.inR L (Prod.fst x_2)
 (Lv.llen L Lt (Prod.fst (LexF.scan F s))))
 (VC.br
 (Lv.cmp L BinOp.gtr
 (Prod.snd
 (Prod.snd
 (Lv.get L Lt (Prod.fst (LexF.scan F s))
 (Lv.toN L (Prod.fst x_2)))))
 (Prod.fst x_1))
 (VC.br
 (Lv.cmp L BinOp.lss (Prod.fst x_2)
 (Lv.ar L BinOp.sub IntKind.i64
 (Lv.cast L
 (Lv.llen L Lt (Prod.fst (LexF.scan F s))))
 (Prod.fst (Prod.snd (Prod.fst (LexF.rescan F s (Prod.fst x, Prod.fst (Prod.snd x), Prod.snd (Prod.snd x))))))))
 (VC.ok ((false, ()) = (true, ())))
 (VC.ok
 (St.mk 177
 [(3, V.c (C.ptr 1 0)), (5, V.c (C.ptr 2 0)),
 (8,
 V.c
 (C.sl Lt (Prod.fst (LexF.scan F s)))),
 (18, V.c (C.int IntKind.i64 (Prod.fst x_1))),
 (19, V.c (C.int IntKind.i64 (Lv.ar L BinOp.add IntKind.i64 (Prod.fst x_2) 1)))]
 [(0, Ob.amb),
 (1,
 Ob.box 35
 [C.int IntKind.i64 (Prod.fst x), C.int IntKind.i64 (Prod.fst (Prod.snd x)),
 C.str (Prod.snd (Prod.snd x))]),
 (2,
 Ob.box 40
 [C.int IntKind.i64
 (Prod.fst (Prod.fst (LexF.rescan F s (Prod.fst x, Prod.fst (Prod.snd x), Prod.snd (Prod.snd x))))),
 C.int IntKind.i64
 (Prod.fst
 (Prod.snd
 (Prod.fst (LexF.rescan F s (Prod.fst x, Prod.fst (Prod.snd x), Prod.snd (Prod.snd x)))))),
 C.sl Lt
 (Prod.snd
 (Prod.snd
 (Prod.fst (LexF.rescan F s (Prod.fst x, Prod.fst (Prod.snd x), Prod.snd (Prod.snd x))))))])]
 4 =
 St.mk 177
 [(3, V.c (C.ptr 1 0)), (5, V.c (C.ptr 2 0)),
 (8,
 V.c
 (C.sl Lt (Prod.fst (LexF.scan F s)))),
 (18, V.c (C.int IntKind.i64 (Prod.fst x_1))),
 (19, V.c (C.int IntKind.i64 (Lv.ar L BinOp.add IntKind.i64 (Prod.fst x_2) 1)))]
 [(0, Ob.amb),
 (1,
 Ob.box 35
 [C.int IntKind.i64 (Prod.fst x), C.int IntKind.i64 (Prod.fst (Prod.snd x)),
 C.str (Prod.snd (Prod.snd x))]),
 (2,
 Ob.box 40
 [C.int IntKind.i64
 (Prod.fst (Prod.fst (LexF.rescan F s (Prod.fst x, Prod.fst (Prod.snd x), Prod.snd (Prod.snd x))))),
 C.int IntKind.i64
 (Prod.fst
 (Prod.snd
 (Prod.fst (LexF.rescan F s (Prod.fst x, Prod.fst (Prod.snd x), Prod.snd (Prod.snd x)))))),
 C.sl Lt
 (Prod.snd
 (Prod.snd
 (Prod.fst (LexF.rescan F s (Prod.fst x, Prod.fst (Prod.snd x), Prod.snd (Prod.snd x))))))])]
 4 ∧
 J (Lv.ar L BinOp.add IntKind.i64 (Prod.fst x_2) 1, ()) ∧
 nu (Lv.ar L BinOp.add IntKind.i64 (Prod.fst x_2) 1, ()) < nu x_2)))
 (VC.ok
 (St.mk 177
 [(3, V.c (C.ptr 1 0)), (5, V.c (C.ptr 2 0)),
 (8,
 V.c (C.sl Lt (Prod.fst (LexF.scan F s)))),
 (18, V.c (C.int IntKind.i64 (Prod.fst x_1))),
 (19, V.c (C.int IntKind.i64 (Lv.ar L BinOp.add IntKind.i64 (Prod.fst x_2) 1)))]
 [(0, Ob.amb),
 (1,
 Ob.box 35
 [C.int IntKind.i64 (Prod.fst x), C.int IntKind.i64 (Prod.fst (Prod.snd x)),
 C.str (Prod.snd (Prod.snd x))]),
 (2,
 Ob.box 40
 [C.int IntKind.i64
 (Prod.fst (Prod.fst (LexF.rescan F s (Prod.fst x, Prod.fst (Prod.snd x), Prod.snd (Prod.snd x))))),
 C.int IntKind.i64
 (Prod.fst
 (Prod.snd (Prod.fst (LexF.rescan F s (Prod.fst x, Prod.fst (Prod.snd x), Prod.snd (Prod.snd x)))))),
 C.sl Lt
 (Prod.snd
 (Prod.snd
 (Prod.fst (LexF.rescan F s (Prod.fst x, Prod.fst (Prod.snd x), Prod.snd (Prod.snd x))))))])]
 4 =
 St.mk 177
 [(3, V.c (C.ptr 1 0)), (5, V.c (C.ptr 2 0)),
 (8,
 V.c (C.sl Lt (Prod.fst (LexF.scan F s)))),
 (18, V.c (C.int IntKind.i64 (Prod.fst x_1))),
 (19, V.c (C.int IntKind.i64 (Lv.ar L BinOp.add IntKind.i64 (Prod.fst x_2) 1)))]
 [(0, Ob.amb),
 (1,
 Ob.box 35
 [C.int IntKind.i64 (Prod.fst x), C.int IntKind.i64 (Prod.fst (Prod.snd x)),
 C.str (Prod.snd (Prod.snd x))]),
 (2,
 Ob.box 40
 [C.int IntKind.i64
 (Prod.fst (Prod.fst (LexF.rescan F s (Prod.fst x, Prod.fst (Prod.snd x), Prod.snd (Prod.snd x))))),
 C.int IntKind.i64
 (Prod.fst
 (Prod.snd (Prod.fst (LexF.rescan F s (Prod.fst x, Prod.fst (Prod.snd x), Prod.snd (Prod.snd x)))))),
 C.sl Lt
 (Prod.snd
 (Prod.snd
 (Prod.fst (LexF.rescan F s (Prod.fst x, Prod.fst (Prod.snd x), Prod.snd (Prod.snd x))))))])]
 4 ∧
 J (Lv.ar L BinOp.add IntKind.i64 (Prod.fst x_2) 1, ()) ∧
 nu (Lv.ar L BinOp.add IntKind.i64 (Prod.fst x_2) 1, ()) < nu x_2)))))
 (VC.obl
 (Lv.inR L (Prod.fst x_2)
 (Lv.llen L Lt (Prod.fst (LexF.scan F s))))
 (VC.br
 (Lv.cmp L BinOp.gtr
 (Prod.snd
 (Prod.snd
 (Lv.get L Lt (Prod.fst (LexF.scan F s))
 (Lv.toN L (Prod.fst x_2)))))
 (Prod.fst x_1))
 (VC.br
 (Lv.cmp L BinOp.lss (Prod.fst x_2)
 (Lv.ar L BinOp.sub IntKind.i64
 (Lv.cast L
 (Lv.llen L Lt (Prod.fst (LexF.scan F s))))
 (Prod.fst (Prod.snd (Prod.fst (LexF.rescan F s (Prod.fst x, Prod.fst (Prod.snd x), Prod.snd (Prod.snd x))))))))
 (VC.ok ((false, ()) = (true, ())))
 (VC.ok
 (St.mk 177
 [(3, V.c (C.ptr 1 0)), (5, V.c (C.ptr 2 0)),
 (8,
 V.c (C.sl Lt (Prod.fst (LexF.scan F s)))),
 (18, V.c (C.int IntKind.i64 (Prod.fst x_1))),
 (19, V.c (C.int IntKind.i64 (Lv.ar L BinOp.add IntKind.i64 (Prod.fst x_2) 1)))]
 [(0, Ob.amb),
 (1,
 Ob.box 35
 [C.int IntKind.i64 (Prod.fst x), C.int IntKind.i64 (Prod.fst (Prod.snd x)),
 C.str (Prod.snd (Prod.snd x))]),
 (2,
 Ob.box 40
 [C.int IntKind.i64
 (Prod.fst (Prod.fst (LexF.rescan F s (Prod.fst x, Prod.fst (Prod.snd x), Prod.snd (Prod.snd x))))),
 C.int IntKind.i64
 (Prod.fst
 (Prod.snd (Prod.fst (LexF.rescan F s (Prod.fst x, Prod.fst (Prod.snd x), Prod.snd (Prod.snd x)))))),
 C.sl Lt
 (Prod.snd
 (Prod.snd
 (Prod.fst (LexF.rescan F s (Prod.fst x, Prod.fst (Prod.snd x), Prod.snd (Prod.snd x))))))])]
 4 =
 St.mk 177
 [(3, V.c (C.ptr 1 0)), (5, V.c (C.ptr 2 0)),
 (8,
 V.c (C.sl Lt (Prod.fst (LexF.scan F s)))),
 (18, V.c (C.int IntKind.i64 (Prod.fst x_1))),
 (19, V.c (C.int IntKind.i64 (Lv.ar L BinOp.add IntKind.i64 (Prod.fst x_2) 1)))]
 [(0, Ob.amb),
 (1,
 Ob.box 35
 [C.int IntKind.i64 (Prod.fst x), C.int IntKind.i64 (Prod.fst (Prod.snd x)),
 C.str (Prod.snd (Prod.snd x))]),
 (2,
 Ob.box 40
 [C.int IntKind.i64
 (Prod.fst (Prod.fst (LexF.rescan F s (Prod.fst x, Prod.fst (Prod.snd x), Prod.snd (Prod.snd x))))),
 C.int IntKind.i64
 (Prod.fst
 (Prod.snd (Prod.fst (LexF.rescan F s (Prod.fst x, Prod.fst (Prod.snd x), Prod.snd (Prod.snd x)))))),
 C.sl Lt
 (Prod.snd
 (Prod.snd
 (Prod.fst (LexF.rescan F s (Prod.fst x, Prod.fst (Prod.snd x), Prod.snd (Prod.snd x))))))])]
 4 ∧
 J (Lv.ar L BinOp.add IntKind.i64 (Prod.fst x_2) 1, ()) ∧
 nu (Lv.ar L BinOp.add IntKind.i64 (Prod.fst x_2) 1, ()) < nu x_2)))
 (VC.ok
 (St.mk 177
 [(3, V.c (C.ptr 1 0)), (5, V.c (C.ptr 2 0)),
 (8, V.c (C.sl Lt (Prod.fst (LexF.scan F s)))),
 (18, V.c (C.int IntKind.i64 (Prod.fst x_1))),
 (19, V.c (C.int IntKind.i64 (Lv.ar L BinOp.add IntKind.i64 (Prod.fst x_2) 1)))]
 [(0, Ob.amb),
 (1,
 Ob.box 35
 [C.int IntKind.i64 (Prod.fst x), C.int IntKind.i64 (Prod.fst (Prod.snd x)), C.str (Prod.snd (Prod.snd x))]),
 (2,
 Ob.box 40
 [C.int IntKind.i64
 (Prod.fst (Prod.fst (LexF.rescan F s (Prod.fst x, Prod.fst (Prod.snd x), Prod.snd (Prod.snd x))))),
 C.int IntKind.i64
 (Prod.fst
 (Prod.snd (Prod.fst (LexF.rescan F s (Prod.fst x, Prod.fst (Prod.snd x), Prod.snd (Prod.snd x)))))),
 C.sl Lt
 (Prod.snd
 (Prod.snd (Prod.fst (LexF.rescan F s (Prod.fst x, Prod.fst (Prod.snd x), Prod.snd (Prod.snd x))))))])]
 4 =
 St.mk 177
 [(3, V.c (C.ptr 1 0)), (5, V.c (C.ptr 2 0)),
 (8, V.c (C.sl Lt (Prod.fst (LexF.scan F s)))),
 (18, V.c (C.int IntKind.i64 (Prod.fst x_1))),
 (19, V.c (C.int IntKind.i64 (Lv.ar L BinOp.add IntKind.i64 (Prod.fst x_2) 1)))]
 [(0, Ob.amb),
 (1,
 Ob.box 35
 [C.int IntKind.i64 (Prod.fst x), C.int IntKind.i64 (Prod.fst (Prod.snd x)), C.str (Prod.snd (Prod.snd x))]),
 (2,
 Ob.box 40
 [C.int IntKind.i64
 (Prod.fst (Prod.fst (LexF.rescan F s (Prod.fst x, Prod.fst (Prod.snd x), Prod.snd (Prod.snd x))))),
 C.int IntKind.i64
 (Prod.fst
 (Prod.snd (Prod.fst (LexF.rescan F s (Prod.fst x, Prod.fst (Prod.snd x), Prod.snd (Prod.snd x)))))),
 C.sl Lt
 (Prod.snd
 (Prod.snd (Prod.fst (LexF.rescan F s (Prod.fst x, Prod.fst (Prod.snd x), Prod.snd (Prod.snd x))))))])]
 4 ∧
 J (Lv.ar L BinOp.add IntKind.i64 (Prod.fst x_2) 1, ()) ∧
 nu (Lv.ar L BinOp.add IntKind.i64 (Prod.fst x_2) 1, ()) < nu x_2)))))))
 (VC.obl True
 (VC.br (LexF.awake F) (VC.ok ((true, ()) = (true, ()))) (VC.ok ((false, ()) = (true, ())))))))))))
 (VC.obl
 (St.mk 177
 [(3, V.c (C.ptr 1 0)), (5, V.c (C.ptr 2 0)),
 (8, V.c (C.sl Lt (Prod.fst (LexF.scan F s)))),
 (18, V.c (C.int IntKind.i64 (Prod.fst x_1))), (19, V.c (C.int IntKind.i64 0))]
 [(0, Ob.amb), (1, Ob.box 35 [C.int IntKind.i64 (Prod.fst x), C.int IntKind.i64 (Prod.fst (Prod.snd x)), C.str (Prod.snd (Prod.snd x))]),
 (2,
 Ob.box 40
 [C.int IntKind.i64 (Prod.fst (Prod.fst (LexF.rescan F s (Prod.fst x, Prod.fst (Prod.snd x), Prod.snd (Prod.snd x))))),
 C.int IntKind.i64 (Prod.fst (Prod.snd (Prod.fst (LexF.rescan F s (Prod.fst x, Prod.fst (Prod.snd x), Prod.snd (Prod.snd x)))))),
 C.sl Lt
 (Prod.snd (Prod.snd (Prod.fst (LexF.rescan F s (Prod.fst x, Prod.fst (Prod.snd x), Prod.snd (Prod.snd x))))))])]
 4 =
 St.mk 177
 [(3, V.c (C.ptr 1 0)), (5, V.c (C.ptr 2 0)),
 (8, V.c (C.sl Lt (Prod.fst (LexF.scan F s)))),
 (18, V.c (C.int IntKind.i64 (Prod.fst x_1))), (19, V.c (C.int IntKind.i64 0))]
 [(0, Ob.amb), (1, Ob.box 35 [C.int IntKind.i64 (Prod.fst x), C.int IntKind.i64 (Prod.fst (Prod.snd x)), C.str (Prod.snd (Prod.snd x))]),
 (2,
 Ob.box 40
 [C.int IntKind.i64 (Prod.fst (Prod.fst (LexF.rescan F s (Prod.fst x, Prod.fst (Prod.snd x), Prod.snd (Prod.snd x))))),
 C.int IntKind.i64 (Prod.fst (Prod.snd (Prod.fst (LexF.rescan F s (Prod.fst x, Prod.fst (Prod.snd x), Prod.snd (Prod.snd x)))))),
 C.sl Lt
 (Prod.snd (Prod.snd (Prod.fst (LexF.rescan F s (Prod.fst x, Prod.fst (Prod.snd x), Prod.snd (Prod.snd x))))))])]
 4)
 (VC.obl (J (0, ()))
 (VC.all (Int × Unit) fun (x_2 : Int × Unit) =>
 VC.imp (J x_2)
 (VC.br
 (Lv.cmp L BinOp.lss (Prod.fst x_2)
 (Lv.cast L (Lv.llen L Lt (Prod.fst (LexF.scan F s)))))
 (VC.obl
 (Lv.inR L (Prod.fst x_2) (Lv.llen L Lt (Prod.fst (LexF.scan F s))))
 (VC.obl
 (Lv.inR L (Prod.fst x_2) (Lv.llen L Lt (Prod.fst (LexF.scan F s))))
 (VC.br
 (Lv.cmp L BinOp.lss
 (Lv.ar L BinOp.add IntKind.i64
 (Prod.snd
 (Prod.snd
 (Lv.get L Lt (Prod.fst (LexF.scan F s))
 (Lv.toN L (Prod.fst x_2)))))
 (Lv.cast L
 (Lv.slen L
 (Prod.fst
 (Prod.snd
 (Lv.get L Lt (Prod.fst (LexF.scan F s))
 (Lv.toN L (Prod.fst x_2))))))))
 (Prod.fst x))
 (VC.br
 (Lv.cmp L BinOp.geq (Prod.fst x_2)
 (Prod.fst (Prod.fst (LexF.rescan F s (Prod.fst x, Prod.fst (Prod.snd x), Prod.snd (Prod.snd x))))))
 (VC.ok ((false, ()) = (true, ())))
 (VC.obl
 (Lv.inR L (Prod.fst x_2)
 (Lv.llen L Lt (Prod.fst (LexF.scan F s))))
 (VC.br
 (Lv.cmp L BinOp.gtr
 (Prod.snd
 (Prod.snd
 (Lv.get L Lt (Prod.fst (LexF.scan F s))
 (Lv.toN L (Prod.fst x_2)))))
 (Prod.fst x_1))
 (VC.br
 (Lv.cmp L BinOp.lss (Prod.fst x_2)
 (Lv.ar L BinOp.sub IntKind.i64
 (Lv.cast L (Lv.llen L Lt (Prod.fst (LexF.scan F s))))
 (Prod.fst (Prod.snd (Prod.fst (LexF.rescan F s (Prod.fst x, Prod.fst (Prod.snd x), Prod.snd (Prod.snd x))))))))
 (VC.ok ((false, ()) = (true, ())))
 (VC.ok
 (St.mk 177
 [(3, V.c (C.ptr 1 0)), (5, V.c (C.ptr 2 0)),
 (8, V.c (C.sl Lt (Prod.fst (LexF.scan F s)))),
 (18, V.c (C.int IntKind.i64 (Prod.fst x_1))),
 (19, V.c (C.int IntKind.i64 (Lv.ar L BinOp.add IntKind.i64 (Prod.fst x_2) 1)))]
 [(0, Ob.amb),
 (1,
 Ob.box 35
 [C.int IntKind.i64 (Prod.fst x), C.int IntKind.i64 (Prod.fst (Prod.snd x)), C.str (Prod.snd (Prod.snd x))]),
 (2,
 Ob.box 40
 [C.int IntKind.i64
 (Prod.fst (Prod.fst (LexF.rescan F s (Prod.fst x, Prod.fst (Prod.snd x), Prod.snd (Prod.snd x))))),
 C.int IntKind.i64
 (Prod.fst
 (Prod.snd (Prod.fst (LexF.rescan F s (Prod.fst x, Prod.fst (Prod.snd x), Prod.snd (Prod.snd x)))))),
 C.sl Lt
 (Prod.snd
 (Prod.snd (Prod.fst (LexF.rescan F s (Prod.fst x, Prod.fst (Prod.snd x), Prod.snd (Prod.snd x))))))])]
 4 =
 St.mk 177
 [(3, V.c (C.ptr 1 0)), (5, V.c (C.ptr 2 0)),
 (8, V.c (C.sl Lt (Prod.fst (LexF.scan F s)))),
 (18, V.c (C.int IntKind.i64 (Prod.fst x_1))),
 (19, V.c (C.int IntKind.i64 (Lv.ar L BinOp.add IntKind.i64 (Prod.fst x_2) 1)))]
 [(0, Ob.amb),
 (1,
 Ob.box 35
 [C.int IntKind.i64 (Prod.fst x), C.int IntKind.i64 (Prod.fst (Prod.snd x)), C.str (Prod.snd (Prod.snd x))]),
 (2,
 Ob.box 40
 [C.int IntKind.i64
 (Prod.fst (Prod.fst (LexF.rescan F s (Prod.fst x, Prod.fst (Prod.snd x), Prod.snd (Prod.snd x))))),
 C.int IntKind.i64
 (Prod.fst
 (Prod.snd (Prod.fst (LexF.rescan F s (Prod.fst x, Prod.fst (Prod.snd x), Prod.snd (Prod.snd x)))))),
 C.sl Lt
 (Prod.snd
 (Prod.snd (Prod.fst (LexF.rescan F s (Prod.fst x, Prod.fst (Prod.snd x), Prod.snd (Prod.snd x))))))])]
 4 ∧
 J (Lv.ar L BinOp.add IntKind.i64 (Prod.fst x_2) 1, ()) ∧
 nu (Lv.ar L BinOp.add IntKind.i64 (Prod.fst x_2) 1, ()) < nu x_2)))
 (VC.ok
 (St.mk 177
 [(3, V.c (C.ptr 1 0)), (5, V.c (C.ptr 2 0)),
 (8, V.c (C.sl Lt (Prod.fst (LexF.scan F s)))),
 (18, V.c (C.int IntKind.i64 (Prod.fst x_1))),
 (19, V.c (C.int IntKind.i64 (Lv.ar L BinOp.add IntKind.i64 (Prod.fst x_2) 1)))]
 [(0, Ob.amb),
 (1,
 Ob.box 35
 [C.int IntKind.i64 (Prod.fst x), C.int IntKind.i64 (Prod.fst (Prod.snd x)), C.str (Prod.snd (Prod.snd x))]),
 (2,
 Ob.box 40
 [C.int IntKind.i64
 (Prod.fst (Prod.fst (LexF.rescan F s (Prod.fst x, Prod.fst (Prod.snd x), Prod.snd (Prod.snd x))))),
 C.int IntKind.i64
 (Prod.fst
 (Prod.snd (Prod.fst (LexF.rescan F s (Prod.fst x, Prod.fst (Prod.snd x), Prod.snd (Prod.snd x)))))),
 C.sl Lt
 (Prod.snd
 (Prod.snd (Prod.fst (LexF.rescan F s (Prod.fst x, Prod.fst (Prod.snd x), Prod.snd (Prod.snd x))))))])]
 4 =
 St.mk 177
 [(3, V.c (C.ptr 1 0)), (5, V.c (C.ptr 2 0)),
 (8, V.c (C.sl Lt (Prod.fst (LexF.scan F s)))),
 (18, V.c (C.int IntKind.i64 (Prod.fst x_1))),
 (19, V.c (C.int IntKind.i64 (Lv.ar L BinOp.add IntKind.i64 (Prod.fst x_2) 1)))]
 [(0, Ob.amb),
 (1,
 Ob.box 35
 [C.int IntKind.i64 (Prod.fst x), C.int IntKind.i64 (Prod.fst (Prod.snd x)), C.str (Prod.snd (Prod.snd x))]),
 (2,
 Ob.box 40
 [C.int IntKind.i64
 (Prod.fst (Prod.fst (LexF.rescan F s (Prod.fst x, Prod.fst (Prod.snd x), Prod.snd (Prod.snd x))))),
 C.int IntKind.i64
 (Prod.fst
 (Prod.snd (Prod.fst (LexF.rescan F s (Prod.fst x, Prod.fst (Prod.snd x), Prod.snd (Prod.snd x)))))),
 C.sl Lt
 (Prod.snd
 (Prod.snd (Prod.fst (LexF.rescan F s (Prod.fst x, Prod.fst (Prod.snd x), Prod.snd (Prod.snd x))))))])]
 4 ∧
 J (Lv.ar L BinOp.add IntKind.i64 (Prod.fst x_2) 1, ()) ∧
 nu (Lv.ar L BinOp.add IntKind.i64 (Prod.fst x_2) 1, ()) < nu x_2)))))
 (VC.obl
 (Lv.inR L (Prod.fst x_2)
 (Lv.llen L Lt (Prod.fst (LexF.scan F s))))
 (VC.br
 (Lv.cmp L BinOp.gtr
 (Prod.snd
 (Prod.snd
 (Lv.get L Lt (Prod.fst (LexF.scan F s))
 (Lv.toN L (Prod.fst x_2)))))
 (Prod.fst x_1))
 (VC.br
 (Lv.cmp L BinOp.lss (Prod.fst x_2)
 (Lv.ar L BinOp.sub IntKind.i64
 (Lv.cast L (Lv.llen L Lt (Prod.fst (LexF.scan F s))))
 (Prod.fst (Prod.snd (Prod.fst (LexF.rescan F s (Prod.fst x, Prod.fst (Prod.snd x), Prod.snd (Prod.snd x))))))))
 (VC.ok ((false, ()) = (true, ())))
 (VC.ok
 (St.mk 177
 [(3, V.c (C.ptr 1 0)), (5, V.c (C.ptr 2 0)),
 (8, V.c (C.sl Lt (Prod.fst (LexF.scan F s)))),
 (18, V.c (C.int IntKind.i64 (Prod.fst x_1))),
 (19, V.c (C.int IntKind.i64 (Lv.ar L BinOp.add IntKind.i64 (Prod.fst x_2) 1)))]
 [(0, Ob.amb),
 (1,
 Ob.box 35
 [C.int IntKind.i64 (Prod.fst x), C.int IntKind.i64 (Prod.fst (Prod.snd x)), C.str (Prod.snd (Prod.snd x))]),
 (2,
 Ob.box 40
 [C.int IntKind.i64
 (Prod.fst (Prod.fst (LexF.rescan F s (Prod.fst x, Prod.fst (Prod.snd x), Prod.snd (Prod.snd x))))),
 C.int IntKind.i64
 (Prod.fst
 (Prod.snd (Prod.fst (LexF.rescan F s (Prod.fst x, Prod.fst (Prod.snd x), Prod.snd (Prod.snd x)))))),
 C.sl Lt
 (Prod.snd
 (Prod.snd (Prod.fst (LexF.rescan F s (Prod.fst x, Prod.fst (Prod.snd x), Prod.snd (Prod.snd x))))))])]
 4 =
 St.mk 177
 [(3, V.c (C.ptr 1 0)), (5, V.c (C.ptr 2 0)),
 (8, V.c (C.sl Lt (Prod.fst (LexF.scan F s)))),
 (18, V.c (C.int IntKind.i64 (Prod.fst x_1))),
 (19, V.c (C.int IntKind.i64 (Lv.ar L BinOp.add IntKind.i64 (Prod.fst x_2) 1)))]
 [(0, Ob.amb),
 (1,
 Ob.box 35
 [C.int IntKind.i64 (Prod.fst x), C.int IntKind.i64 (Prod.fst (Prod.snd x)), C.str (Prod.snd (Prod.snd x))]),
 (2,
 Ob.box 40
 [C.int IntKind.i64
 (Prod.fst (Prod.fst (LexF.rescan F s (Prod.fst x, Prod.fst (Prod.snd x), Prod.snd (Prod.snd x))))),
 C.int IntKind.i64
 (Prod.fst
 (Prod.snd (Prod.fst (LexF.rescan F s (Prod.fst x, Prod.fst (Prod.snd x), Prod.snd (Prod.snd x)))))),
 C.sl Lt
 (Prod.snd
 (Prod.snd (Prod.fst (LexF.rescan F s (Prod.fst x, Prod.fst (Prod.snd x), Prod.snd (Prod.snd x))))))])]
 4 ∧
 J (Lv.ar L BinOp.add IntKind.i64 (Prod.fst x_2) 1, ()) ∧
 nu (Lv.ar L BinOp.add IntKind.i64 (Prod.fst x_2) 1, ()) < nu x_2)))
 (VC.ok
 (St.mk 177
 [(3, V.c (C.ptr 1 0)), (5, V.c (C.ptr 2 0)),
 (8, V.c (C.sl Lt (Prod.fst (LexF.scan F s)))),
 (18, V.c (C.int IntKind.i64 (Prod.fst x_1))),
 (19, V.c (C.int IntKind.i64 (Lv.ar L BinOp.add IntKind.i64 (Prod.fst x_2) 1)))]
 [(0, Ob.amb),
 (1,
 Ob.box 35
 [C.int IntKind.i64 (Prod.fst x), C.int IntKind.i64 (Prod.fst (Prod.snd x)), C.str (Prod.snd (Prod.snd x))]),
 (2,
 Ob.box 40
 [C.int IntKind.i64
 (Prod.fst (Prod.fst (LexF.rescan F s (Prod.fst x, Prod.fst (Prod.snd x), Prod.snd (Prod.snd x))))),
 C.int IntKind.i64
 (Prod.fst
 (Prod.snd (Prod.fst (LexF.rescan F s (Prod.fst x, Prod.fst (Prod.snd x), Prod.snd (Prod.snd x)))))),
 C.sl Lt
 (Prod.snd
 (Prod.snd (Prod.fst (LexF.rescan F s (Prod.fst x, Prod.fst (Prod.snd x), Prod.snd (Prod.snd x))))))])]
 4 =
 St.mk 177
 [(3, V.c (C.ptr 1 0)), (5, V.c (C.ptr 2 0)),
 (8, V.c (C.sl Lt (Prod.fst (LexF.scan F s)))),
 (18, V.c (C.int IntKind.i64 (Prod.fst x_1))),
 (19, V.c (C.int IntKind.i64 (Lv.ar L BinOp.add IntKind.i64 (Prod.fst x_2) 1)))]
 [(0, Ob.amb),
 (1,
 Ob.box 35
 [C.int IntKind.i64 (Prod.fst x), C.int IntKind.i64 (Prod.fst (Prod.snd x)), C.str (Prod.snd (Prod.snd x))]),
 (2,
 Ob.box 40
 [C.int IntKind.i64
 (Prod.fst (Prod.fst (LexF.rescan F s (Prod.fst x, Prod.fst (Prod.snd x), Prod.snd (Prod.snd x))))),
 C.int IntKind.i64
 (Prod.fst
 (Prod.snd (Prod.fst (LexF.rescan F s (Prod.fst x, Prod.fst (Prod.snd x), Prod.snd (Prod.snd x)))))),
 C.sl Lt
 (Prod.snd
 (Prod.snd (Prod.fst (LexF.rescan F s (Prod.fst x, Prod.fst (Prod.snd x), Prod.snd (Prod.snd x))))))])]
 4 ∧
 J (Lv.ar L BinOp.add IntKind.i64 (Prod.fst x_2) 1, ()) ∧
 nu (Lv.ar L BinOp.add IntKind.i64 (Prod.fst x_2) 1, ()) < nu x_2)))))))
 (VC.obl True
 (VC.br (LexF.awake F) (VC.ok ((true, ()) = (true, ()))) (VC.ok ((false, ()) = (true, ())))))))))))))
 (VC.ok ((false, ()) = (true, ())))))))))))))))))))
 (VC.obl True (VC.br (LexF.awake F) (VC.ok ((true, ()) = (true, ()))) (VC.ok ((false, ()) = (true, ())))))))
 (VC.obl True (VC.br (LexF.awake F) (VC.ok ((true, ()) = (true, ()))) (VC.ok ((false, ()) = (true, ()))))))))
theorem n16_eq (L : Lv) (F : LexF) (I : Ds [It] → Prop) (mu : Ds [It] → Nat) (J : Ds [It] → Prop) (nu : Ds [It] → Nat) (s : ByteArray) (x : Ed) : vcO L F [21, 22, 23, 25, 33, 39, 40] (D16 (a16 L I mu J nu)) (lawEp F) (s, x, ()) = n16 L F I mu J nu s x := by kernel_rfl
theorem n16_go (L : Lv) (F : LexF) (I : Ds [It] → Prop) (mu : Ds [It] → Nat) (J : Ds [It] → Prop) (nu : Ds [It] → Nat) (s : ByteArray) (x : Ed) (h : VC.holds (n16 L F I mu J nu s x)) : Holds (vcO L F [21, 22, 23, 25, 33, 39, 40] (D16 (a16 L I mu J nu)) (lawEp F) (s, x, ())) := Holds.of_eq (n16_eq L F I mu J nu s x) h

theorem ok16 (F : LexF) (hs : F.pS = fun s => s.size ≤ 1000000) (hB : F.pB = fun s => s.size ≤ 281474976710656) (hpl : F.pL = pLF) (h : F.awake = true) (h0 : F.short = shortF) (h1 : F.scan = scanF) (h2 : F.same = sameF) (h3 : F.rescan = rescanF) (h4 : F.apply = applyF) (h5 : F.patch = patchF)
    (k1 : SpecOk prog 21 (S21 F)) (k2 : SpecOk prog 22 (S22 F)) (k3 : SpecOk prog 23 (S23 F)) (k4 : SpecOk prog 25 (S25 F)) (k5 : SpecOk prog 33 (S33 F)) (k6 : SpecOk prog 39 (S39 F)) (k7 : SpecOk prog 40 (S40 F)) : SpecOk prog 16 (lawEp F) := by
  refine contract_by hm hE D16 fnok16 _ fun (z : ByteArray × Ed × Unit) hpre => ?_
  obtain ⟨s, ⟨a, b, t⟩, ⟨⟩⟩ := z
  have hpre0 : F.pB t := hpre
  rw [hB] at hpre0
  have hpre' : t.size ≤ 281474976710656 := hpre0
  let I : Int × Unit → Prop := fun z => b ≤ z.1 ∧ z.1 ≤ s.size
  let mu : Int × Unit → Nat := fun z => ((s.size : Int) - z.1).toNat
  let J : Int × Unit → Prop := fun z => 0 ≤ z.1 ∧ z.1 ≤ (scanF s).1.length
  let nu : Int × Unit → Nat := fun z => (((scanF s).1.length : Int) - z.1).toNat
  refine pack _ 0 (a16 Lv.std I mu J nu) (only_ok (F := F) (l := [21, 22, 23, 25, 33, 39, 40]) (by simp only [List.forall_mem_cons]; exact ⟨at_ok k1 (by kernel_rfl), at_ok k2 (by kernel_rfl), at_ok k3 (by kernel_rfl), at_ok k4 (by kernel_rfl), at_ok k5 (by kernel_rfl), at_ok k6 (by kernel_rfl), at_ok k7 (by kernel_rfl), fun _ h => by cases h⟩)) ?_
  refine n16_go Lv.std F I mu J nu s (a, b, t) ?_
  simp only [n16, VC.holds, std_cmp, std_scmp, std_ar_add, std_ar_sub, std_ar_mul, std_ar, std_dv, std_shf, std_conv, std_mn, std_mx, std_beq, std_bnot, std_band, std_scat, std_byte, std_ext, std_slen, std_strOf, std_bytes, std_llen, std_get, std_setl, std_app, std_take, std_drop, std_rep, std_mhas, std_mval, std_mput, std_cast, std_toN, std_sub, std_add, std_inR, std_le3, std_leN, std_ltN, std_ne0, std_nonneg, std_catOk, std_room, std_mkOk, cmp_lss_t, cmp_lss_f, cmp_leq_t, cmp_leq_f, cmp_gtr_t, cmp_gtr_f, cmp_geq_t, cmp_geq_f, cmp_eql_t, cmp_eql_f, cmp_neq_t, cmp_neq_f, scmp_eql_t, scmp_eql_f, scmp_neq_t, scmp_neq_f, dflt_int, dflt_bool, dflt_str, dflt_sl, dflt_pair, h, h0, h1, h2, h3, h4, h5, hs, hB, hpl, Prod.mk.injEq, and_true, true_and, List.length_nil, Nat.zero_add, List.nil_append, List.take_length, nc0]
  refine ⟨hpre', fun e => by simp, fun e1 => ⟨fun s1 => ⟨fun s2 => ?_, fun _ => by simp⟩, fun _ => by simp⟩⟩
  obtain ⟨H, T, N, hr, q1, q2, q3, q4, q5, q6, q7, q8, q9, q10, q11, q12⟩ := kept (x := (a, b, t)) e1
  have hP := scan_pL s
  have hP2 := scan_pL (nowF s (a, b, t))
  have hPN := resc_pL s (a, b, t)
  rw [hr] at hPN
  simp only at hPN q5 q6 q7 q8
  simp only [hr, q2, q11, same_refl]
  have hpl2 := scan_places q1
  have w1 : IntKind.i64.wrap (((scanF s).1.length : Int) - H) = ((scanF s).1.length : Int) - H := wrap_i64 (by omega) (by omega)
  have w4 : IntKind.i64.wrap (((scanF s).1.length : Int) - T) = ((scanF s).1.length : Int) - T := wrap_i64 (by omega) (by omega)
  simp only [w1, w4]
  refine ⟨hpre', fun c => absurd q1 c, fun _ => ⟨fun c => absurd rfl c, fun _ => ⟨fun c => absurd q3 c, fun _ => ⟨fun c => absurd c (by omega), fun _ => ⟨fun c => absurd c (by omega), fun _ => ⟨fun c => absurd c (by omega), fun _ => ⟨fun c => absurd c (by omega), fun _ => ⟨fun c => absurd c (by omega), fun _ =>
    ⟨⟨by omega, by omega⟩, ⟨hP, by omega, hPN⟩, fun c => absurd rfl c, fun _ => ⟨hP2, fun _ => ⟨⟨Int.le_refl b, q7⟩, ?_⟩, fun c => by cases c⟩⟩⟩⟩⟩⟩⟩⟩⟩⟩
  rintro ⟨f, _⟩ ⟨g0, g1⟩
  simp only at g0 g1 ⊢
  have wf : IntKind.i64.wrap (f + 1) = f + 1 := wrap_i64 (by omega) (by omega)
  rw [wf]
  refine ⟨fun hlt => ⟨⟨by omega, hlt⟩, fun _ => ⟨⟨by show b ≤ f + 1; omega, by show f + 1 ≤ (s.size : Int); omega⟩, by show ((s.size : Int) - (f + 1)).toNat < ((s.size : Int) - f).toNat; omega⟩, fun hb => ?_⟩, fun hge => ?_⟩
  all_goals
    have hq := q12 f g0 (by first | exact fun _ => hb | exact fun c => absurd c (by omega))
    refine ⟨⟨by show (0 : Int) ≤ 0; omega, by show (0 : Int) ≤ (scanF s).1.length; omega⟩, ?_⟩
    rintro ⟨i, _⟩ ⟨j0, j1⟩
    simp only at j0 j1 ⊢
    refine ⟨fun hlt2 => ?_, fun hge2 => by simp⟩
    obtain ⟨k, rfl⟩ : ∃ k : Nat, i = k := ⟨i.toNat, by omega⟩
    have hk : k < (scanF s).1.length := by omega
    have hqk := hq k hk
    have hpk := (place_iff _).1 (all_at (f := fun x : Lx => isPlaceF x.2.2) hpl2 (scanF s).1[k] (List.getElem_mem _))
    have hsz := hP.2 (scanF s).1[k] (List.getElem_mem _)
    have w3 : IntKind.i64.wrap ((k : Int) + 1) = (k : Int) + 1 := wrap_i64 (by omega) (by omega)
    simp only [w3, Int.toNat_natCast, List.getElem?_eq_getElem hk, Option.getD_some]
    have hJ : J ((k : Int) + 1, ()) ∧ nu ((k : Int) + 1, ()) < nu ((k : Int), ()) := ⟨⟨by show (0 : Int) ≤ (k : Int) + 1; omega, by show (k : Int) + 1 ≤ (scanF s).1.length; omega⟩, by show (((scanF s).1.length : Int) - ((k : Int) + 1)).toNat < (((scanF s).1.length : Int) - k).toNat; omega⟩
    generalize (scanF s).1[k] = y at hqk hpk hsz ⊢
    have w2 : IntKind.i64.wrap (y.2.2 + y.2.1.size) = y.2.2 + y.2.1.size := wrap_i64 (by omega) (by omega)
    simp only [w2]
    have hin : (0 : Int) ≤ k ∧ (k : Int) < (scanF s).1.length := ⟨j0, hlt2⟩
    have hx1 : y.2.2 + (y.2.1.size : Int) < a → k < H := hqk.1
    have hx2 : f < y.2.2 → (scanF s).1.length ≤ k + T := hqk.2
    have hend : (f < y.2.2 → ((k : Int) < ((scanF s).1.length : Int) - T → false = true) ∧ (((scanF s).1.length : Int) - T ≤ k → J ((k : Int) + 1, ()) ∧ nu ((k : Int) + 1, ()) < nu ((k : Int), ()))) ∧ (y.2.2 ≤ f → J ((k : Int) + 1, ()) ∧ nu ((k : Int) + 1, ()) < nu ((k : Int), ())) :=
      ⟨fun c => ⟨fun c2 => absurd c2 (by have := hx2 c; omega), fun _ => hJ⟩, fun _ => hJ⟩
    exact ⟨hin, hin, fun c => ⟨fun c2 => absurd c2 (by have := hx1 c; omega), fun _ => ⟨hin, hend⟩⟩, fun c => ⟨hin, hend⟩⟩
end Go.Proofs.Tryd
set_option autoImplicit false
set_option linter.all false
namespace Go.Proofs.Tryd
open Go Go.VM
set_option maxRecDepth 100000
theorem h16 : SpecOk prog 16 (lawEp FF) := ok16 FF rfl rfl rfl rfl rfl rfl rfl rfl rfl rfl h21 h22 h23 h25 h33 h39 h40
end Go.Proofs.Tryd
