/- What some functions of the lexer compute, proved through the condition generator. No condition of ours. -/
import Derived.Test.YthmlejcfgbpcbaaDoorL2
set_option autoImplicit false
set_option linter.all false
namespace Go.Proofs.Tryd
open Go Go.VM
set_option maxRecDepth 100000

/-! ### what is left of a text -/
def rest (s : ByteArray) (i : Int) : ByteArray := s.extract i.toNat s.size
theorem rest_size {s : ByteArray} {i : Int} (h0 : 0 ≤ i) (h1 : i ≤ s.size) : ((rest s i).size : Int) = s.size - i := by unfold rest; rw [ext_size]; omega
theorem rest_byte {s : ByteArray} {i m : Int} (h0 : 0 ≤ i) (h1 : 0 ≤ m) (h2 : i + m < s.size) : byteAt (rest s i) m = byteAt s (i + m) := byteAt_rest s i m h0 h1 h2
theorem rest_rest {s : ByteArray} {i k : Int} (h0 : 0 ≤ i) (h1 : 0 ≤ k) (h2 : i + k ≤ s.size) : rest (rest s i) k = rest s (i + k) := by
  have e1 := rest_size h0 (show i ≤ s.size by omega)
  have e2 := rest_size (s := rest s i) h1 (by omega)
  have e3 := rest_size (s := s) (i := i + k) (by omega) h2
  refine ba_ext2 (by omega) fun j j0 j1 => ?_
  rw [rest_byte h1 j0 (by omega), rest_byte h0 (by omega) (by omega), rest_byte (by omega) j0 (by omega)]
  congr 1; omega
theorem rest_zero (s : ByteArray) : rest s 0 = s := by unfold rest; simp
theorem rest_app {t q : ByteArray} : rest (t ++ q) t.size = q := by
  have e1 := app_size t q
  have e2 := rest_size (s := t ++ q) (i := t.size) (by omega) (by omega)
  refine ba_ext2 (by omega) fun j j0 j1 => ?_
  rw [rest_byte (by omega) j0 (by omega), byteAt_app_r (by omega) (by omega)]
  congr 1; omega
theorem rest_app2 {t q : ByteArray} {i : Int} (h0 : 0 ≤ i) (h1 : i ≤ t.size) : rest (t ++ q) i = rest t i ++ q := by
  have e1 := app_size t q
  have e2 := rest_size (s := t ++ q) (i := i) (by omega) (by omega)
  have e3 := rest_size (s := t) (i := i) h0 h1
  have e4 := app_size (rest t i) q
  refine ba_ext2 (by omega) fun j j0 j1 => ?_
  rw [rest_byte (by omega) j0 (by omega)]
  by_cases hj : j < (rest t i).size
  · rw [byteAt_app_l (by omega) (by omega), byteAt_app_l j0 hj, rest_byte h0 j0 (by omega)]
  · rw [byteAt_app_r (by omega) (by omega), byteAt_app_r (by omega) (by omega)]
    congr 1; omega
theorem split_rest (s : ByteArray) (k : Int) (h0 : 0 ≤ k) (h1 : k ≤ s.size) : s = s.extract 0 k.toNat ++ rest s k := by
  have e2 := rest_size h0 h1
  have e3 := ext_size s 0 k.toNat
  have e4 := app_size (s.extract 0 k.toNat) (rest s k)
  refine ba_ext2 (by omega) fun j j0 j1 => ?_
  by_cases hj : j < k
  · rw [byteAt_app_l j0 (by omega), byteAt_ext j0 (by omega)]
    congr 1; omega
  · rw [byteAt_app_r (by omega) (by omega), rest_byte h0 (by omega) (by omega)]
    congr 1; omega

/-! ### a token's text, from what is left -/
def tx (r : ByteArray) : ByteArray := if cls (byteAt r 0) = 4 then whilF r [4, 5] else if cls (byteAt r 0) = 5 then whilF r [5] else signF r
def kdo (c : Int) (t : ByteArray) : Int × Bool := if c = 4 then (if isKeyF t then (3, true) else (1, decide (t.size ≤ 12))) else if c = 5 then (2, isNumF t) else (4, decide (t.size ≠ 0))
theorem tok_tx (s : ByteArray) (i : Int) : tokF s i = (((kdo (cls (byteAt (rest s i) 0)) (tx (rest s i))).1, tx (rest s i), i), (kdo (cls (byteAt (rest s i) 0)) (tx (rest s i))).2) := by
  unfold tokF tx kdo rest
  simp only
  generalize s.extract i.toNat s.size = r
  by_cases h4 : cls (byteAt r 0) = 4
  · simp only [if_pos h4]; split <;> rfl
  · by_cases h5 : cls (byteAt r 0) = 5
    · simp only [if_neg h4, if_pos h5]
    · simp only [if_neg h4, if_neg h5]

/-! ### runs of classes -/
theorem whN_max (s : ByteArray) (l : List Int) : ∀ n : Nat, n ≤ s.size → whN s l n < s.size → isOfL (byteAt s (whN s l n)) l = false
  | 0, _, h2 => by simp only [whN] at h2; omega
  | n + 1, h, h2 => by
    simp only [whN] at h2 ⊢
    split
    · rename_i he
      rw [if_pos he] at h2
      exact whN_max s l n (by omega) h2
    · rename_i he
      simpa using he
theorem whN_eq {s : ByteArray} {l : List Int} {k : Int} (h0 : 0 ≤ k) (h1 : k ≤ s.size) (ha : ∀ j : Int, 0 ≤ j → j < k → isOfL (byteAt s j) l = true) (hb : k < s.size → isOfL (byteAt s k) l = false) : whN s l s.size = k := by
  obtain ⟨q1, q2, q3⟩ := whN_ok s l s.size (Nat.le_refl _)
  have q4 := whN_max s l s.size (Nat.le_refl _)
  by_cases c1 : whN s l s.size < k
  · have := ha _ (by omega) c1
    rw [q4 (by omega)] at this; cases this
  · by_cases c2 : k < whN s l s.size
    · have := q3 k (by omega) c2
      rw [hb (by omega)] at this; cases this
    · omega
theorem whil_size' (r : ByteArray) (l : List Int) : ((whilF r l).size : Int) = whN r l r.size := by
  have := whN_bounds r l r.size (Nat.le_refl _)
  unfold whilF; rw [ext_size]; omega
theorem whil_byte {r : ByteArray} {l : List Int} {j : Int} (h0 : 0 ≤ j) (h1 : j < (whilF r l).size) : byteAt (whilF r l) j = byteAt r j ∧ isOfL (byteAt r j) l = true := by
  have e := whil_size' r l
  obtain ⟨q1, q2, q3⟩ := whN_ok r l r.size (Nat.le_refl _)
  refine ⟨?_, q3 j (by omega) (by omega)⟩
  unfold whilF
  rw [byteAt_ext h0 (by omega)]
  congr 1; omega
theorem whil_app {t q : ByteArray} {l : List Int} (ht : ∀ j : Int, 0 ≤ j → j < t.size → isOfL (byteAt t j) l = true) (hq : 0 < q.size → isOfL (byteAt q 0) l = false) : whilF (t ++ q) l = t := by
  have e := app_size t q
  have hw : whN (t ++ q) l (t ++ q).size = t.size := whN_eq (by omega) (by omega) (fun j j0 j1 => by rw [byteAt_app_l j0 j1]; exact ht j j0 j1) (fun hlt => by rw [byteAt_app_r (by omega) (by omega), Int.sub_self]; exact hq (by omega))
  have hsz := whil_size' (t ++ q) l
  refine ba_ext2 (by omega) fun j j0 j1 => ?_
  rw [(whil_byte j0 j1).1, byteAt_app_l j0 (by omega)]
theorem whil_app_no {t q : ByteArray} {l : List Int} (hq : 0 < q.size) (hb : isOfL (byteAt q 0) l = true) : whilF (t ++ q) l ≠ t := fun he => by
  have e := app_size t q
  have hsz := whil_size' (t ++ q) l
  rw [he] at hsz
  have := whN_max (t ++ q) l (t ++ q).size (Nat.le_refl _) (by omega)
  rw [← hsz, byteAt_app_r (by omega) (by omega), Int.sub_self, hb] at this
  cases this

/-! ### signs -/
theorem hasPre_iff (s p : ByteArray) : hasPre s p = true ↔ p.size ≤ s.size ∧ ∀ j : Int, 0 ≤ j → j < p.size → byteAt s j = byteAt p j := by
  unfold hasPre
  simp only [Bool.and_eq_true, decide_eq_true_eq]
  constructor
  · rintro ⟨h1, h2⟩
    refine ⟨h1, fun j j0 j1 => ?_⟩
    rw [← h2, byteAt_ext j0 (by omega)]
    congr 1; omega
  · rintro ⟨h1, h2⟩
    have e := ext_size s 0 p.size
    refine ⟨h1, ba_ext2 (by omega) fun j j0 j1 => ?_⟩
    rw [byteAt_ext j0 (by omega), ← h2 j j0 (by omega)]
    congr 1; omega
theorem signGo_congr {s s' : ByteArray} : ∀ (l : List ByteArray) (b : ByteArray), (∀ x ∈ l, hasPre s x = hasPre s' x) → signGo s l b = signGo s' l b
  | [], b, _ => rfl
  | x :: l, b, h => by
    unfold signGo
    rw [h x (by simp)]
    exact signGo_congr l _ fun y hy => h y (by simp [hy])
theorem signGo_mem (s : ByteArray) : ∀ (l : List ByteArray) (b : ByteArray), signGo s l b = b ∨ (signGo s l b ∈ l ∧ hasPre s (signGo s l b) = true)
  | [], b => .inl rfl
  | x :: l, b => by
    unfold signGo
    rcases signGo_mem s l (if hasPre s x = true ∧ b.size < x.size then x else b) with h | h
    · rw [h]
      split
      · rename_i hx; exact .inr ⟨by simp, hx.1⟩
      · exact .inl rfl
    · exact .inr ⟨by simp [h.1], h.2⟩
theorem signGo_max (s : ByteArray) : ∀ (l : List ByteArray) (b : ByteArray), b.size ≤ (signGo s l b).size ∧ ∀ x ∈ l, hasPre s x = true → x.size ≤ (signGo s l b).size
  | [], b => ⟨Nat.le_refl _, fun x hx => by simp at hx⟩
  | x :: l, b => by
    unfold signGo
    obtain ⟨h1, h2⟩ := signGo_max s l (if hasPre s x = true ∧ b.size < x.size then x else b)
    refine ⟨?_, fun y hy hp => ?_⟩
    · split at h1 <;> rename_i hx
      · rw [if_pos hx]; omega
      · rw [if_neg hx]; omega
    · rcases List.mem_cons.1 hy with rfl | hy
      · split at h1 <;> rename_i hx
        · rw [if_pos hx]; omega
        · rw [if_neg hx]
          have : ¬ b.size < y.size := fun e => hx ⟨hp, e⟩
          omega
      · exact h2 y hy hp
theorem signs_of : ∀ x ∈ signsL, 1 ≤ x.size ∧ x.size ≤ 2 ∧ cls (byteAt x 0) = 0 ∧ (x.size = 2 → byteAt x 1 = 61) := by decide +kernel
theorem sign_mem {r : ByteArray} (h : 0 < (signF r).size) : signF r ∈ signsL ∧ hasPre r (signF r) = true := by
  rcases signGo_mem r signsL ByteArray.empty with e | e
  · rw [show signF r = ByteArray.empty from e] at h; simp at h
  · exact e
theorem sign_self {r : ByteArray} (h : 0 < (signF r).size) : signF (signF r) = signF r := by
  obtain ⟨h1, h2⟩ := sign_mem h
  have hp : hasPre (signF r) (signF r) = true := (hasPre_iff _ _).2 ⟨Nat.le_refl _, fun _ _ _ => rfl⟩
  have hm := (signGo_max (signF r) signsL ByteArray.empty).2 _ h1 hp
  have hpos : 0 < (signF (signF r)).size := by
    have : (signF r).size ≤ (signF (signF r)).size := hm
    omega
  obtain ⟨h3, h4⟩ := sign_mem hpos
  obtain ⟨h5, h6⟩ := (hasPre_iff _ _).1 h4
  have hm' : (signF r).size ≤ (signF (signF r)).size := hm
  exact ba_ext2 (by omega) fun j j0 j1 => (h6 j j0 j1).symm
theorem sign_app_congr {t q q' : ByteArray} (ht : 0 < t.size) (hq : 0 < q.size) (hq' : 0 < q'.size) (hb : byteAt q 0 = byteAt q' 0) : signF (t ++ q) = signF (t ++ q') := by
  have e1 := app_size t q
  have e2 := app_size t q'
  refine signGo_congr _ _ fun x hx => ?_
  obtain ⟨k1, k2, _⟩ := signs_of x hx
  have hby : ∀ j : Int, 0 ≤ j → j < x.size → byteAt (t ++ q) j = byteAt (t ++ q') j := fun j j0 j1 => by
    by_cases hj : j < t.size
    · rw [byteAt_app_l j0 hj, byteAt_app_l j0 hj]
    · rw [byteAt_app_r (by omega) (by omega), byteAt_app_r (by omega) (by omega), show j - (t.size : Int) = 0 by omega, hb]
  rw [Bool.eq_iff_iff, hasPre_iff, hasPre_iff]
  constructor
  · rintro ⟨_, h⟩; exact ⟨by omega, fun j j0 j1 => by rw [← hby j j0 j1]; exact h j j0 j1⟩
  · rintro ⟨_, h⟩; exact ⟨by omega, fun j j0 j1 => by rw [hby j j0 j1]; exact h j j0 j1⟩
theorem sign_app_other {t q : ByteArray} (ht : 0 < t.size) (hb : 0 < q.size → byteAt q 0 ≠ 61) : signF (t ++ q) = signF t := by
  have e1 := app_size t q
  refine signGo_congr _ _ fun x hx => ?_
  obtain ⟨k1, k2, _, k3⟩ := signs_of x hx
  rw [Bool.eq_iff_iff, hasPre_iff, hasPre_iff]
  constructor
  · rintro ⟨h0, h⟩
    have hle : x.size ≤ t.size := by
      refine Classical.byContradiction fun hn => ?_
      have h2 := h 1 (by omega) (by omega)
      rw [byteAt_app_r (by omega) (by omega), k3 (by omega), show (1 : Int) - t.size = 0 by omega] at h2
      exact hb (by omega) h2
    exact ⟨hle, fun j j0 j1 => by rw [← h j j0 j1, byteAt_app_l j0 (by omega)]⟩
  · rintro ⟨h0, h⟩
    exact ⟨by omega, fun j j0 j1 => by rw [← h j j0 j1, byteAt_app_l j0 (by omega)]⟩

/-! ### texts of tokens -/
theorem isOf_cls (b : Int) : (isOfL b [4, 5] = true ↔ cls b = 4 ∨ cls b = 5) ∧ (isOfL b [5] = true ↔ cls b = 5) := by
  constructor
  · rw [isOf45, Bool.true_and, Bool.or_eq_true, cls4, cls5]; exact Or.comm
  · rw [isOf5, Bool.false_and, Bool.or_false, cls5]
theorem tx_pre (r : ByteArray) : (tx r).size ≤ r.size ∧ ∀ j : Int, 0 ≤ j → j < (tx r).size → byteAt (tx r) j = byteAt r j := by
  unfold tx
  split
  · exact ⟨whilF_size _ _, fun j j0 j1 => (whil_byte j0 j1).1⟩
  · split
    · exact ⟨whilF_size _ _, fun j j0 j1 => (whil_byte j0 j1).1⟩
    · rcases Nat.eq_zero_or_pos (signF r).size with e | e
      · exact ⟨by omega, fun j j0 j1 => by omega⟩
      · obtain ⟨_, h⟩ := sign_mem e
        obtain ⟨h1, h2⟩ := (hasPre_iff _ _).1 h
        exact ⟨h1, fun j j0 j1 => (h2 j j0 j1).symm⟩
theorem tx_byte {r : ByteArray} {j : Int} (h0 : 0 ≤ j) (h1 : j < (tx r).size) : byteAt (tx r) j ≠ 32 ∧ byteAt (tx r) j ≠ 10 ∧ byteAt (tx r) j ≠ 37 := by
  have hc : ∀ b : Int, cls b = 4 ∨ cls b = 5 ∨ cls b = 0 → b ≠ 32 ∧ b ≠ 10 ∧ b ≠ 37 := fun b hb => by
    refine ⟨fun e => ?_, fun e => ?_, fun e => ?_⟩ <;> (subst e; revert hb; decide)
  apply hc
  unfold tx at h1 ⊢
  split at h1
  · rename_i h4
    rw [if_pos h4]
    obtain ⟨e1, e2⟩ := whil_byte h0 h1
    rw [e1]
    rcases (isOf_cls _).1.1 e2 with h | h
    · exact .inl h
    · exact .inr (.inl h)
  · rename_i h4
    rw [if_neg h4]
    split at h1
    · rename_i h5
      rw [if_pos h5]
      obtain ⟨e1, e2⟩ := whil_byte h0 h1
      rw [e1]
      exact .inr (.inl ((isOf_cls _).2.1 e2))
    · rename_i h5
      rw [if_neg h5]
      obtain ⟨hm, _⟩ := sign_mem (r := r) (by omega)
      have k := signs_of _ hm
      obtain ⟨k1, k2, k3, k4⟩ := k
      by_cases hj : j = 0
      · rw [hj]; exact .inr (.inr k3)
      · rw [show j = 1 by omega, k4 (by omega)]; exact .inr (.inr (by decide))
theorem tx_eq {x r : ByteArray} (h : byteAt x 0 = byteAt r 0) : tx x = if cls (byteAt r 0) = 4 then whilF x [4, 5] else if cls (byteAt r 0) = 5 then whilF x [5] else signF x := by unfold tx; rw [h]
theorem tx_self {r : ByteArray} (h : 0 < (tx r).size) : tx (tx r) = tx r := by
  have h0 : byteAt (tx r) 0 = byteAt r 0 := (tx_pre r).2 0 (by omega) (by omega)
  rw [tx_eq h0]
  have ha : ∀ t : ByteArray, t = t ++ ByteArray.empty := fun t => by simp
  split
  · rename_i h4
    have e : tx r = whilF r [4, 5] := by unfold tx; rw [if_pos h4]
    rw [e]
    conv => lhs; rw [ha (whilF r [4, 5])]
    exact whil_app (fun j j0 j1 => by rw [(whil_byte j0 j1).1]; exact (whil_byte j0 j1).2) (fun hh => by simp at hh)
  · rename_i h4
    split
    · rename_i h5
      have e : tx r = whilF r [5] := by unfold tx; rw [if_neg h4, if_pos h5]
      rw [e]
      conv => lhs; rw [ha (whilF r [5])]
      exact whil_app (fun j j0 j1 => by rw [(whil_byte j0 j1).1]; exact (whil_byte j0 j1).2) (fun hh => by simp at hh)
    · rename_i h5
      have e : tx r = signF r := by unfold tx; rw [if_neg h4, if_neg h5]
      rw [e] at h ⊢
      exact sign_self h
/-- A text that is a token by itself: is it one ahead of others? That hangs on the next byte alone. -/
theorem tx_app {t q q' : ByteArray} (h : tx t = t) (ht : 0 < t.size) (hq : 0 < q.size) (hq' : 0 < q'.size) (hb : byteAt q 0 = byteAt q' 0) : tx (t ++ q) = t ↔ tx (t ++ q') = t := by
  have e1 : byteAt (t ++ q) 0 = byteAt t 0 := byteAt_app_l (by omega) (by omega)
  have e2 : byteAt (t ++ q') 0 = byteAt t 0 := byteAt_app_l (by omega) (by omega)
  unfold tx at h ⊢
  rw [e1, e2]
  have hw : ∀ l, whilF t l = t → (whilF (t ++ q) l = t ↔ whilF (t ++ q') l = t) := fun l hl => by
    have hin : ∀ j : Int, 0 ≤ j → j < t.size → isOfL (byteAt t j) l = true := fun j j0 j1 => (whil_byte j0 (by rw [hl]; exact j1)).2
    cases hc : isOfL (byteAt q 0) l with
    | true => exact ⟨fun e => absurd e (whil_app_no hq hc), fun e => absurd e (whil_app_no hq' (by rw [← hb]; exact hc))⟩
    | false => exact ⟨fun _ => whil_app hin fun _ => by rw [← hb]; exact hc, fun _ => whil_app hin fun _ => hc⟩
  split
  · rename_i h4
    rw [if_pos h4] at h
    exact hw _ h
  · rename_i h4
    rw [if_neg h4] at h
    split
    · rename_i h5
      rw [if_pos h5] at h
      exact hw _ h
    · rw [sign_app_congr ht hq hq' hb]
theorem tx_app_end {t q : ByteArray} (h : tx t = t) (ht : 0 < t.size) (hb : 0 < q.size → byteAt q 0 = 32 ∨ byteAt q 0 = 10 ∨ byteAt q 0 = 37) : tx (t ++ q) = t := by
  have e1 : byteAt (t ++ q) 0 = byteAt t 0 := byteAt_app_l (by omega) (by omega)
  have hcl : 0 < q.size → isOfL (byteAt q 0) [4, 5] = false ∧ isOfL (byteAt q 0) [5] = false ∧ byteAt q 0 ≠ 61 := fun hh => by
    rcases hb hh with e | e | e <;> (rw [e]; decide)
  unfold tx at h ⊢
  rw [e1]
  have hw : ∀ l, whilF t l = t → (0 < q.size → isOfL (byteAt q 0) l = false) → whilF (t ++ q) l = t := fun l hl hc => whil_app (fun j j0 j1 => (whil_byte j0 (by rw [hl]; exact j1)).2) hc
  split
  · rename_i h4
    rw [if_pos h4] at h
    exact hw _ h fun hh => (hcl hh).1
  · rename_i h4
    rw [if_neg h4] at h
    split
    · rename_i h5
      rw [if_pos h5] at h
      exact hw _ h fun hh => (hcl hh).2.1
    · rename_i h5
      rw [if_neg h5] at h
      rw [sign_app_other ht fun hh => (hcl hh).2.2]
      exact h

/-! ### gaps, from what is left -/
theorem gapF_rest {s : ByteArray} {i : Int} (h0 : 0 ≤ i) (h1 : i ≤ s.size) : ∀ (n : Nat) (b : Bool), (n : Int) ≤ s.size - i → gapF s n b = i + gapF (rest s i) n b
  | 0, b, _ => by
    have := rest_size h0 h1
    simp only [gapF]; omega
  | n + 1, b, h => by
    have e := rest_size h0 h1
    have ih := gapF_rest h0 h1 n
    have eb : byteAt (rest s i) (((rest s i).size : Int) - (n + 1 : Nat)) = byteAt s ((s.size : Int) - (n + 1 : Nat)) := by
      rw [rest_byte h0 (by omega) (by omega)]; congr 1; omega
    simp only [gapF]
    rw [eb, ih false (by omega), ih true (by omega)]
    repeat' split
    all_goals first | rfl | omega
def skip (r : ByteArray) : ByteArray := rest r (gap r 0)
theorem gap_rest {s : ByteArray} {i : Int} (h0 : 0 ≤ i) (h1 : i ≤ s.size) : gap s i = i + gap (rest s i) 0 := by
  have e := rest_size h0 h1
  unfold gap
  rw [gapF_rest h0 h1 _ _ (by omega)]
  congr 2; omega
theorem skip_rest {s : ByteArray} {i : Int} (h0 : 0 ≤ i) (h1 : i ≤ s.size) : skip (rest s i) = rest s (gap s i) := by
  have b := gap_bounds (rest s i) 0 (by omega) (by omega)
  have e := rest_size h0 h1
  unfold skip
  rw [gap_rest h0 h1, rest_rest h0 b.1 (by omega)]
theorem skip_step {r : ByteArray} (h : 0 < r.size) : skip r = if byteAt r 0 = 10 ∨ byteAt r 0 = 32 then skip (rest r 1) else if byteAt r 0 = 37 then skip r else r := by
  have e := gapF_step r 0 false (by omega) (by omega)
  have e0 : gap r 0 = gapF r ((r.size : Int) - 0).toNat false := rfl
  have e1 : gap r 1 = gapF r ((r.size : Int) - (0 + 1)).toNat false := rfl
  have er : skip (rest r 1) = rest r (gap r 1) := skip_rest (by omega) (by omega)
  rw [← e0, ← e1] at e
  by_cases c1 : byteAt r 0 = 10
  · rw [if_pos (.inl c1), er]; unfold skip; rw [e, if_pos c1]
  · rw [if_neg c1] at e
    simp only [Bool.false_eq_true, if_false] at e
    by_cases c2 : byteAt r 0 = 32
    · rw [if_pos (.inr c2), er]; unfold skip; rw [e, if_pos c2]
    · rw [if_neg c2] at e
      rw [if_neg (fun h => h.elim c1 c2)]
      by_cases c3 : byteAt r 0 = 37
      · rw [if_pos c3]
      · rw [if_neg c3] at e
        rw [if_neg c3]; unfold skip; rw [e, rest_zero]
theorem skip_nil {r : ByteArray} (h : r.size = 0) : skip r = r := by
  have b := gap_bounds r 0 (by omega) (by omega)
  unfold skip
  rw [show gap r 0 = 0 by omega, rest_zero]

/-! ### tokens, one after the other; with the size of what is left at each -/
abbrev Tk := Int × ByteArray × Int
def Sc : ByteArray → List Tk → Prop
  | r, [] => r.size = 0
  | r, x :: l => 0 < r.size ∧ x.2.2 = r.size ∧ tx r = x.2.1 ∧ kdo (cls (byteAt r 0)) x.2.1 = (x.1, true) ∧ Sc (skip (rest r x.2.1.size)) l
theorem sc_det : ∀ (r : ByteArray) (l m : List Tk), Sc r l → Sc r m → l = m
  | r, [], [], _, _ => rfl
  | r, [], y :: m, h, k => by have h' : r.size = 0 := h; have k' : 0 < r.size := k.1; omega
  | r, x :: l, [], h, k => by have h' : 0 < r.size := h.1; have k' : r.size = 0 := k; omega
  | r, x :: l, y :: m, h, k => by
    obtain ⟨h1, h2, h3, h4, h5⟩ := h
    obtain ⟨k1, k2, k3, k4, k5⟩ := k
    have e2 : x.2.1 = y.2.1 := h3.symm.trans k3
    have e1 : x.1 = y.1 := by rw [← e2, h4] at k4; exact (Prod.mk.inj k4).1
    rw [← e2] at k5
    rw [sc_det _ l m h5 k5]
    congr 1
    exact Prod.ext e1 (Prod.ext e2 (h2.trans k2.symm))
theorem kdo_pos {c : Int} {t : ByteArray} {k : Int} (h : kdo c t = (k, true)) (hc : c = 4 → 0 < t.size) (h5 : c = 5 → 0 < t.size) : 0 < t.size := by
  by_cases h4 : c = 4
  · exact hc h4
  · by_cases h5' : c = 5
    · exact h5 h5'
    · unfold kdo at h
      rw [if_neg h4, if_neg h5'] at h
      have := congrArg Prod.snd h
      simp at this
      have : t.size ≠ 0 := fun e => this (by simpa using e)
      omega
theorem tx_pos {r : ByteArray} {k : Int} (h0 : 0 < r.size) (h : kdo (cls (byteAt r 0)) (tx r) = (k, true)) : 0 < (tx r).size := by
  refine kdo_pos h (fun h4 => ?_) (fun h5 => ?_)
  · unfold tx; rw [if_pos h4]; exact whilF_pos r _ h0 ((isOf_cls _).1.2 (.inl h4))
  · unfold tx; rw [if_neg (by rw [h5]; decide), if_pos h5]; exact whilF_pos r _ h0 ((isOf_cls _).2.2 h5)
end Go.Proofs.Tryd
