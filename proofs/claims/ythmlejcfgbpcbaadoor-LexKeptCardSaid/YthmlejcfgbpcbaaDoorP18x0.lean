/- What some functions of the lexer compute, proved through the condition generator. No condition of ours. -/
import Derived.Test.YthmlejcfgbpcbaaDoorL2
set_option autoImplicit false
set_option linter.all false
namespace Go.Proofs.Tryd
open Go Go.VM
set_option maxRecDepth 100000

/-! ### what is left of a text -/
def rest (s : ByteArray) (i : Int) : ByteArray := s.extract i.toNat s.size
theorem rest_size {s : ByteArray} {i : Int} (h0 : 0 ≤ i) (h1 : i ≤ s.size) : ((rest s i).size : Int) = s.size - i := by unfold rest; rw [ext_size]; omega
theorem rest_byte {s : ByteArray} {i m : Int} (h0 : 0 ≤ i) (h1 : 0 ≤ m) (h2 : i + m < s.size) : byteAt (rest s i) m = byteAt s (i + m) := byteAt_rest s i m h0 h1 h2
theorem rest_rest {s : ByteArray} {i k : Int} (h0 : 0 ≤ i) (h1 : 0 ≤ k) (h2 : i + k ≤ s.size) : rest (rest s i) k = rest s (i + k) := by
  have e1 := rest_size h0 (show i ≤ s.size by omega)
  have e2 := rest_size (s := rest s i) h1 (by omega)
  have e3 := rest_size (s := s) (i := i + k) (by omega) h2
  refine ba_ext2 (by omega) fun j j0 j1 => ?_
  rw [rest_byte h1 j0 (by omega), rest_byte h0 (by omega) (by omega), rest_byte (by omega) j0 (by omega)]
  congr 1; omega
theorem rest_zero (s : ByteArray) : rest s 0 = s := by unfold rest; simp
theorem rest_app {t q : ByteArray} : rest (t ++ q) t.size = q := by
  have e1 := app_size t q
  have e2 := rest_size (s := t ++ q) (i := t.size) (by omega) (by omega)
  refine ba_ext2 (by omega) fun j j0 j1 => ?_
  rw [rest_byte (by omega) j0 (by omega), byteAt_app_r (by omega) (by omega)]
  congr 1; omega
theorem rest_app2 {t q : ByteArray} {i : Int} (h0 : 0 ≤ i) (h1 : i ≤ t.size) : rest (t ++ q) i = rest t i ++ q := by
  have e1 := app_size t q
  have e2 := rest_size (s := t ++ q) (i := i) (by omega) (by omega)
  have e3 := rest_size (s := t) (i := i) h0 h1
  have e4 := app_size (rest t i) q
  refine ba_ext2 (by omega) fun j j0 j1 => ?_
  rw [rest_byte (by omega) j0 (by omega)]
  by_cases hj : j < (rest t i).size
  · rw [byteAt_app_l (by omega) (by omega), byteAt_app_l j0 hj, rest_byte h0 j0 (by omega)]
  · rw [byteAt_app_r (by omega) (by omega), byteAt_app_r (by omega) (by omega)]
    congr 1; omega
theorem split_rest (s : ByteArray) (k : Int) (h0 : 0 ≤ k) (h1 : k ≤ s.size) : s = s.extract 0 k.toNat ++ rest s k := by
  have e2 := rest_size h0 h1
  have e3 := ext_size s 0 k.toNat
  have e4 := app_size (s.extract 0 k.toNat) (rest s k)
  refine ba_ext2 (by omega) fun j j0 j1 => ?_
  by_cases hj : j < k
  · rw [byteAt_app_l j0 (by omega), byteAt_ext j0 (by omega)]
    congr 1; omega
  · rw [byteAt_app_r (by omega) (by omega), rest_byte h0 (by omega) (by omega)]
    congr 1; omega

/-! ### a token's text, from what is left -/
def tx (r : ByteArray) : ByteArray := if cls (byteAt r 0) = 4 then whilF r [4, 5] else if cls (byteAt r 0) = 5 then whilF r [5] else signF r
def kdo (c : Int) (t : ByteArray) : Int × Bool := if c = 4 then (if isKeyF t then (3, true) else (1, decide (t.size ≤ 12))) else if c = 5 then (2, isNumF t) else (4, decide (t.size ≠ 0))
theorem tok_tx (s : ByteArray) (i : Int) : tokF s i = (((kdo (cls (byteAt (rest s i) 0)) (tx (rest s i))).1, tx (rest s i), i), (kdo (cls (byteAt (rest s i) 0)) (tx (rest s i))).2) := by
  unfold tokF tx kdo rest
  simp only
  generalize s.extract i.toNat s.size = r
  by_cases h4 : cls (byteAt r 0) = 4
  · simp only [if_pos h4]; split <;> rfl
  · by_cases h5 : cls (byteAt r 0) = 5
    · simp only [if_neg h4, if_pos h5]
    · simp only [if_neg h4, if_neg h5]

/-! ### runs of classes -/
theorem whN_max (s : ByteArray) (l : List Int) : ∀ n : Nat, n ≤ s.size → whN s l n < s.size → isOfL (byteAt s (whN s l n)) l = false
  | 0, _, h2 => by simp only [whN] at h2; omega
  | n + 1, h, h2 => by
    simp only [whN] at h2 ⊢
    split
    · rename_i he
      rw [if_pos he] at h2
      exact whN_max s l n (by omega) h2
    · rename_i he
      simpa using he
theorem whN_eq {s : ByteArray} {l : List Int} {k : Int} (h0 : 0 ≤ k) (h1 : k ≤ s.size) (ha : ∀ j : Int, 0 ≤ j → j < k → isOfL (byteAt s j) l = true) (hb : k < s.size → isOfL (byteAt s k) l = false) : whN s l s.size = k := by
  obtain ⟨q1, q2, q3⟩ := whN_ok s l s.size (Nat.le_refl _)
  have q4 := whN_max s l s.size (Nat.le_refl _)
  by_cases c1 : whN s l s.size < k
  · have := ha _ (by omega) c1
    rw [q4 (by omega)] at this; cases this
  · by_cases c2 : k < whN s l s.size
    · have := q3 k (by omega) c2
      rw [hb (by omega)] at this; cases this
    · omega
theorem whil_size' (r : ByteArray) (l : List Int) : ((whilF r l).size : Int) = whN r l r.size := by
  have := whN_bounds r l r.size (Nat.le_refl _)
  unfold whilF; rw [ext_size]; omega
theorem whil_byte {r : ByteArray} {l : List Int} {j : Int} (h0 : 0 ≤ j) (h1 : j < (whilF r l).size) : byteAt (whilF r l) j = byteAt r j ∧ isOfL (byteAt r j) l = true := by
  have e := whil_size' r l
  obtain ⟨q1, q2, q3⟩ := whN_ok r l r.size (Nat.le_refl _)
  refine ⟨?_, q3 j (by omega) (by omega)⟩
  unfold whilF
  rw [byteAt_ext h0 (by omega)]
  congr 1; omega
theorem whil_app {t q : ByteArray} {l : List Int} (ht : ∀ j : Int, 0 ≤ j → j < t.size → isOfL (byteAt t j) l = true) (hq : 0 < q.size → isOfL (byteAt q 0) l = false) : whilF (t ++ q) l = t := by
  have e := app_size t q
  have hw : whN (t ++ q) l (t ++ q).size = t.size := whN_eq (by omega) (by omega) (fun j j0 j1 => by rw [byteAt_app_l j0 j1]; exact ht j j0 j1) (fun hlt => by rw [byteAt_app_r (by omega) (by omega), Int.sub_self]; exact hq (by omega))
  have hsz := whil_size' (t ++ q) l
  refine ba_ext2 (by omega) fun j j0 j1 => ?_
  rw [(whil_byte j0 j1).1, byteAt_app_l j0 (by omega)]
theorem whil_app_no {t q : ByteArray} {l : List Int} (hq : 0 < q.size) (hb : isOfL (byteAt q 0) l = true) : whilF (t ++ q) l ≠ t := fun he => by
  have e := app_size t q
  have hsz := whil_size' (t ++ q) l
  rw [he] at hsz
  have := whN_max (t ++ q) l (t ++ q).size (Nat.le_refl _) (by omega)
  rw [← hsz, byteAt_app_r (by omega) (by omega), Int.sub_self, hb] at this
  cases this

/-! ### signs -/
theorem hasPre_iff (s p : ByteArray) : hasPre s p = true ↔ p.size ≤ s.size ∧ ∀ j : Int, 0 ≤ j → j < p.size → byteAt s j = byteAt p j := by
  unfold hasPre
  simp only [Bool.and_eq_true, decide_eq_true_eq]
  constructor
  · rintro ⟨h1, h2⟩
    refine ⟨h1, fun j j0 j1 => ?_⟩
    rw [← h2, byteAt_ext j0 (by omega)]
    congr 1; omega
  · rintro ⟨h1, h2⟩
    have e := ext_size s 0 p.size
    refine ⟨h1, ba_ext2 (by omega) fun j j0 j1 => ?_⟩
    rw [byteAt_ext j0 (by omega), ← h2 j j0 (by omega)]
    congr 1; omega
theorem signGo_congr {s s' : ByteArray} : ∀ (l : List ByteArray) (b : ByteArray), (∀ x ∈ l, hasPre s x = hasPre s' x) → signGo s l b = signGo s' l b
  | [], b, _ => rfl
  | x :: l, b, h => by
    unfold signGo
    rw [h x (by simp)]
    exact signGo_congr l _ fun y hy => h y (by simp [hy])
theorem signGo_mem (s : ByteArray) : ∀ (l : List ByteArray) (b : ByteArray), signGo s l b = b ∨ (signGo s l b ∈ l ∧ hasPre s (signGo s l b) = true)
  | [], b => .inl rfl
  | x :: l, b => by
    unfold signGo
    rcases signGo_mem s l (if hasPre s x = true ∧ b.size < x.size then x else b) with h | h
    · rw [h]
      split
      · rename_i hx; exact .inr ⟨by simp, hx.1⟩
      · exact .inl rfl
    · exact .inr ⟨by simp [h.1], h.2⟩
theorem signGo_max (s : ByteArray) : ∀ (l : List ByteArray) (b : ByteArray), b.size ≤ (signGo s l b).size ∧ ∀ x ∈ l, hasPre s x = true → x.size ≤ (signGo s l b).size
  | [], b => ⟨Nat.le_refl _, fun x hx => by simp at hx⟩
  | x :: l, b => by
    unfold signGo
    obtain ⟨h1, h2⟩ := signGo_max s l (if hasPre s x = true ∧ b.size < x.size then x else b)
    refine ⟨?_, fun y hy hp => ?_⟩
    · split at h1 <;> rename_i hx
      · rw [if_pos hx]; omega
      · rw [if_neg hx]; omega
    · rcases List.mem_cons.1 hy with rfl | hy
      · split at h1 <;> rename_i hx
        · rw [if_pos hx]; omega
        · rw [if_neg hx]
          have : ¬ b.size < y.size := fun e => hx ⟨hp, e⟩
          omega
      · exact h2 y hy hp
theorem signs_of : ∀ x ∈ signsL, 1 ≤ x.size ∧ x.size ≤ 2 ∧ cls (byteAt x 0) = 0 ∧ (x.size = 2 → byteAt x 1 = 61) := by decide +kernel
theorem sign_mem {r : ByteArray} (h : 0 < (signF r).size) : signF r ∈ signsL ∧ hasPre r (signF r) = true := by
  rcases signGo_mem r signsL ByteArray.empty with e | e
  · rw [show signF r = ByteArray.empty from e] at h; simp at h
  · exact e
theorem sign_self {r : ByteArray} (h : 0 < (signF r).size) : signF (signF r) = signF r := by
  obtain ⟨h1, h2⟩ := sign_mem h
  have hp : hasPre (signF r) (signF r) = true := (hasPre_iff _ _).2 ⟨Nat.le_refl _, fun _ _ _ => rfl⟩
  have hm := (signGo_max (signF r) signsL ByteArray.empty).2 _ h1 hp
  have hpos : 0 < (signF (signF r)).size := by
    have : (signF r).size ≤ (signF (signF r)).size := hm
    omega
  obtain ⟨h3, h4⟩ := sign_mem hpos
  obtain ⟨h5, h6⟩ := (hasPre_iff _ _).1 h4
  have hm' : (signF r).size ≤ (signF (signF r)).size := hm
  exact ba_ext2 (by omega) fun j j0 j1 => (h6 j j0 j1).symm
theorem sign_app_congr {t q q' : ByteArray} (ht : 0 < t.size) (hq : 0 < q.size) (hq' : 0 < q'.size) (hb : byteAt q 0 = byteAt q' 0) : signF (t ++ q) = signF (t ++ q') := by
  have e1 := app_size t q
  have e2 := app_size t q'
  refine signGo_congr _ _ fun x hx => ?_
  obtain ⟨k1, k2, _⟩ := signs_of x hx
  have hby : ∀ j : Int, 0 ≤ j → j < x.size → byteAt (t ++ q) j = byteAt (t ++ q') j := fun j j0 j1 => by
    by_cases hj : j < t.size
    · rw [byteAt_app_l j0 hj, byteAt_app_l j0 hj]
    · rw [byteAt_app_r (by omega) (by omega), byteAt_app_r (by omega) (by omega), show j - (t.size : Int) = 0 by omega, hb]
  rw [Bool.eq_iff_iff, hasPre_iff, hasPre_iff]
  constructor
  · rintro ⟨_, h⟩; exact ⟨by omega, fun j j0 j1 => by rw [← hby j j0 j1]; exact h j j0 j1⟩
  · rintro ⟨_, h⟩; exact ⟨by omega, fun j j0 j1 => by rw [hby j j0 j1]; exact h j j0 j1⟩
theorem sign_app_other {t q : ByteArray} (ht : 0 < t.size) (hb : 0 < q.size → byteAt q 0 ≠ 61) : signF (t ++ q) = signF t := by
  have e1 := app_size t q
  refine signGo_congr _ _ fun x hx => ?_
  obtain ⟨k1, k2, _, k3⟩ := signs_of x hx
  rw [Bool.eq_iff_iff, hasPre_iff, hasPre_iff]
  constructor
  · rintro ⟨h0, h⟩
    have hle : x.size ≤ t.size := by
      refine Classical.byContradiction fun hn => ?_
      have h2 := h 1 (by omega) (by omega)
      rw [byteAt_app_r (by omega) (by omega), k3 (by omega), show (1 : Int) - t.size = 0 by omega] at h2
      exact hb (by omega) h2
    exact ⟨hle, fun j j0 j1 => by rw [← h j j0 j1, byteAt_app_l j0 (by omega)]⟩
  · rintro ⟨h0, h⟩
    exact ⟨by omega, fun j j0 j1 => by rw [← h j j0 j1, byteAt_app_l j0 (by omega)]⟩

/-! ### texts of tokens -/
theorem isOf_cls (b : Int) : (isOfL b [4, 5] = true ↔ cls b = 4 ∨ cls b = 5) ∧ (isOfL b [5] = true ↔ cls b = 5) := by
  constructor
  · rw [isOf45, Bool.true_and, Bool.or_eq_true, cls4, cls5]; exact Or.comm
  · rw [isOf5, Bool.false_and, Bool.or_false, cls5]
theorem tx_pre (r : ByteArray) : (tx r).size ≤ r.size ∧ ∀ j : Int, 0 ≤ j → j < (tx r).size → byteAt (tx r) j = byteAt r j := by
  unfold tx
  split
  · exact ⟨whilF_size _ _, fun j j0 j1 => (whil_byte j0 j1).1⟩
  · split
    · exact ⟨whilF_size _ _, fun j j0 j1 => (whil_byte j0 j1).1⟩
    · rcases Nat.eq_zero_or_pos (signF r).size with e | e
      · exact ⟨by omega, fun j j0 j1 => by omega⟩
      · obtain ⟨_, h⟩ := sign_mem e
        obtain ⟨h1, h2⟩ := (hasPre_iff _ _).1 h
        exact ⟨h1, fun j j0 j1 => (h2 j j0 j1).symm⟩
theorem tx_byte {r : ByteArray} {j : Int} (h0 : 0 ≤ j) (h1 : j < (tx r).size) : byteAt (tx r) j ≠ 32 ∧ byteAt (tx r) j ≠ 10 ∧ byteAt (tx r) j ≠ 37 := by
  have hc : ∀ b : Int, cls b = 4 ∨ cls b = 5 ∨ cls b = 0 → b ≠ 32 ∧ b ≠ 10 ∧ b ≠ 37 := fun b hb => by
    refine ⟨fun e => ?_, fun e => ?_, fun e => ?_⟩ <;> (subst e; revert hb; decide)
  apply hc
  unfold tx at h1 ⊢
  split at h1
  · rename_i h4
    rw [if_pos h4]
    obtain ⟨e1, e2⟩ := whil_byte h0 h1
    rw [e1]
    rcases (isOf_cls _).1.1 e2 with h | h
    · exact .inl h
    · exact .inr (.inl h)
  · rename_i h4
    rw [if_neg h4]
    split at h1
    · rename_i h5
      rw [if_pos h5]
      obtain ⟨e1, e2⟩ := whil_byte h0 h1
      rw [e1]
      exact .inr (.inl ((isOf_cls _).2.1 e2))
    · rename_i h5
      rw [if_neg h5]
      obtain ⟨hm, _⟩ := sign_mem (r := r) (by omega)
      have k := signs_of _ hm
      obtain ⟨k1, k2, k3, k4⟩ := k
      by_cases hj : j = 0
      · rw [hj]; exact .inr (.inr k3)
      · rw [show j = 1 by omega, k4 (by omega)]; exact .inr (.inr (by decide))
theorem tx_eq {x r : ByteArray} (h : byteAt x 0 = byteAt r 0) : tx x = if cls (byteAt r 0) = 4 then whilF x [4, 5] else if cls (byteAt r 0) = 5 then whilF x [5] else signF x := by unfold tx; rw [h]
theorem tx_self {r : ByteArray} (h : 0 < (tx r).size) : tx (tx r) = tx r := by
  have h0 : byteAt (tx r) 0 = byteAt r 0 := (tx_pre r).2 0 (by omega) (by omega)
  rw [tx_eq h0]
  have ha : ∀ t : ByteArray, t = t ++ ByteArray.empty := fun t => by simp
  split
  · rename_i h4
    have e : tx r = whilF r [4, 5] := by unfold tx; rw [if_pos h4]
    rw [e]
    conv => lhs; rw [ha (whilF r [4, 5])]
    exact whil_app (fun j j0 j1 => by rw [(whil_byte j0 j1).1]; exact (whil_byte j0 j1).2) (fun hh => by simp at hh)
  · rename_i h4
    split
    · rename_i h5
      have e : tx r = whilF r [5] := by unfold tx; rw [if_neg h4, if_pos h5]
      rw [e]
      conv => lhs; rw [ha (whilF r [5])]
      exact whil_app (fun j j0 j1 => by rw [(whil_byte j0 j1).1]; exact (whil_byte j0 j1).2) (fun hh => by simp at hh)
    · rename_i h5
      have e : tx r = signF r := by unfold tx; rw [if_neg h4, if_neg h5]
      rw [e] at h ⊢
      exact sign_self h
/-- A text that is a token by itself: is it one ahead of others? That hangs on the next byte alone. -/
theorem tx_app {t q q' : ByteArray} (h : tx t = t) (ht : 0 < t.size) (hq : 0 < q.size) (hq' : 0 < q'.size) (hb : byteAt q 0 = byteAt q' 0) : tx (t ++ q) = t ↔ tx (t ++ q') = t := by
  have e1 : byteAt (t ++ q) 0 = byteAt t 0 := byteAt_app_l (by omega) (by omega)
  have e2 : byteAt (t ++ q') 0 = byteAt t 0 := byteAt_app_l (by omega) (by omega)
  unfold tx at h ⊢
  rw [e1, e2]
  have hw : ∀ l, whilF t l = t → (whilF (t ++ q) l = t ↔ whilF (t ++ q') l = t) := fun l hl => by
    have hin : ∀ j : Int, 0 ≤ j → j < t.size → isOfL (byteAt t j) l = true := fun j j0 j1 => (whil_byte j0 (by rw [hl]; exact j1)).2
    cases hc : isOfL (byteAt q 0) l with
    | true => exact ⟨fun e => absurd e (whil_app_no hq hc), fun e => absurd e (whil_app_no hq' (by rw [← hb]; exact hc))⟩
    | false => exact ⟨fun _ => whil_app hin fun _ => by rw [← hb]; exact hc, fun _ => whil_app hin fun _ => hc⟩
  split
  · rename_i h4
    rw [if_pos h4] at h
    exact hw _ h
  · rename_i h4
    rw [if_neg h4] at h
    split
    · rename_i h5
      rw [if_pos h5] at h
      exact hw _ h
    · rw [sign_app_congr ht hq hq' hb]
theorem tx_app_end {t q : ByteArray} (h : tx t = t) (ht : 0 < t.size) (hb : 0 < q.size → byteAt q 0 = 32 ∨ byteAt q 0 = 10 ∨ byteAt q 0 = 37) : tx (t ++ q) = t := by
  have e1 : byteAt (t ++ q) 0 = byteAt t 0 := byteAt_app_l (by omega) (by omega)
  have hcl : 0 < q.size → isOfL (byteAt q 0) [4, 5] = false ∧ isOfL (byteAt q 0) [5] = false ∧ byteAt q 0 ≠ 61 := fun hh => by
    rcases hb hh with e | e | e <;> (rw [e]; decide)
  unfold tx at h ⊢
  rw [e1]
  have hw : ∀ l, whilF t l = t → (0 < q.size → isOfL (byteAt q 0) l = false) → whilF (t ++ q) l = t := fun l hl hc => whil_app (fun j j0 j1 => (whil_byte j0 (by rw [hl]; exact j1)).2) hc
  split
  · rename_i h4
    rw [if_pos h4] at h
    exact hw _ h fun hh => (hcl hh).1
  · rename_i h4
    rw [if_neg h4] at h
    split
    · rename_i h5
      rw [if_pos h5] at h
      exact hw _ h fun hh => (hcl hh).2.1
    · rename_i h5
      rw [if_neg h5] at h
      rw [sign_app_other ht fun hh => (hcl hh).2.2]
      exact h

/-! ### gaps, from what is left -/
theorem gapF_rest {s : ByteArray} {i : Int} (h0 : 0 ≤ i) (h1 : i ≤ s.size) : ∀ (n : Nat) (b : Bool), (n : Int) ≤ s.size - i → gapF s n b = i + gapF (rest s i) n b
  | 0, b, _ => by
    have := rest_size h0 h1
    simp only [gapF]; omega
  | n + 1, b, h => by
    have e := rest_size h0 h1
    have ih := gapF_rest h0 h1 n
    have eb : byteAt (rest s i) (((rest s i).size : Int) - (n + 1 : Nat)) = byteAt s ((s.size : Int) - (n + 1 : Nat)) := by
      rw [rest_byte h0 (by omega) (by omega)]; congr 1; omega
    simp only [gapF]
    rw [eb, ih false (by omega), ih true (by omega)]
    repeat' split
    all_goals first | rfl | omega
def skip (r : ByteArray) : ByteArray := rest r (gap r 0)
theorem gap_rest {s : ByteArray} {i : Int} (h0 : 0 ≤ i) (h1 : i ≤ s.size) : gap s i = i + gap (rest s i) 0 := by
  have e := rest_size h0 h1
  unfold gap
  rw [gapF_rest h0 h1 _ _ (by omega)]
  congr 2; omega
theorem skip_rest {s : ByteArray} {i : Int} (h0 : 0 ≤ i) (h1 : i ≤ s.size) : skip (rest s i) = rest s (gap s i) := by
  have b := gap_bounds (rest s i) 0 (by omega) (by omega)
  have e := rest_size h0 h1
  unfold skip
  rw [gap_rest h0 h1, rest_rest h0 b.1 (by omega)]
theorem skip_step {r : ByteArray} (h : 0 < r.size) : skip r = if byteAt r 0 = 10 ∨ byteAt r 0 = 32 then skip (rest r 1) else if byteAt r 0 = 37 then skip r else r := by
  have e := gapF_step r 0 false (by omega) (by omega)
  have e0 : gap r 0 = gapF r ((r.size : Int) - 0).toNat false := rfl
  have e1 : gap r 1 = gapF r ((r.size : Int) - (0 + 1)).toNat false := rfl
  have er : skip (rest r 1) = rest r (gap r 1) := skip_rest (by omega) (by omega)
  rw [← e0, ← e1] at e
  by_cases c1 : byteAt r 0 = 10
  · rw [if_pos (.inl c1), er]; unfold skip; rw [e, if_pos c1]
  · rw [if_neg c1] at e
    simp only [Bool.false_eq_true, if_false] at e
    by_cases c2 : byteAt r 0 = 32
    · rw [if_pos (.inr c2), er]; unfold skip; rw [e, if_pos c2]
    · rw [if_neg c2] at e
      rw [if_neg (fun h => h.elim c1 c2)]
      by_cases c3 : byteAt r 0 = 37
      · rw [if_pos c3]
      · rw [if_neg c3] at e
        rw [if_neg c3]; unfold skip; rw [e, rest_zero]
theorem skip_nil {r : ByteArray} (h : r.size = 0) : skip r = r := by
  have b := gap_bounds r 0 (by omega) (by omega)
  unfold skip
  rw [show gap r 0 = 0 by omega, rest_zero]

/-! ### tokens, one after the other; with the size of what is left at each -/
abbrev Tk := Int × ByteArray × Int
def Sc : ByteArray → List Tk → Prop
  | r, [] => r.size = 0
  | r, x :: l => 0 < r.size ∧ x.2.2 = r.size ∧ tx r = x.2.1 ∧ kdo (cls (byteAt r 0)) x.2.1 = (x.1, true) ∧ Sc (skip (rest r x.2.1.size)) l
theorem sc_det : ∀ (r : ByteArray) (l m : List Tk), Sc r l → Sc r m → l = m
  | r, [], [], _, _ => rfl
  | r, [], y :: m, h, k => by have h' : r.size = 0 := h; have k' : 0 < r.size := k.1; omega
  | r, x :: l, [], h, k => by have h' : 0 < r.size := h.1; have k' : r.size = 0 := k; omega
  | r, x :: l, y :: m, h, k => by
    obtain ⟨h1, h2, h3, h4, h5⟩ := h
    obtain ⟨k1, k2, k3, k4, k5⟩ := k
    have e2 : x.2.1 = y.2.1 := h3.symm.trans k3
    have e1 : x.1 = y.1 := by rw [← e2, h4] at k4; exact (Prod.mk.inj k4).1
    rw [← e2] at k5
    rw [sc_det _ l m h5 k5]
    congr 1
    exact Prod.ext e1 (Prod.ext e2 (h2.trans k2.symm))
theorem kdo_pos {c : Int} {t : ByteArray} {k : Int} (h : kdo c t = (k, true)) (hc : c = 4 → 0 < t.size) (h5 : c = 5 → 0 < t.size) : 0 < t.size := by
  by_cases h4 : c = 4
  · exact hc h4
  · by_cases h5' : c = 5
    · exact h5 h5'
    · unfold kdo at h
      rw [if_neg h4, if_neg h5'] at h
      have := congrArg Prod.snd h
      simp at this
      have : t.size ≠ 0 := fun e => this (by simpa using e)
      omega
theorem tx_pos {r : ByteArray} {k : Int} (h0 : 0 < r.size) (h : kdo (cls (byteAt r 0)) (tx r) = (k, true)) : 0 < (tx r).size := by
  refine kdo_pos h (fun h4 => ?_) (fun h5 => ?_)
  · unfold tx; rw [if_pos h4]; exact whilF_pos r _ h0 ((isOf_cls _).1.2 (.inl h4))
  · unfold tx; rw [if_neg (by rw [h5]; decide), if_pos h5]; exact whilF_pos r _ h0 ((isOf_cls _).2.2 h5)
end Go.Proofs.Tryd
set_option autoImplicit false
set_option linter.all false
namespace Go.Proofs.Tryd
open Go Go.VM
set_option maxRecDepth 100000

/-! ### scans -/
def tkAt (n : Nat) (x : Tk) : Lx := (x.1, x.2.1, (n : Int) - x.2.2)
theorem scanGo_sc (s : ByteArray) : ∀ (n : Nat) (i : Int) (acc : List Lx), 0 ≤ i → i ≤ s.size → (s.size : Int) - i < n → acc.length ≤ 900 → (scanGo s (s.size + 1) i acc).2.2 = 0 →
    ∃ l, Sc (rest s i) l ∧ acc.length + l.length ≤ 900 ∧ scanGo s (s.size + 1) i acc = (acc ++ l.map (tkAt s.size), 0, 0)
  | 0, i, acc, h0, h1, hn, _, _ => by omega
  | n + 1, i, acc, h0, h1, hn, ha, he => by
    have hz := rest_size h0 h1
    by_cases hlt : i < s.size
    · have ht := tok_tx s i
      rw [scanGo_step s i acc h0 hlt] at he ⊢
      have q1 := tok_size s i h0 hlt
      have q2 := tok_pos s i h0 hlt
      generalize tokF s i = T at *
      obtain ⟨⟨t1, t2, t3⟩, t4⟩ := T
      simp only at he q1 q2 ⊢
      cases t4 with
      | false => simp at he
      | true =>
        simp only [Bool.true_eq_false, if_false] at he ⊢
        have q2 := q2 rfl
        by_cases ha9 : acc.length = 900
        · rw [if_pos ha9] at he; simp at he
        · rw [if_neg ha9] at he ⊢
          have q3 := gap_bounds s (i + t2.size) (by omega) (by omega)
          obtain ⟨l, k1, k2, k3⟩ := scanGo_sc s n (gap s (i + t2.size)) (acc ++ [(t1, t2, t3)]) (by omega) (by omega) (by omega) (by rw [List.length_append]; simp; omega) he
          simp only [Prod.mk.injEq] at ht
          obtain ⟨⟨u1, u2, u3⟩, u4⟩ := ht
          refine ⟨(t1, t2, ((rest s i).size : Int)) :: l, ⟨by omega, rfl, u2.symm, ?_, ?_⟩, ?_, ?_⟩
          · simp only
            rw [u2]
            exact Prod.ext u1.symm u4.symm
          · simp only
            rw [rest_rest h0 (by omega) (by omega), skip_rest (by omega) (by omega)]
            exact k1
          · rw [List.length_append] at k2; simp at k2 ⊢; omega
          · rw [k3, List.append_assoc]
            simp only [List.map_cons, List.singleton_append, tkAt]
            rw [show (s.size : Int) - (rest s i).size = t3 by omega]
    · refine ⟨[], show (rest s i).size = 0 by omega, by simp; omega, ?_⟩
      rw [scanGo_done s i acc _ (by omega)]; simp
theorem sc_scanGo (s : ByteArray) : ∀ (l : List Tk) (i : Int) (acc : List Lx), 0 ≤ i → i ≤ s.size → Sc (rest s i) l → acc.length + l.length ≤ 900 → scanGo s (s.size + 1) i acc = (acc ++ l.map (tkAt s.size), 0, 0)
  | [], i, acc, h0, h1, h, _ => by
    have hz := rest_size h0 h1
    have h' : (rest s i).size = 0 := h
    rw [scanGo_done s i acc _ (by omega)]; simp
  | x :: l, i, acc, h0, h1, h, hl => by
    have hz := rest_size h0 h1
    obtain ⟨k1, k2, k3, k4, k5⟩ := h
    have hlt : i < s.size := by omega
    have ht := tok_tx s i
    rw [k3, k4] at ht
    have q1 := tok_size s i h0 hlt
    rw [scanGo_step s i acc h0 hlt]
    rw [ht] at q1 ⊢
    simp only at q1 ⊢
    simp only [Bool.true_eq_false, if_false]
    rw [List.length_cons] at hl
    rw [if_neg (by omega)]
    have q3 := gap_bounds s (i + x.2.1.size) (by omega) (by omega)
    rw [rest_rest h0 (by omega) (by omega), skip_rest (by omega) (by omega)] at k5
    rw [sc_scanGo s l _ _ (by omega) (by omega) k5 (by rw [List.length_append]; simp; omega), List.append_assoc]
    simp only [List.map_cons, List.singleton_append, tkAt]
    rw [show (s.size : Int) - x.2.2 = i by omega]
theorem scan_ok {s : ByteArray} (h : (scanF s).2.2 = 0) : (chk s).2 = 0 ∧ ∃ l, Sc (skip s) l ∧ l.length ≤ 900 ∧ scanF s = (l.map (tkAt s.size), 0, 0) := by
  unfold scanF at h ⊢
  simp only at h ⊢
  split at h
  · rename_i e; exact absurd h e
  · rename_i e
    have b := gap_bounds s 0 (by omega) (by omega)
    obtain ⟨l, k1, k2, k3⟩ := scanGo_sc s (s.size + 1) (gap s 0) [] b.1 b.2 (by omega) (by simp) h
    exact ⟨Classical.byContradiction e, l, k1, by simpa using k2, by rw [if_neg e, k3]; rfl⟩
theorem sc_scan {s : ByteArray} {l : List Tk} (hc : (chk s).2 = 0) (h : Sc (skip s) l) (hl : l.length ≤ 900) : scanF s = (l.map (tkAt s.size), 0, 0) := by
  have b := gap_bounds s 0 (by omega) (by omega)
  unfold scanF
  simp only
  rw [if_neg (fun e => e hc), sc_scanGo s l (gap s 0) [] b.1 b.2 h (by simpa using hl)]
  rfl

/-! ### texts that are tokens by themselves -/
def Rt (k : Int) (t : ByteArray) : Prop := 0 < t.size ∧ tx t = t ∧ kdo (cls (byteAt t 0)) t = (k, true)
theorem Rt.byte {k : Int} {t : ByteArray} (h : Rt k t) {j : Int} (j0 : 0 ≤ j) (j1 : j < t.size) : byteAt t j ≠ 32 ∧ byteAt t j ≠ 10 ∧ byteAt t j ≠ 37 := by
  have := tx_byte (r := t) j0 (by rw [h.2.1]; exact j1)
  rw [h.2.1] at this
  exact this
theorem Rt.skip {k : Int} {t q : ByteArray} (h : Rt k t) : skip (t ++ q) = t ++ q := by
  have h0 := h.1
  have e := app_size t q
  obtain ⟨b1, b2, b3⟩ := h.byte (j := 0) (by omega) (by omega)
  rw [skip_step (by omega), byteAt_app_l (by omega) (by omega), if_neg (fun hh => hh.elim b2 b1), if_neg b3]
theorem Rt.right {k : Int} {t : ByteArray} (h : Rt k t) (p : Int) : isRightF (k, t, p) = true := by
  obtain ⟨h0, h1, h2⟩ := h
  have hb := Rt.byte ⟨h0, h1, h2⟩ (j := 0) (by omega) (by omega)
  have hg : ¬ 0 < gap t 0 := fun hh => by
    rcases (gap_zero t h0).1 hh with e | e | e
    · exact hb.1 e
    · exact hb.2.1 e
    · exact hb.2.2 e
  have ht := tok_tx t 0
  rw [rest_zero, h1, h2] at ht
  have hk : kindF t = (k, 0) := by
    unfold kindF
    rw [if_neg (fun hh => hh.elim (by omega) hg), ht]
    simp
  unfold isRightF
  rw [hk]; simp
theorem right_rt {x : Lx} (h : isRightF x = true) : Rt x.1 x.2.1 := by
  obtain ⟨h1, h2, h3, h4⟩ := right_tok h
  have ht := tok_tx x.2.1 0
  rw [rest_zero] at ht
  rw [ht] at h2 h3 h4
  simp only at h2 h3 h4
  exact ⟨h1, h3, by rw [h3] at h2 h4; exact Prod.ext h4 h2⟩
theorem sc_rt {r : ByteArray} {x : Tk} {l : List Tk} (h : Sc r (x :: l)) : Rt x.1 x.2.1 := by
  obtain ⟨k1, k2, k3, k4, k5⟩ := h
  have hp : 0 < (tx r).size := tx_pos k1 (by rw [k3]; exact k4)
  have hb : byteAt (tx r) 0 = byteAt r 0 := (tx_pre r).2 0 (by omega) (by omega)
  have hs := tx_self hp
  rw [k3] at hp hs hb
  exact ⟨hp, hs, by rw [hb]; exact k4⟩
theorem sc_all : ∀ (l : List Tk) (r : ByteArray), Sc r l → ∀ x ∈ l, Rt x.1 x.2.1
  | [], _, _, x, hx => by simp at hx
  | y :: l, r, h, x, hx => by
    rcases List.mem_cons.1 hx with rfl | hx
    · exact sc_rt h
    · exact sc_all l _ h.2.2.2.2 x hx
theorem need_tx {a b : Lx} (ha : Rt a.1 a.2.1) : needF a b = decide (tx (a.2.1 ++ b.2.1) ≠ a.2.1) := by
  obtain ⟨h0, h1, h2⟩ := ha
  unfold needF
  have ht := tok_tx (a.2.1 ++ b.2.1) 0
  rw [rest_zero, byteAt_app_l (by omega) (by omega)] at ht
  rw [ht]
  simp only
  by_cases hc : tx (a.2.1 ++ b.2.1) = a.2.1
  · rw [hc, h2]; simp
  · simp [hc]

/-! ### joined texts -/
def bareR : Lx → List Lx → ByteArray
  | _, [] => ByteArray.empty
  | p, t :: r => (if needF p t then blank ++ t.2.1 else t.2.1) ++ bareR t r
theorem bareGo_R : ∀ (r : List Lx) (p : Lx) (acc : ByteArray), bareGo (some p) r acc = acc ++ bareR p r
  | [], p, acc => by simp [bareGo, bareR]
  | t :: r, p, acc => by
    unfold bareGo bareR
    rw [bareGo_R r t]
    split <;> simp [ByteArray.append_assoc]
theorem bareF_cons (t : Lx) (r : List Lx) : bareF (t :: r) = t.2.1 ++ bareR t r := by
  unfold bareF
  show bareGo (some t) r (ByteArray.empty ++ t.2.1) = _
  rw [bareGo_R]; simp
def kt (x : Lx) : Int × ByteArray := (x.1, x.2.1)
def kt' (x : Tk) : Int × ByteArray := (x.1, x.2.1)
theorem blank_size : blank.size = 1 := rfl
theorem blank_byte : byteAt blank 0 = 32 := by decide +kernel
theorem skip_blank {q : ByteArray} : skip (blank ++ q) = skip q := by
  have e := app_size blank q
  rw [blank_size] at e
  rw [skip_step (by omega), byteAt_app_l (by omega) (by rw [blank_size]; omega), blank_byte, if_pos (.inr rfl)]
  have := rest_app (t := blank) (q := q)
  rw [blank_size] at this
  rw [show ((1 : Nat) : Int) = 1 from rfl] at this
  rw [this]
theorem bare_sc : ∀ (l : List Lx) (x : Lx), Rt x.1 x.2.1 → (∀ y ∈ l, Rt y.1 y.2.1) → ∃ m, Sc (x.2.1 ++ bareR x l) m ∧ m.map kt' = (x :: l).map kt
  | [], x, hx, _ => by
    obtain ⟨h0, h1, h2⟩ := hx
    refine ⟨[(x.1, x.2.1, (x.2.1.size : Int))], ?_, rfl⟩
    have e : x.2.1 ++ bareR x [] = x.2.1 := by simp [bareR]
    rw [e]
    refine ⟨h0, rfl, h1, h2, ?_⟩
    simp only
    have hz : (rest x.2.1 x.2.1.size).size = 0 := by have := rest_size (s := x.2.1) (i := x.2.1.size) (by omega) (by omega); omega
    rw [skip_nil hz]
    exact hz
  | y :: l, x, hx, hl => by
    obtain ⟨m, k1, k2⟩ := bare_sc l y (hl y (by simp)) fun z hz => hl z (by simp [hz])
    have hy := hl y (by simp)
    have hy0 := hy.1
    obtain ⟨h0, h1, h2⟩ := hx
    refine ⟨(x.1, x.2.1, ((x.2.1 ++ bareR x (y :: l)).size : Int)) :: m, ?_, by simp only [List.map_cons, k2]; rfl⟩
    have e := app_size x.2.1 (bareR x (y :: l))
    have eB := app_size y.2.1 (bareR y l)
    have hb0 : byteAt (x.2.1 ++ bareR x (y :: l)) 0 = byteAt x.2.1 0 := byteAt_app_l (by omega) (by omega)
    refine ⟨by omega, rfl, ?_, by rw [hb0]; exact h2, ?_⟩
    · simp only
      unfold bareR
      split
      · exact tx_app_end h1 h0 fun _ => by
          rw [ByteArray.append_assoc, byteAt_app_l (by omega) (by rw [blank_size]; omega), blank_byte]; exact .inl rfl
      · rename_i hn
        have hn' : tx (x.2.1 ++ y.2.1) = x.2.1 := by
          rw [need_tx ⟨h0, h1, h2⟩] at hn
          simpa using hn
        exact (tx_app h1 h0 hy0 (by omega) (byteAt_app_l (by omega) (by omega)).symm).1 hn'
    · simp only
      rw [rest_app]
      unfold bareR
      split
      · rw [ByteArray.append_assoc, skip_blank, hy.skip]; exact k1
      · rw [hy.skip]; exact k1
theorem bare_len : ∀ (l : List Lx) (x : Lx) (r : ByteArray) (m : List Tk), Sc r m → m.map kt' = (x :: l).map kt → (x.2.1 ++ bareR x l).size ≤ r.size
  | [], x, r, m, h, hm => by
    match m, h, hm with
    | [], h, hm => simp at hm
    | a :: m, h, hm =>
      simp only [List.map_cons, List.cons.injEq] at hm
      have e2 : a.2.1 = x.2.1 := (Prod.mk.inj hm.1).2
      have := (tx_pre r).1
      rw [h.2.2.1, e2] at this
      simp [bareR]; omega
  | y :: l, x, r, m, h, hm => by
    match m, h, hm with
    | [], h, hm => simp at hm
    | [a], h, hm => simp at hm
    | a :: b :: m, h, hm =>
      simp only [List.map_cons, List.cons.injEq] at hm
      have e1 : a.1 = x.1 := (Prod.mk.inj hm.1).1
      have e2 : a.2.1 = x.2.1 := (Prod.mk.inj hm.1).2
      have hRa := sc_rt h
      obtain ⟨k1, k2, k3, k4, k5⟩ := h
      have hRb := sc_rt k5
      have f2 : b.2.1 = y.2.1 := (Prod.mk.inj hm.2.1).2
      have ih := bare_len l y _ (b :: m) k5 (by simp only [List.map_cons]; rw [hm.2.1, hm.2.2])
      rw [e1, e2] at hRa
      rw [f2] at hRb
      have hk3 := k3
      rw [e2] at k3 ih
      have hpre := (tx_pre r).1
      rw [k3] at hpre
      have hq := rest_size (s := r) (i := x.2.1.size) (by omega) (by omega)
      have hg := gap_bounds (rest r x.2.1.size) 0 (by omega) (by omega)
      have hsz := rest_size (s := rest r x.2.1.size) (i := gap (rest r x.2.1.size) 0) hg.1 hg.2
      have eR := app_size x.2.1 (bareR x (y :: l))
      have eY := app_size y.2.1 (bareR y l)
      unfold bareR at eR ⊢
      rw [app_size, app_size]
      split
      · rename_i hn
        rw [app_size, blank_size]
        have hgap : 0 < gap (rest r x.2.1.size) 0 := by
          refine Classical.byContradiction fun hc => ?_
          have hz : skip (rest r x.2.1.size) = rest r x.2.1.size := by
            unfold skip; rw [show gap (rest r x.2.1.size) 0 = 0 by omega, rest_zero]
          rw [e2, hz] at k5
          have hb := (tx_pre (rest r x.2.1.size)).2 0 (by omega) (by rw [k5.2.2.1, f2]; have := hRb.1; omega)
          rw [k5.2.2.1, f2] at hb
          have hspl := split_rest r x.2.1.size (by omega) (by omega)
          have hx : r.extract 0 ((x.2.1.size : Int)).toNat = x.2.1 := by
            have ez := ext_size r 0 ((x.2.1.size : Int)).toNat
            refine ba_ext2 (by omega) fun j j0 j1 => ?_
            rw [byteAt_ext j0 (by omega)]
            have := (tx_pre r).2 j j0 (by rw [k3]; omega)
            rw [k3] at this
            rw [this]; congr 1; omega
          rw [hx] at hspl
          have hRb0 := hRb.1
          have hq0 := k5.1
          have : tx (x.2.1 ++ y.2.1) = x.2.1 := (tx_app hRa.2.1 hRa.1 hRb0 hq0 hb).2 (by rw [← hspl]; exact k3)
          rw [need_tx hRa] at hn
          simp [this] at hn
        unfold skip at ih
        omega
      · unfold skip at ih
        omega

/-! ### a byte less -/
def del (r : ByteArray) (d : Int) : ByteArray := r.extract 0 d.toNat ++ rest r (d + 1)
theorem del_size {r : ByteArray} {d : Int} (h0 : 0 ≤ d) (h1 : d < r.size) : ((del r d).size : Int) = r.size - 1 := by
  unfold del
  have := rest_size (s := r) (i := d + 1) (by omega) (by omega)
  rw [app_size, ext_size]; omega
theorem del_byte {r : ByteArray} {d j : Int} (h0 : 0 ≤ d) (h1 : d < r.size) (j0 : 0 ≤ j) (j1 : j < r.size - 1) : byteAt (del r d) j = if j < d then byteAt r j else byteAt r (j + 1) := by
  have e1 := rest_size (s := r) (i := d + 1) (by omega) (by omega)
  have e2 := ext_size r 0 d.toNat
  unfold del
  split
  · rw [byteAt_app_l j0 (by omega), byteAt_ext j0 (by omega)]
    congr 1; omega
  · rw [byteAt_app_r (by omega) (by omega), rest_byte (by omega) (by omega) (by omega)]
    congr 1; omega
theorem del_app {t q : ByteArray} {d : Int} (h0 : t.size ≤ d) (h1 : d < t.size + q.size) : del (t ++ q) d = t ++ del q (d - t.size) := by
  have e := app_size t q
  have s1 := del_size (r := t ++ q) (d := d) (by omega) (by omega)
  have s2 := del_size (r := q) (d := d - t.size) (by omega) (by omega)
  have s3 := app_size t (del q (d - t.size))
  refine ba_ext2 (by omega) fun j j0 j1 => ?_
  rw [del_byte (by omega) (by omega) j0 (by omega)]
  by_cases c : j < t.size
  · rw [if_pos (by omega), byteAt_app_l j0 c, byteAt_app_l j0 c]
  · rw [byteAt_app_r (t := del q (d - t.size)) (by omega) (by omega), del_byte (by omega) (by omega) (by omega) (by omega)]
    by_cases c2 : j < d
    · rw [if_pos c2, if_pos (by omega), byteAt_app_r (by omega) (by omega)]
    · rw [if_neg c2, if_neg (by omega), byteAt_app_r (by omega) (by omega)]
      congr 1; omega
theorem skip_id {u : ByteArray} (h0 : 0 < u.size) (h1 : byteAt u 0 ≠ 32) (h2 : byteAt u 0 ≠ 10) (h3 : byteAt u 0 ≠ 37) : skip u = u := by
  rw [skip_step h0, if_neg (fun hh => hh.elim h2 h1), if_neg h3]
theorem Rt.skip_del {k : Int} {t q : ByteArray} (h : Rt k t) {d : Int} (h0 : 0 < d) (h1 : d < t.size + q.size) : Tryd.skip (del (t ++ q) d) = del (t ++ q) d := by
  have e := app_size t q
  have ht := h.1
  have s1 := del_size (r := t ++ q) (d := d) (by omega) (by omega)
  obtain ⟨b1, b2, b3⟩ := h.byte (j := 0) (by omega) (by omega)
  have hb : byteAt (del (t ++ q) d) 0 = byteAt t 0 := by
    rw [del_byte (by omega) (by omega) (by omega) (by omega), if_pos h0, byteAt_app_l (by omega) (by omega)]
  exact skip_id (by omega) (by rw [hb]; exact b1) (by rw [hb]; exact b2) (by rw [hb]; exact b3)
theorem del_blank {q : ByteArray} : del (blank ++ q) 0 = q := by
  have := rest_app (t := blank) (q := q)
  rw [blank_size, show ((1 : Nat) : Int) = 1 from rfl] at this
  unfold del
  rw [show (0 : Int) + 1 = 1 by omega, this]; simp
theorem bare_del : ∀ (l : List Lx) (x : Lx), Rt x.1 x.2.1 → (∀ y ∈ l, Rt y.1 y.2.1) → ∀ d : Int, 0 ≤ d → d < (x.2.1 ++ bareR x l).size → byteAt (x.2.1 ++ bareR x l) d = 32 → ∀ m, Sc (del (x.2.1 ++ bareR x l) d) m → m.map kt' = (x :: l).map kt → False
  | [], x, hx, _, d, d0, d1, hd, _, _, _ => by
    have e : x.2.1 ++ bareR x [] = x.2.1 := by simp [bareR]
    rw [e] at d1 hd
    exact (hx.byte d0 d1).1 hd
  | y :: l, x, hx, hl, d, d0, d1, hd, m, hs, hm => by
    match m, hs, hm with
    | [], _, hm => simp at hm
    | a :: m, hs, hm =>
      simp only [List.map_cons, List.cons.injEq] at hm
      have e2 : a.2.1 = x.2.1 := (Prod.mk.inj hm.1).2
      have hy := hl y (by simp)
      have hy0 := hy.1
      have ih := bare_del l y hy fun z hz => hl z (by simp [hz])
      have hx0 := hx.1
      have hdt : (x.2.1.size : Int) ≤ d := by
        refine Classical.byContradiction fun hc => ?_
        rw [byteAt_app_l d0 (by omega)] at hd
        exact (hx.byte d0 (by omega)).1 hd
      have eA := app_size x.2.1 (bareR x (y :: l))
      have eY := app_size y.2.1 (bareR y l)
      rw [byteAt_app_r (by omega) (by omega)] at hd
      rw [del_app hdt (by omega)] at hs
      obtain ⟨k1, k2, k3, k4, k5⟩ := hs
      rw [e2] at k3 k5
      rw [rest_app] at k5
      have hm2 : m.map kt' = (y :: l).map kt := by rw [List.map_cons]; exact hm.2
      have hfirst : byteAt (y.2.1 ++ bareR y l) 0 ≠ 32 := by
        rw [byteAt_app_l (by omega) (by omega)]; exact (hy.byte (by omega) (by omega)).1
      by_cases hn : needF x y = true
      · have hq : bareR x (y :: l) = blank ++ (y.2.1 ++ bareR y l) := by
          conv => lhs; unfold bareR
          rw [if_pos hn, ByteArray.append_assoc]
        rw [hq] at hd k3 k5 d1 eA
        have eQ := app_size blank (y.2.1 ++ bareR y l)
        rw [blank_size] at eQ
        by_cases hd0 : d = x.2.1.size
        · rw [show d - (x.2.1.size : Int) = 0 by omega, del_blank] at k3
          have : tx (x.2.1 ++ y.2.1) = x.2.1 := (tx_app hx.2.1 hx0 hy0 (by omega) (byteAt_app_l (by omega) (by omega)).symm).2 k3
          rw [need_tx hx] at hn
          simp [this] at hn
        · rw [byteAt_app_r (by rw [blank_size]; omega) (by rw [blank_size]; omega), blank_size] at hd
          rw [del_app (by rw [blank_size]; omega) (by rw [blank_size]; omega), skip_blank, blank_size] at k5
          have hpos : 0 < d - (x.2.1.size : Int) - (1 : Nat) := by
            refine Classical.byContradiction fun hc => ?_
            rw [show d - (x.2.1.size : Int) - (1 : Nat) = 0 by omega] at hd
            exact hfirst hd
          rw [hy.skip_del hpos (by omega)] at k5
          exact ih _ (by omega) (by omega) hd m k5 hm2
      · have hq : bareR x (y :: l) = y.2.1 ++ bareR y l := by
          conv => lhs; unfold bareR
          rw [if_neg hn]
        rw [hq] at hd k3 k5 d1 eA
        have hpos : 0 < d - (x.2.1.size : Int) := by
          refine Classical.byContradiction fun hc => ?_
          rw [show d - (x.2.1.size : Int) = 0 by omega] at hd
          exact hfirst hd
        rw [hy.skip_del hpos (by omega)] at k5
        exact ih _ (by omega) (by omega) hd m k5 hm2

/-! ### bytes that may be -/
def OkB (s : ByteArray) : Prop := ∀ j : Int, 0 ≤ j → j < s.size → badB (byteAt s j) = false
theorem okB_app {s t : ByteArray} (h : OkB s) (k : OkB t) : OkB (s ++ t) := fun j j0 j1 => by
  have e := app_size s t
  by_cases c : j < s.size
  · rw [byteAt_app_l j0 c]; exact h j j0 c
  · rw [byteAt_app_r (by omega) (by omega)]; exact k _ (by omega) (by omega)
theorem signs_bytes : ∀ x ∈ signsL, badB (byteAt x 0) = false ∧ (x.size = 2 → badB (byteAt x 1) = false) := by decide +kernel
theorem Rt.okB {k : Int} {t : ByteArray} (h : Rt k t) : OkB t := fun j j0 j1 => by
  have hc : ∀ b : Int, cls b = 4 ∨ cls b = 5 → badB b = false := fun b hb => by
    rcases hb with hb | hb
    · rw [cls4] at hb
      unfold isLet at hb
      unfold badB
      simp only [Bool.and_eq_true, decide_eq_true_eq] at hb
      simp; omega
    · rw [cls5] at hb
      unfold isDig at hb
      unfold badB
      simp only [Bool.and_eq_true, decide_eq_true_eq] at hb
      simp; omega
  obtain ⟨h0, h1, h2⟩ := h
  have ht := h1
  unfold tx at ht
  split at ht
  · exact hc _ ((isOf_cls _).1.1 (whil_byte j0 (by rw [ht]; exact j1)).2)
  · split at ht
    · exact hc _ (.inr ((isOf_cls _).2.1 (whil_byte j0 (by rw [ht]; exact j1)).2))
    · obtain ⟨hm, _⟩ := sign_mem (r := t) (by rw [ht]; exact h0)
      rw [ht] at hm
      obtain ⟨k1, k2, _⟩ := signs_of _ hm
      obtain ⟨b0, b1⟩ := signs_bytes _ hm
      by_cases hj : j = 0
      · rw [hj]; exact b0
      · rw [show j = 1 by omega]; exact b1 (by omega)
theorem okB_blank : OkB blank := fun j j0 j1 => by
  rw [blank_size] at j1
  rw [show j = 0 by omega, blank_byte]; decide
theorem bareR_okB : ∀ (l : List Lx) (x : Lx), (∀ y ∈ l, Rt y.1 y.2.1) → OkB (bareR x l)
  | [], x, _ => fun j j0 j1 => by simp [bareR] at j1; omega
  | y :: l, x, hl => by
    unfold bareR
    refine okB_app ?_ (bareR_okB l y fun z hz => hl z (by simp [hz]))
    split
    · exact okB_app okB_blank (hl y (by simp)).okB
    · exact (hl y (by simp)).okB
theorem ckF_all {s : ByteArray} (h : OkB s) : ∀ n : Nat, n ≤ s.size → ckF s n = (0, 0)
  | 0, _ => rfl
  | n + 1, hn => by
    simp only [ckF]
    rw [h _ (by omega) (by omega)]
    simp only [Bool.false_eq_true, if_false]
    exact ckF_all h n (by omega)
theorem chk_okB {s : ByteArray} (hz : s.size ≤ 2500) (h : OkB s) : (chk s).2 = 0 := by
  unfold chk
  rw [if_neg (by omega), ckF_all h _ (Nat.le_refl _)]

/-! ### the law -/
theorem sc_length : ∀ (l : List Tk) (r : ByteArray), Sc r l → l.length ≤ r.size
  | [], _, _ => by simp
  | x :: l, r, h => by
    have hr := sc_rt h
    have hr0 := hr.1
    obtain ⟨k1, k2, k3, k4, k5⟩ := h
    have ih := sc_length l _ k5
    have hp := (tx_pre r).1
    rw [k3] at hp
    have h1 := rest_size (s := r) (i := x.2.1.size) (by omega) (by omega)
    have b := gap_bounds (rest r x.2.1.size) 0 (by omega) (by omega)
    have h2 := rest_size (s := rest r x.2.1.size) (i := gap (rest r x.2.1.size) 0) b.1 b.2
    unfold skip at ih
    simp only [List.length_cons]
    omega
theorem skip_size (s : ByteArray) : (skip s).size ≤ s.size := by
  have b := gap_bounds s 0 (by omega) (by omega)
  have := rest_size (s := s) b.1 b.2
  unfold skip
  omega
theorem alike_iff (a b : List Lx) : alikeF a b = true ↔ a.map kt = b.map kt := by
  unfold alikeF
  rw [decide_eq_true_iff]
  exact Iff.rfl
theorem map_kt (n : Nat) (l : List Tk) : (l.map (tkAt n)).map kt = l.map kt' := by
  rw [List.map_map]; rfl
theorem again {s : ByteArray} (h : (scanF s).2.2 = 0) (hs : s.size ≤ 300) :
    (scanF s).1.length ≤ s.size ∧ joinF (scanF s).1 = (bareF (scanF s).1, 0) ∧ (bareF (scanF s).1).size ≤ s.size ∧ (scanF (bareF (scanF s).1)).2.2 = 0 ∧ alikeF (scanF s).1 (scanF (bareF (scanF s).1)).1 = true ∧
    ∀ i : Int, 0 ≤ i → i < (bareF (scanF s).1).size → byteAt (bareF (scanF s).1) i = 32 → (scanF (del (bareF (scanF s).1) i)).2.2 = 0 → alikeF (scanF s).1 (scanF (del (bareF (scanF s).1) i)).1 = false := by
  obtain ⟨hc, l, k1, k2, k3⟩ := scan_ok h
  rw [k3]
  simp only
  have hsk := skip_size s
  have hlen := sc_length l _ k1
  have hR := sc_all l _ k1
  have hmap := map_kt s.size l
  have hRx : ∀ x ∈ l.map (tkAt s.size), Rt x.1 x.2.1 := fun x hx => by
    obtain ⟨y, hy, rfl⟩ := List.mem_map.1 hx
    exact hR y hy
  have hlm : (l.map (tkAt s.size)).length = l.length := by simp
  generalize l.map (tkAt s.size) = L at *
  have hlen' : L.length ≤ s.size := by omega
  cases L with
  | nil =>
    have e0 : bareF [] = ByteArray.empty := rfl
    rw [e0]
    have ez : ByteArray.empty.size = 0 := rfl
    have hsc : scanF ByteArray.empty = (([] : List Tk).map (tkAt ByteArray.empty.size), 0, 0) := sc_scan (by decide +kernel) (show Sc (skip ByteArray.empty) [] by rw [skip_nil ez]; exact ez) (by simp)
    refine ⟨by simp, ?_, by rw [ez]; omega, by rw [hsc], by rw [hsc]; rfl, fun i i0 i1 => by rw [ez] at i1; omega⟩
    unfold joinF; simp [e0]
  | cons x L =>
    have hx := hRx x (by simp)
    have hL : ∀ y ∈ L, Rt y.1 y.2.1 := fun y hy => hRx y (by simp [hy])
    rw [bareF_cons]
    have hsz := bare_len L x _ l k1 hmap.symm
    have hok : OkB (x.2.1 ++ bareR x L) := okB_app hx.okB (bareR_okB L x hL)
    obtain ⟨m, m1, m2⟩ := bare_sc L x hx hL
    have hml := sc_length m _ m1
    have hck := chk_okB (by omega) hok
    have hsc := sc_scan hck (by rw [hx.skip]; exact m1) (by omega)
    have hall : (x :: L).all isRightF = true := List.all_eq_true.2 fun y hy => (hRx y hy).right y.2.2
    refine ⟨hlen', ?_, by omega, by rw [hsc], ?_, fun i i0 i1 hi he => ?_⟩
    · rw [join_ok (by omega) hall (by rw [bareF_cons]; omega), bareF_cons]
    · rw [hsc, alike_iff, map_kt, m2]
    · obtain ⟨_, n, n1, n2, n3⟩ := scan_ok he
      have hx0 := hx.1
      have hi0 : 0 < i := by
        refine Classical.byContradiction fun hn => ?_
        rw [show i = 0 by omega, byteAt_app_l (by omega) (by omega)] at hi
        exact (hx.byte (by omega) (by omega)).1 hi
      have e := app_size x.2.1 (bareR x L)
      rw [hx.skip_del hi0 (by omega)] at n1
      cases ha : alikeF (x :: L) (scanF (del (x.2.1 ++ bareR x L) i)).1 with
      | false => rfl
      | true =>
        rw [n3, alike_iff, map_kt] at ha
        exact (bare_del L x hx hL i i0 i1 hi n n1 ha.symm).elim
end Go.Proofs.Tryd
