/-
  The linext layer: chains in plain terms.
-/
import Derived.Test.YtiokmglajigngaaVM30
namespace Go.Proofs.Ytiokmglajigngaa
open Go Go.Proofs.Ytiokmglajigngaa.Sx
theorem triP_mem {a b n : Nat} {x : Pq} : x ∈ triP a b n ↔ ∃ i : Nat, i < n ∧ i ≠ 0 ∧ i ≠ a ∧ i ≠ a + b ∧ x = ((i : Int) - 1, (i : Int)) := by
  induction n with
  | zero => simp [triP]
  | succ n ih =>
    rw [triP, List.mem_append, ih]
    constructor
    · rintro (⟨i, h1, h2⟩ | h)
      · exact ⟨i, by omega, h2⟩
      · cases hc : (Nat.beq n 0 || Nat.beq n a || Nat.beq n (a + b)) <;> rw [hc] at h
        · simp only [Bool.or_eq_false_iff] at hc
          have h1 := Nat.ne_of_beq_eq_false hc.1.1
          have h2 := Nat.ne_of_beq_eq_false hc.1.2
          have h3 := Nat.ne_of_beq_eq_false hc.2
          rw [cond_false] at h
          exact ⟨n, by omega, h1, h2, h3, List.mem_singleton.1 h⟩
        · cases h
    · rintro ⟨i, h1, h2, h3, h4, rfl⟩
      by_cases e : i = n
      · subst e
        right
        rw [natBeq_f h2, natBeq_f h3, natBeq_f h4]
        exact List.mem_singleton.2 rfl
      · exact .inl ⟨i, by omega, h2, h3, h4, rfl⟩
theorem tri_ok {p q N : Nat} (hN : N ≤ 64) : okP (N : Int) (triP p q N) = true := by
  have hv : validF (N : Int) (triP p q N) = true := validF_iff.2 ⟨by omega, by omega, fun x hx => by
    obtain ⟨i, h1, h2, _, _, rfl⟩ := triP_mem.1 hx
    exact ⟨by show (0 : Int) ≤ (i : Int) - 1; omega, by show (i : Int) - 1 < N; omega, by show (0 : Int) ≤ (i : Int); omega, by show (i : Int) < N; omega⟩⟩
  rw [okP, hv, Bool.true_and, acy, acyF, List.all_eq_true]
  have hlt : ∀ (n : Nat) (a b : Int), wF (setF (triP p q N)) n a b = true → a < b := by
    intro n
    induction n with
    | zero =>
      intro a b h
      obtain ⟨i, _, _, _, _, e⟩ := triP_mem.1 (setF_iff.1 h)
      simp only [Prod.mk.injEq] at e
      omega
    | succ n ih =>
      intro a b h
      have h : (wF (setF (triP p q N)) n a b || wF (setF (triP p q N)) n a n && wF (setF (triP p q N)) n n b) = true := h
      rw [Bool.or_eq_true, Bool.and_eq_true] at h
      rcases h with h | ⟨h1, h2⟩
      · exact ih a b h
      · have := ih _ _ h1; have := ih _ _ h2; omega
  intro a _
  cases h : wF (setF (triP p q N)) (N : Int).toNat a a
  · rfl
  · have := hlt _ _ _ h; omega
/-- Which numbers can follow, bit by bit. -/
theorem fr_iff {N : Int} {l : List Pq} {s x : Nat} (hv : validF N l = true) (hs : s < 2 ^ 64) (hx : x < N.toNat) : frR (befL N.toNat l) s x = true ↔ s.testBit x = false ∧ ∀ a : Nat, ((a : Int), (x : Int)) ∈ l → s.testBit a = true := by
  obtain ⟨q1, q2, q3⟩ := validF_iff.1 hv
  have hb := befM_lt (l := l) (x := x) (n := N.toNat) fun p hp => by have := q3 p hp; omega
  have hb64 := lt64 hb (by omega)
  rw [frR, Int.toNat_natCast, wrap_shl (by omega), bits_and hs (one_lt (by omega)), nthD_befL hx, bits_andNot, and_zero, Bool.and_eq_true, Bool.not_eq_true', diff_zero hb64]
  constructor
  · rintro ⟨h1, h2⟩
    exact ⟨h1, fun a ha => h2 a (by rw [befM_bit fun p hp => (q3 p hp).1]; exact setF_iff.2 ha)⟩
  · rintro ⟨h1, h2⟩
    exact ⟨h1, fun i hi => h2 i (by rw [befM_bit fun p hp => (q3 p hp).1] at hi; exact setF_iff.1 hi)⟩

/-! ### The downsets of three chains -/
def shI (p n : Nat) : List Int := (List.range n).map (fun i : Nat => ((p + i : Nat) : Int))
def mk3 (p q i j k : Nat) : Nat := maskM (shI 0 i ++ shI p j ++ shI (p + q) k)
theorem shI_mem {p n y : Nat} : hasI (shI p n) y = true ↔ p ≤ y ∧ y < p + n := by
  rw [hasI_iff, shI, List.mem_map]
  constructor
  · rintro ⟨i, hi, e⟩; have := List.mem_range.1 hi; omega
  · rintro ⟨h1, h2⟩; exact ⟨y - p, List.mem_range.2 (by omega), by omega⟩
theorem hasI_app2 {a b : List Int} {x : Int} : hasI (a ++ b) x = (hasI a x || hasI b x) := by simp [hasI]
theorem shI_pos {p n : Nat} : ∀ x ∈ shI p n, 0 ≤ x := fun x hx => by
  obtain ⟨i, _, rfl⟩ := List.mem_map.1 hx; omega
theorem mk3_bit {p q i j k y : Nat} : (mk3 p q i j k).testBit y = true ↔ y < i ∨ (p ≤ y ∧ y < p + j) ∨ (p + q ≤ y ∧ y < p + q + k) := by
  rw [mk3, maskM_bit fun x hx => by
    rcases List.mem_append.1 hx with h | h
    · rcases List.mem_append.1 h with h | h
      · exact shI_pos x h
      · exact shI_pos x h
    · exact shI_pos x h]
  rw [hasI_app2, hasI_app2, Bool.or_eq_true, Bool.or_eq_true, shI_mem, shI_mem, shI_mem]
  omega
theorem mk3_lt {p q i j k n : Nat} (hi : i ≤ p) (hj : j ≤ q) (hk : p + q + k ≤ n) : mk3 p q i j k < 2 ^ n := by
  apply Nat.lt_pow_two_of_testBit
  intro y hy
  rw [Bool.eq_false_iff]
  intro h
  have := mk3_bit.1 h
  omega
theorem mk3_ext {p q i j k m : Nat} (h : ∀ y, m.testBit y = true ↔ y < i ∨ (p ≤ y ∧ y < p + j) ∨ (p + q ≤ y ∧ y < p + q + k)) : m = mk3 p q i j k := by
  apply Nat.eq_of_testBit_eq
  intro y
  rw [Bool.eq_iff_iff, h y, mk3_bit]
theorem mk3_zero {p q : Nat} : mk3 p q 0 0 0 = 0 := (mk3_ext fun y => by rw [Nat.zero_testBit]; simp).symm
theorem or_pow_bit {s x y : Nat} : (s ||| 2 ^ x).testBit y = true ↔ s.testBit y = true ∨ y = x := by
  rw [← shl_pow, or_bit, Bool.or_eq_true, decide_eq_true_eq]
theorem mk3_i {p q i j k : Nat} (h : i < p) : mk3 p q i j k ||| 2 ^ i = mk3 p q (i + 1) j k := mk3_ext fun y => by rw [or_pow_bit, mk3_bit]; omega
theorem mk3_j {p q i j k : Nat} (h : j < q) : mk3 p q i j k ||| 2 ^ (p + j) = mk3 p q i (j + 1) k := mk3_ext fun y => by rw [or_pow_bit, mk3_bit]; omega
theorem mk3_k {p q i j k : Nat} : mk3 p q i j k ||| 2 ^ (p + q + k) = mk3 p q i j (k + 1) := mk3_ext fun y => by rw [or_pow_bit, mk3_bit]; omega
theorem mk3_inj {p q i j k i' j' k' : Nat} (hi : i ≤ p) (hi' : i' ≤ p) (hj : j ≤ q) (hj' : j' ≤ q) (h : mk3 p q i j k = mk3 p q i' j' k') : i = i' ∧ j = j' ∧ k = k' := by
  have key : ∀ y, (y < i ∨ (p ≤ y ∧ y < p + j) ∨ (p + q ≤ y ∧ y < p + q + k)) ↔ (y < i' ∨ (p ≤ y ∧ y < p + j') ∨ (p + q ≤ y ∧ y < p + q + k')) := fun y => by rw [← mk3_bit, ← mk3_bit, h]
  refine ⟨?_, ?_, ?_⟩
  · refine Classical.byContradiction fun hne => ?_
    rcases Nat.lt_or_gt_of_ne hne with h | h
    · have := key i; omega
    · have := key i'; omega
  · refine Classical.byContradiction fun hne => ?_
    rcases Nat.lt_or_gt_of_ne hne with h | h
    · have := key (p + j); omega
    · have := key (p + j'); omega
  · refine Classical.byContradiction fun hne => ?_
    rcases Nat.lt_or_gt_of_ne hne with h | h
    · have := key (p + q + k); omega
    · have := key (p + q + k'); omega
/-- What can follow in three chains. -/
theorem tri_fr {p q r i j k x : Nat} (hN : p + q + r ≤ 64) (hi : i ≤ p) (hj : j ≤ q) (hk : k ≤ r) (hx : x < p + q + r) :
    frR (befL (p + q + r) (triP p q (p + q + r))) (mk3 p q i j k) x = true ↔ (x = i ∧ i < p) ∨ (x = p + j ∧ j < q) ∨ (x = p + q + k ∧ k < r) := by
  have hok := tri_ok (p := p) (q := q) hN
  have hv : validF ((p + q + r : Nat) : Int) (triP p q (p + q + r)) = true := by rw [okP, Bool.and_eq_true] at hok; exact hok.1
  have h64 := lt64 (mk3_lt hi hj (show p + q + k ≤ p + q + r by omega)) hN
  have e := fr_iff (s := mk3 p q i j k) (x := x) hv h64 hx
  have e2 : ((p + q + r : Nat) : Int).toNat = p + q + r := Int.toNat_natCast _
  rw [e2] at e
  rw [e, Bool.eq_false_iff, ne_eq, mk3_bit]
  have hall : (∀ a : Nat, ((a : Int), (x : Int)) ∈ triP p q (p + q + r) → (mk3 p q i j k).testBit a = true) ↔ ((x ≠ 0 ∧ x ≠ p ∧ x ≠ p + q) → (x - 1 < i ∨ (p ≤ x - 1 ∧ x - 1 < p + j) ∨ (p + q ≤ x - 1 ∧ x - 1 < p + q + k))) := by
    constructor
    · rintro h ⟨h0, h1, h2⟩
      rw [← mk3_bit]
      exact h (x - 1) (triP_mem.2 ⟨x, hx, h0, h1, h2, by rw [show ((x - 1 : Nat) : Int) = (x : Int) - 1 by omega]⟩)
    · intro h a ha
      obtain ⟨y, h1, h2, h3, h4, e⟩ := triP_mem.1 ha
      simp only [Prod.mk.injEq] at e
      have hxy : y = x := by omega
      subst hxy
      have : a = y - 1 := by omega
      rw [this, mk3_bit]
      exact h ⟨h2, h3, h4⟩
  rw [hall]
  omega
theorem tri_sum {p q r i j k : Nat} {c : Nat → Nat} (hN : p + q + r ≤ 64) (hi : i ≤ p) (hj : j ≤ q) (hk : k ≤ r) : ∀ x, x ≤ p + q + r → sumF (befL (p + q + r) (triP p q (p + q + r))) (mk3 p q i j k) c x =
    (if i < p ∧ i < x then c (mk3 p q (i + 1) j k) else 0) + (if j < q ∧ p + j < x then c (mk3 p q i (j + 1) k) else 0) + (if k < r ∧ p + q + k < x then c (mk3 p q i j (k + 1)) else 0) := by
  intro x
  induction x with
  | zero => intro _; simp [sumF]
  | succ x ih =>
    intro hx
    rw [sumF, ih (by omega)]
    have hf := tri_fr (x := x) hN hi hj hk (by omega)
    by_cases h : frR (befL (p + q + r) (triP p q (p + q + r))) (mk3 p q i j k) x = true
    · rw [h, cond_true]
      rcases hf.1 h with ⟨e, h1⟩ | ⟨e, h1⟩ | ⟨e, h1⟩
      · rw [e, mk3_i h1, if_neg (by omega), if_neg (by omega), if_neg (by omega), if_pos ⟨h1, by omega⟩, if_neg (by omega), if_neg (by omega)]; omega
      · rw [e, mk3_j h1]
        by_cases h2 : i < p
        · rw [if_pos (by omega), if_neg (by omega), if_neg (by omega), if_pos (by omega), if_pos (by omega), if_neg (by omega)]; omega
        · rw [if_neg (by omega), if_neg (by omega), if_neg (by omega), if_neg (by omega), if_pos (by omega), if_neg (by omega)]; omega
      · rw [e, mk3_k]
        by_cases h2 : i < p <;> by_cases h3 : j < q
        · rw [if_pos (by omega), if_pos (by omega), if_neg (by omega), if_pos (by omega), if_pos (by omega), if_pos (by omega)]; omega
        · rw [if_pos (by omega), if_neg (by omega), if_neg (by omega), if_pos (by omega), if_neg (by omega), if_pos (by omega)]
        · rw [if_neg (by omega), if_pos (by omega), if_neg (by omega), if_neg (by omega), if_pos (by omega), if_pos (by omega)]; omega
        · rw [if_neg (by omega), if_neg (by omega), if_neg (by omega), if_neg (by omega), if_neg (by omega), if_pos (by omega)]
    · have hno : ¬ ((x = i ∧ i < p) ∨ (x = p + j ∧ j < q) ∨ (x = p + q + k ∧ k < r)) := fun h2 => h (hf.2 h2)
      rw [Bool.eq_false_iff.2 h, cond_false, Nat.add_zero]
      have e1 : (i < p ∧ i < x + 1) ↔ (i < p ∧ i < x) := by omega
      have e2 : (j < q ∧ p + j < x + 1) ↔ (j < q ∧ p + j < x) := by omega
      have e3 : (k < r ∧ p + q + k < x + 1) ↔ (k < r ∧ p + q + k < x) := by omega
      simp only [e1, e2, e3]

/-! ### Binomial coefficients -/
theorem cho_zero (n : Nat) : cho n 0 = 1 := by cases n <;> rfl
theorem cho_succ (n k : Nat) : cho (n + 1) (k + 1) = cho n k + cho n (k + 1) := rfl
theorem cho_over : ∀ (n k : Nat), n < k → cho n k = 0 := by
  intro n
  induction n with
  | zero => intro k h; cases k with | zero => omega | succ k => rfl
  | succ n ih =>
    intro k h
    cases k with
    | zero => omega
    | succ k => rw [cho_succ, ih k (by omega), ih (k + 1) (by omega)]
theorem cho_self : ∀ n, cho n n = 1 := by
  intro n
  induction n with
  | zero => rfl
  | succ n ih => rw [cho_succ, ih, cho_over n (n + 1) (by omega)]
/-- The number of ways to merge three chains. -/
def mul3 (a b c : Nat) : Nat := cho (a + b) a * cho (a + b + c) c
theorem mul3_rec {a b c : Nat} (h : 0 < a + b + c) : mul3 a b c = (if 0 < a then mul3 (a - 1) b c else 0) + (if 0 < b then mul3 a (b - 1) c else 0) + (if 0 < c then mul3 a b (c - 1) else 0) := by
  have h2 : ∀ a b : Nat, 0 < a + b → cho (a + b) a = (if 0 < a then cho (a - 1 + b) (a - 1) else 0) + (if 0 < b then cho (a + (b - 1)) a else 0) := by
    intro a b h
    cases a with
    | zero =>
      rw [if_neg (by omega), if_pos (by omega), cho_zero, cho_zero]
    | succ a =>
      rw [if_pos (by omega), show a + 1 + b = (a + b) + 1 by omega, cho_succ, show a + 1 - 1 = a by omega]
      congr 1
      cases b with
      | zero => rw [if_neg (by omega), cho_over _ _ (by omega)]
      | succ b => rw [if_pos (by omega), show a + 1 + (b + 1 - 1) = a + (b + 1) by omega]
  unfold mul3
  by_cases hab : 0 < a + b
  · have e1 := h2 a b hab
    cases c with
    | zero =>
      rw [if_neg (show ¬ 0 < 0 by omega), cho_zero, cho_zero, cho_zero, Nat.mul_one, Nat.mul_one, Nat.mul_one, Nat.add_zero, e1]
    | succ c =>
      rw [if_pos (show 0 < c + 1 by omega), show c + 1 - 1 = c by omega, show a + b + (c + 1) = (a + b + c) + 1 by omega, cho_succ, Nat.mul_add]
      have e2 : cho (a + b) a * cho (a + b + c) (c + 1) = (if 0 < a then cho (a - 1 + b) (a - 1) * cho (a - 1 + b + (c + 1)) (c + 1) else 0) + (if 0 < b then cho (a + (b - 1)) a * cho (a + (b - 1) + (c + 1)) (c + 1) else 0) := by
        rw [e1, Nat.add_mul]
        congr 1
        · by_cases h0 : 0 < a
          · rw [if_pos h0, if_pos h0, show a - 1 + b + (c + 1) = a + b + c by omega]
          · rw [if_neg h0, if_neg h0, Nat.zero_mul]
        · by_cases h0 : 0 < b
          · rw [if_pos h0, if_pos h0, show a + (b - 1) + (c + 1) = a + b + c by omega]
          · rw [if_neg h0, if_neg h0, Nat.zero_mul]
      rw [e2]; omega
  · have ha : a = 0 := by omega
    have hb : b = 0 := by omega
    subst ha; subst hb
    rw [if_neg (by omega), if_pos (by omega)]
    simp only [Nat.zero_add]
    rw [cho_self, cho_self, cho_self]
theorem tri_cmp {p q r : Nat} (hN : p + q + r ≤ 64) : ∀ (m i j k : Nat), i ≤ p → j ≤ q → k ≤ r → m = (p - i) + (q - j) + (r - k) → cmpF (befL (p + q + r) (triP p q (p + q + r))) m (mk3 p q i j k) = mul3 (p - i) (q - j) (r - k) := by
  intro m
  induction m with
  | zero =>
    intro i j k hi hj hk hm
    rw [show p - i = 0 by omega, show q - j = 0 by omega, show r - k = 0 by omega]
    rfl
  | succ m ih =>
    intro i j k hi hj hk hm
    rw [cmpF, befL_len, tri_sum hN hi hj hk _ (Nat.le_refl _), mul3_rec (by omega)]
    congr 1
    · congr 1
      · by_cases h : i < p
        · rw [if_pos (by omega), if_pos (by omega), ih (i + 1) j k (by omega) hj hk (by omega), show p - (i + 1) = p - i - 1 by omega]
        · rw [if_neg (by omega), if_neg (by omega)]
      · by_cases h : j < q
        · rw [if_pos (by omega), if_pos (by omega), ih i (j + 1) k hi (by omega) hk (by omega), show q - (j + 1) = q - j - 1 by omega]
        · rw [if_neg (by omega), if_neg (by omega)]
    · by_cases h : k < r
      · rw [if_pos (by omega), if_pos (by omega), ih i j (k + 1) hi hj (by omega) (by omega), show r - (k + 1) = r - k - 1 by omega]
      · rw [if_neg (by omega), if_neg (by omega)]
theorem tri_cmp0 {p q r : Nat} (hN : p + q + r ≤ 64) : cmp (befL (p + q + r) (triP p q (p + q + r))) 0 = mul3 p q r := by
  rw [cmp, befL_len, siz_zero, Nat.sub_zero]
  have := tri_cmp hN (p + q + r) 0 0 0 (Nat.zero_le _) (Nat.zero_le _) (Nat.zero_le _) (by omega)
  rw [mk3_zero] at this
  simpa using this

/-! ### How many downsets -/
def triT (p q r : Nat) : List Nat := (List.range ((p + 1) * ((q + 1) * (r + 1)))).map (fun t => mk3 p q (t / ((q + 1) * (r + 1))) (t % ((q + 1) * (r + 1)) / (r + 1)) (t % (r + 1)))
theorem tri_dec {q r t : Nat} : t % ((q + 1) * (r + 1)) / (r + 1) ≤ q ∧ t % (r + 1) ≤ r ∧ t % ((q + 1) * (r + 1)) % (r + 1) = t % (r + 1) := by
  have hpos : 0 < (q + 1) * (r + 1) := Nat.mul_pos (by omega) (by omega)
  have h1 := Nat.mod_lt t hpos
  have h2 : t % ((q + 1) * (r + 1)) / (r + 1) < q + 1 := (Nat.div_lt_iff_lt_mul (by omega)).2 h1
  have h3 := Nat.mod_lt t (show 0 < r + 1 by omega)
  exact ⟨by omega, by omega, Nat.mod_mul_left_mod t (q + 1) (r + 1)⟩
theorem triT_nodup {p q r : Nat} : (triT p q r).Nodup := by
  rw [triT, List.nodup_iff_pairwise_ne, List.pairwise_map]
  refine List.Pairwise.imp_of_mem (fun {a b} ha hb hab h => hab ?_) List.nodup_range
  have ha := List.mem_range.1 ha
  have hb := List.mem_range.1 hb
  have hp : ∀ t, t < (p + 1) * ((q + 1) * (r + 1)) → t / ((q + 1) * (r + 1)) ≤ p := fun t ht => by
    have := (Nat.div_lt_iff_lt_mul (Nat.mul_pos (show 0 < q + 1 by omega) (show 0 < r + 1 by omega))).2 ht
    omega
  obtain ⟨a1, a2, a3⟩ := tri_dec (q := q) (r := r) (t := a)
  obtain ⟨b1, b2, b3⟩ := tri_dec (q := q) (r := r) (t := b)
  obtain ⟨e1, e2, e3⟩ := mk3_inj (hp a ha) (hp b hb) a1 b1 h
  have m1 := Nat.div_add_mod a ((q + 1) * (r + 1))
  have m2 := Nat.div_add_mod b ((q + 1) * (r + 1))
  have m3 := Nat.div_add_mod (a % ((q + 1) * (r + 1))) (r + 1)
  have m4 := Nat.div_add_mod (b % ((q + 1) * (r + 1))) (r + 1)
  rw [a3, e2, e3] at m3
  rw [b3] at m4
  have e5 : a % ((q + 1) * (r + 1)) = b % ((q + 1) * (r + 1)) := m3.symm.trans m4
  have e6 : (q + 1) * (r + 1) * (a / ((q + 1) * (r + 1))) + a % ((q + 1) * (r + 1)) = (q + 1) * (r + 1) * (b / ((q + 1) * (r + 1))) + b % ((q + 1) * (r + 1)) := by rw [e1, e5]
  exact m1.symm.trans (e6.trans m2)
theorem triT_len {p q r : Nat} : (triT p q r).length = (p + 1) * ((q + 1) * (r + 1)) := by simp [triT]
theorem triT_mem {p q r i j k : Nat} (hi : i ≤ p) (hj : j ≤ q) (hk : k ≤ r) : mk3 p q i j k ∈ triT p q r := by
  have hB : 0 < (q + 1) * (r + 1) := Nat.mul_pos (by omega) (by omega)
  have hjk : j * (r + 1) + k < (q + 1) * (r + 1) := by
    have h1 : j * (r + 1) ≤ q * (r + 1) := Nat.mul_le_mul_right _ hj
    rw [Nat.succ_mul]; omega
  refine List.mem_map.2 ⟨i * ((q + 1) * (r + 1)) + (j * (r + 1) + k), List.mem_range.2 ?_, ?_⟩
  · have h1 : i * ((q + 1) * (r + 1)) ≤ p * ((q + 1) * (r + 1)) := Nat.mul_le_mul_right _ hi
    have h2 : (p + 1) * ((q + 1) * (r + 1)) = p * ((q + 1) * (r + 1)) + (q + 1) * (r + 1) := Nat.succ_mul _ _
    omega
  · have e1 : (i * ((q + 1) * (r + 1)) + (j * (r + 1) + k)) / ((q + 1) * (r + 1)) = i := by
      rw [Nat.mul_comm i, Nat.mul_add_div hB, Nat.div_eq_of_lt hjk, Nat.add_zero]
    have e2 : (i * ((q + 1) * (r + 1)) + (j * (r + 1) + k)) % ((q + 1) * (r + 1)) = j * (r + 1) + k := by
      rw [Nat.mul_comm i, Nat.mul_add_mod, Nat.mod_eq_of_lt hjk]
    have e3 : (i * ((q + 1) * (r + 1)) + (j * (r + 1) + k)) % (r + 1) = k := by
      rw [← Nat.mul_assoc, ← Nat.add_assoc, ← Nat.add_mul, Nat.mul_comm, Nat.mul_add_mod, Nat.mod_eq_of_lt (by omega)]
    have e4 : (j * (r + 1) + k) / (r + 1) = j := by
      rw [Nat.mul_comm j, Nat.mul_add_div (by omega), Nat.div_eq_of_lt (by omega), Nat.add_zero]
    simp only [e1, e2, e3, e4]
theorem tri_dsE {p q r : Nat} (hN : p + q + r ≤ 64) : ∀ m ∈ dsE (befL (p + q + r) (triP p q (p + q + r))), m ∈ triT p q r := by
  have key : ∀ i, ∀ m ∈ dsI (befL (p + q + r) (triP p q (p + q + r))) (p + q + r) i, ∃ a b c, a ≤ p ∧ b ≤ q ∧ c ≤ r ∧ m = mk3 p q a b c := by
    refine dsI_ind ⟨0, 0, 0, Nat.zero_le _, Nat.zero_le _, Nat.zero_le _, mk3_zero.symm⟩ fun s x _ hq hx hf => ?_
    obtain ⟨a, b, c, ha, hb, hc, rfl⟩ := hq
    rcases (tri_fr hN ha hb hc hx).1 hf with ⟨rfl, h⟩ | ⟨rfl, h⟩ | ⟨rfl, h⟩
    · exact ⟨_, _, _, by omega, hb, hc, mk3_i h⟩
    · exact ⟨_, _, _, ha, by omega, hc, mk3_j h⟩
    · exact ⟨_, _, _, ha, hb, by omega, mk3_k⟩
  intro m hm
  unfold dsE at hm
  rw [befL_len] at hm
  obtain ⟨a, b, c, ha, hb, hc, rfl⟩ := key _ m hm
  exact triT_mem ha hb hc
theorem tri_okD {p q r : Nat} (hN : p + q + r ≤ 64) (h : (p + 1) * ((q + 1) * (r + 1)) ≤ 65536) : okD (befL (p + q + r) (triP p q (p + q + r))) = true := by
  have := len_subD _ _ (dsE_nodup (B := befL (p + q + r) (triP p q (p + q + r)))) (tri_dsE hN)
  rw [triT_len] at this
  exact Nat.ble_eq_true_of_le (by omega)
theorem tri_len {p q r : Nat} (hN : p + q + r ≤ 64) (h : (p + 1) * ((q + 1) * (r + 1)) ≤ 65536) : (dsE (befL (p + q + r) (triP p q (p + q + r)))).length = (p + 1) * ((q + 1) * (r + 1)) := by
  have h1 := len_subD _ _ (dsE_nodup (B := befL (p + q + r) (triP p q (p + q + r)))) (tri_dsE hN)
  rw [triT_len] at h1
  have hok := tri_okD hN h
  have hBl : (befL (p + q + r) (triP p q (p + q + r))).length = p + q + r := befL_len _ _
  have hst : ∀ {s x : Nat}, s ∈ dsE (befL (p + q + r) (triP p q (p + q + r))) → x < p + q + r → frR (befL (p + q + r) (triP p q (p + q + r))) s x = true → (s ||| 2 ^ x) ∈ dsE (befL (p + q + r) (triP p q (p + q + r))) := fun hs hx hf => dsE_step (by rw [hBl]; exact hN) hok hs (by rw [hBl]; exact hx) hf
  have hall : ∀ i, i ≤ p → ∀ j, j ≤ q → ∀ k, k ≤ r → mk3 p q i j k ∈ dsE (befL (p + q + r) (triP p q (p + q + r))) := by
    intro i
    induction i with
    | zero =>
      intro _ j
      induction j with
      | zero =>
        intro _ k
        induction k with
        | zero => intro _; rw [mk3_zero]; exact zero_mem
        | succ k ih =>
          intro hk
          have := hst (ih (by omega)) (x := p + q + k) (by omega) ((tri_fr hN (by omega) (by omega) (by omega) (by omega)).2 (.inr (.inr ⟨rfl, by omega⟩)))
          rwa [mk3_k] at this
      | succ j ih =>
        intro hj k hk
        have := hst (ih (by omega) k hk) (x := p + j) (by omega) ((tri_fr hN (by omega) (by omega) hk (by omega)).2 (.inr (.inl ⟨rfl, by omega⟩)))
        rwa [mk3_j (by omega)] at this
    | succ i ih =>
      intro hi j hj k hk
      have := hst (ih (by omega) j hj k hk) (x := i) (by omega) ((tri_fr hN (by omega) hj hk (by omega)).2 (.inl ⟨rfl, by omega⟩))
      rwa [mk3_i (by omega)] at this
  have h2 := len_subD _ _ (triT_nodup (p := p) (q := q) (r := r)) (fun m hm => by
    obtain ⟨t, ht, rfl⟩ := List.mem_map.1 hm
    obtain ⟨a1, a2, _⟩ := tri_dec (q := q) (r := r) (t := t)
    have := (Nat.div_lt_iff_lt_mul (Nat.mul_pos (show 0 < q + 1 by omega) (show 0 < r + 1 by omega))).2 (List.mem_range.1 ht)
    exact hall _ (by omega) _ a1 _ a2)
  rw [triT_len] at h2
  omega
end Go.Proofs.Ytiokmglajigngaa
