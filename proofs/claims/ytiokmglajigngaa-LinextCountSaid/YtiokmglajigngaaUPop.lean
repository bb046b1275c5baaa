/-
  A part of the proof (UPop).
-/
namespace Go.Proofs.Ytiokmglajigngaa.Sx
/-- The number of set bits among the first n. -/
def siz : Nat → Nat → Nat
  | 0, _ => 0
  | n + 1, m => m % 2 + siz n (m / 2)
theorem siz_add : ∀ (j k m : Nat), siz (j + k) m = siz j m + siz k (m / 2 ^ j) := by
  intro j
  induction j with
  | zero => intro k m; simp [siz]
  | succ j ih =>
    intro k m
    rw [Nat.succ_add, siz, siz, ih, Nat.div_div_eq_div_mul, Nat.pow_succ, Nat.mul_comm 2, Nat.add_assoc]
theorem siz_zero : ∀ n, siz n 0 = 0 := by
  intro n; induction n with
  | zero => rfl
  | succ n ih => rw [siz, ih]
theorem siz_lt {n : Nat} : ∀ (k m : Nat), m < 2 ^ n → siz (n + k) m = siz n m := by
  intro k m h
  rw [siz_add, Nat.div_eq_of_lt h, siz_zero, Nat.add_zero]
theorem and_cat {a c A C : Nat} (ha : a < 256) (hc : c < 256) : (a + 256 * A) &&& (c + 256 * C) = (a &&& c) + 256 * (A &&& C) := by
  have h1 : ∀ x y : Nat, x < 256 → x + 256 * y = 256 * y + x := fun x y _ => Nat.add_comm ..
  have hac : a &&& c < 2 ^ 8 := Nat.and_lt_two_pow a hc
  apply Nat.eq_of_testBit_eq
  intro i
  rw [Nat.testBit_and, h1 a A ha, h1 c C hc, h1 _ _ hac, show (256 : Nat) = 2 ^ 8 from rfl, Nat.testBit_two_pow_mul_add _ ha, Nat.testBit_two_pow_mul_add _ hc, Nat.testBit_two_pow_mul_add _ hac]
  split
  · rw [Nat.testBit_and]
  · rw [Nat.testBit_and]
/-- The masks of k bytes. -/
def rep (c : Nat) : Nat → Nat
  | 0 => 0
  | k + 1 => c + 256 * rep c k
/-- The first three steps. -/
def st1 (k x : Nat) : Nat := (x / 2 &&& rep 85 k) + (x &&& rep 85 k)
def st2 (k x : Nat) : Nat := (x / 4 &&& rep 51 k) + (x &&& rep 51 k)
def st3 (k x : Nat) : Nat := (x / 16 + x) &&& rep 15 k
def b1 (a : Nat) : Nat := (a / 2 &&& 85) + (a &&& 85)
def b2 (a : Nat) : Nat := (a / 4 &&& 51) + (a &&& 51)
def b3 (a : Nat) : Nat := (a / 16 + a) &&& 15
theorem c1 : ∀ a : Fin 256, ∀ b : Fin 2, (a.1 / 2 + 128 * b.1) &&& 85 = a.1 / 2 &&& 85 := by decide +kernel
theorem c2 : ∀ a : Fin 256, ∀ b : Fin 4, (a.1 / 4 + 64 * b.1) &&& 51 = a.1 / 4 &&& 51 := by decide +kernel
theorem c4 : ∀ a : Fin 256, b1 a.1 < 256 ∧ b2 (b1 a.1) % 16 ≤ 4 ∧ b2 (b1 a.1) / 16 ≤ 4 ∧ b3 (b2 (b1 a.1)) = siz 8 a.1 ∧ siz 8 a.1 ≤ 8 := by decide +kernel
theorem c3 : ∀ a : Fin 80, ∀ b : Fin 5, a.1 % 16 ≤ 4 → (a.1 / 16 + a.1 + 16 * b.1) &&& 15 = b3 a.1 := by decide +kernel
theorem st1_cat {a y k : Nat} (ha : a < 256) : st1 (k + 1) (a + 256 * y) = b1 a + 256 * st1 k y := by
  unfold st1 b1
  rw [show (a + 256 * y) / 2 = (a / 2 + 128 * (y % 2)) + 256 * (y / 2) by omega, rep, and_cat (by omega) (by omega), and_cat ha (by omega)]
  have := c1 ⟨a, ha⟩ ⟨y % 2, by omega⟩
  simp only at this
  rw [this]; omega
theorem st2_cat {a y k : Nat} (ha : a < 256) : st2 (k + 1) (a + 256 * y) = b2 a + 256 * st2 k y := by
  unfold st2 b2
  rw [show (a + 256 * y) / 4 = (a / 4 + 64 * (y % 4)) + 256 * (y / 4) by omega, rep, and_cat (by omega) (by omega), and_cat ha (by omega)]
  have := c2 ⟨a, ha⟩ ⟨y % 4, by omega⟩
  simp only at this
  rw [this]; omega
theorem st3_cat {a y k : Nat} (ha : a / 16 ≤ 4) (ha' : a % 16 ≤ 4) (hy : y % 16 ≤ 4) : st3 (k + 1) (a + 256 * y) = b3 a + 256 * st3 k y := by
  unfold st3
  rw [show (a + 256 * y) / 16 + (a + 256 * y) = (a / 16 + a + 16 * (y % 16)) + 256 * (y / 16 + y) by omega, rep, and_cat (by omega) (by omega)]
  have := c3 ⟨a, by omega⟩ ⟨y % 16, by omega⟩ ha'
  simp only at this
  rw [this]
/-- The steps, byte by byte. -/
theorem st_cat : ∀ (k a y : Nat), a < 256 → st2 k (st1 k y) % 16 ≤ 4 → st3 (k + 1) (st2 (k + 1) (st1 (k + 1) (a + 256 * y))) = siz 8 a + 256 * st3 k (st2 k (st1 k y)) ∧ st2 (k + 1) (st1 (k + 1) (a + 256 * y)) % 16 ≤ 4 := by
  intro k a y ha hy
  obtain ⟨h1, h2, h3, h4, h5⟩ := c4 ⟨a, ha⟩
  simp only at h1 h2 h3 h4 h5
  rw [st1_cat ha, st2_cat h1, st3_cat h3 h2 hy, h4]
  exact ⟨rfl, by omega⟩
theorem st_zero (y : Nat) : st3 0 (st2 0 (st1 0 y)) = 0 ∧ st2 0 (st1 0 y) % 16 ≤ 4 := by
  simp [st3, st2, st1, rep]
theorem siz8 {a : Nat} (ha : a < 256) : siz 8 a ≤ 8 := (c4 ⟨a, ha⟩).2.2.2.2
theorem siz64 {m : Nat} (h : m < 2 ^ 64) : ∃ a0 a1 a2 a3 a4 a5 a6 a7 : Nat, a0 < 256 ∧ a1 < 256 ∧ a2 < 256 ∧ a3 < 256 ∧ a4 < 256 ∧ a5 < 256 ∧ a6 < 256 ∧ a7 < 256 ∧ m = a0 + 256 * (a1 + 256 * (a2 + 256 * (a3 + 256 * (a4 + 256 * (a5 + 256 * (a6 + 256 * (a7 + 256 * 0))))))) :=
  ⟨m % 256, m / 256 % 256, m / 65536 % 256, m / 16777216 % 256, m / 4294967296 % 256, m / 1099511627776 % 256, m / 281474976710656 % 256, m / 72057594037927936 % 256, by omega, by omega, by omega, by omega, by omega, by omega, by omega, by omega, by omega⟩
theorem siz_low : ∀ (j a y : Nat), siz j (a + 2 ^ j * y) = siz j a := by
  intro j
  induction j with
  | zero => intro a y; rfl
  | succ j ih =>
    intro a y
    rw [siz, siz, show a + 2 ^ (j + 1) * y = a + 2 * (2 ^ j * y) by rw [Nat.pow_succ, Nat.mul_comm (2 ^ j) 2, Nat.mul_assoc]]
    have := ih (a / 2) y
    generalize 2 ^ j * y = w at *
    rw [show (a + 2 * w) % 2 = a % 2 by omega, show (a + 2 * w) / 2 = a / 2 + w by omega, this]
theorem siz_cat {a y k : Nat} (ha : a < 256) : siz (8 + k) (a + 256 * y) = siz 8 a + siz k y := by
  rw [siz_add, show (256 : Nat) = 2 ^ 8 from rfl, siz_low, show (a + 2 ^ 8 * y) / 2 ^ 8 = y by omega]
theorem div1 {a b : Nat} (h : a < 256) : (a + 256 * b) / 256 = b := by omega
theorem div2 {a b c : Nat} (h : a < 256) (h' : b < 256) : (a + 256 * (b + 256 * c)) / 65536 = c := by omega
theorem div4 {a b c d e : Nat} (h : a < 256) (h' : b < 256) (h2 : c < 256) (h3 : d < 256) : (a + 256 * (b + 256 * (c + 256 * (d + 256 * e)))) / 4294967296 = e := by omega
theorem pop_arith {c0 c1 c2 c3 c4 c5 c6 c7 : Nat} (h0 : c0 ≤ 8) (h1 : c1 ≤ 8) (h2 : c2 ≤ 8) (h3 : c3 ≤ 8) (h4 : c4 ≤ 8) (h5 : c5 ≤ 8) (h6 : c6 ≤ 8) (h7 : c7 ≤ 8) {x y z : Nat}
    (hx : x = c0 + 256 * (c1 + 256 * (c2 + 256 * (c3 + 256 * (c4 + 256 * (c5 + 256 * (c6 + 256 * (c7 + 256 * 0))))))))
    (hy : y = x + x / 256) (hz : z = y + y / 65536) : z + z / 4294967296 < 2 ^ 64 ∧ (z + z / 4294967296) % 128 = c0 + c1 + c2 + c3 + c4 + c5 + c6 + c7 := by
  rw [hx, div1 (by omega)] at hy
  have e1 : y = (c0 + c1) + 256 * ((c1 + c2) + 256 * ((c2 + c3) + 256 * ((c3 + c4) + 256 * ((c4 + c5) + 256 * ((c5 + c6) + 256 * ((c6 + c7) + 256 * c7)))))) := by omega
  rw [e1, div2 (by omega) (by omega)] at hz
  have e2 : z = (c0 + c1 + c2 + c3) + 256 * ((c1 + c2 + c3 + c4) + 256 * ((c2 + c3 + c4 + c5) + 256 * ((c3 + c4 + c5 + c6) + 256 * ((c4 + c5 + c6 + c7) + 256 * ((c5 + c6 + c7) + 256 * ((c6 + c7) + 256 * c7)))))) := by omega
  rw [e2, div4 (by omega) (by omega) (by omega) (by omega)]
  clear e1 e2 hx hy hz
  omega
/-- The count of set bits as the library finds it. -/
theorem pop_eq {m x y z : Nat} (h : m < 2 ^ 64) (hx : x = st3 8 (st2 8 (st1 8 m))) (hy : y = x + x / 256) (hz : z = y + y / 65536) : z + z / 4294967296 < 2 ^ 64 ∧ (z + z / 4294967296) % 128 = siz 64 m := by
  obtain ⟨a0, a1, a2, a3, a4, a5, a6, a7, h0, h1, h2, h3, h4, h5, h6, h7, rfl⟩ := siz64 h
  have s0 := st_zero 0
  have s7 := st_cat 0 a7 0 h7 s0.2
  have s6 := st_cat 1 a6 _ h6 s7.2
  have s5 := st_cat 2 a5 _ h5 s6.2
  have s4 := st_cat 3 a4 _ h4 s5.2
  have s3 := st_cat 4 a3 _ h3 s4.2
  have s2 := st_cat 5 a2 _ h2 s3.2
  have s1 := st_cat 6 a1 _ h1 s2.2
  have s := st_cat 7 a0 _ h0 s1.2
  rw [s1.1, s2.1, s3.1, s4.1, s5.1, s6.1, s7.1, s0.1] at s
  rw [s.1] at hx
  have := pop_arith (siz8 h0) (siz8 h1) (siz8 h2) (siz8 h3) (siz8 h4) (siz8 h5) (siz8 h6) (siz8 h7) hx hy hz
  rw [this.2]
  refine ⟨this.1, ?_⟩
  rw [show (64 : Nat) = 8 + (8 + (8 + (8 + (8 + (8 + (8 + (8 + 0))))))) from by decide, siz_cat h0, siz_cat h1, siz_cat h2, siz_cat h3, siz_cat h4, siz_cat h5, siz_cat h6, siz_cat h7, siz_zero]
  simp only [Nat.add_assoc, Nat.add_zero]
end Go.Proofs.Ytiokmglajigngaa.Sx
