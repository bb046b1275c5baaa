/-
  The linext layer: no pairs at all.
-/
import Derived.Test.YtiokmglajigngaaL25
namespace Go.Proofs.Ytiokmglajigngaa
open Go Go.Proofs.Ytiokmglajigngaa.Sx
theorem befM_nil (x : Int) : befM [] x = 0 := rfl
theorem diff_zeroL (s : Nat) : bits .andNot .u64 (0 : Int) (s : Int) = 0 := by
  have h := bits_andNot (a := 0) (b := s)
  have h0 : diff 0 s = 0 := by
    refine Nat.eq_of_testBit_eq fun i => ?_
    have := (diff_zero (a := 0) (b := s) (by decide)).2 (fun i hi => by rw [Nat.zero_testBit] at hi; cases hi)
    rw [beq_iff_eq] at this
    have this : diff 0 s = 0 := by omega
    rw [this]
  rw [h0] at h
  exact h
theorem free_fr {n x : Nat} {s : Nat} (hn : n ≤ 64) (hx : x < n) (hs : s < 2 ^ n) : frR (befL n []) s x = !s.testBit x := by
  rw [frR, Int.toNat_natCast, wrap_shl (by omega), bits_and (lt64 hs hn) (one_lt (by omega)), and_zero, nthD_befL hx, befM_nil]
  have := diff_zeroL s
  have e : (((0 : Nat) : Int)) = 0 := rfl
  rw [e, this, beq_self_eq_true, Bool.and_true]
/-- Every set is a downset. -/
theorem free_all {n : Nat} (hn : n ≤ 64) (hok : okD (befL n []) = true) : ∀ m, m < 2 ^ n → m ∈ dsE (befL n []) := by
  intro m
  induction m using Nat.strongRecOn with
  | ind m ih =>
    intro hm
    by_cases h0 : m = 0
    · subst h0; exact zero_mem
    · have hlen : (befL n []).length = n := befL_len n []
      have hx : m.log2 < n := (Nat.log2_lt h0).2 hm
      have h1 : 2 ^ m.log2 ≤ m := Nat.log2_self_le h0
      have h2 : m < 2 ^ (m.log2 + 1) := Nat.lt_log2_self
      have h3 : m - 2 ^ m.log2 < 2 ^ m.log2 := by rw [Nat.pow_succ] at h2; omega
      have hb : (m - 2 ^ m.log2).testBit m.log2 = false := Nat.testBit_lt_two_pow h3
      have hlt : m - 2 ^ m.log2 < 2 ^ n := by omega
      have hor : (m - 2 ^ m.log2) ||| 2 ^ m.log2 = m := by
        have e := Nat.two_pow_add_eq_or_of_lt (i := m.log2) (b := m - 2 ^ m.log2) h3 1
        rw [Nat.mul_one] at e
        rw [Nat.or_comm, ← e]; omega
      have hpos : 0 < 2 ^ m.log2 := Nat.two_pow_pos _
      have := dsE_step (B := befL n []) (by rw [hlen]; exact hn) hok (ih (m - 2 ^ m.log2) (by omega) hlt) (x := m.log2) (by rw [hlen]; exact hx) (by rw [free_fr hn hx hlt, hb]; rfl)
      rw [hor] at this
      exact this
theorem free_len {n : Nat} (hn : n ≤ 64) (hok : okD (befL n []) = true) : (dsE (befL n [])).length = 2 ^ n := by
  have h1 := dsE_le (B := befL n [])
  rw [befL_len] at h1
  have h2 := len_subD (List.range (2 ^ n)) (dsE (befL n [])) List.nodup_range fun x hx => free_all hn hok x (List.mem_range.1 hx)
  rw [List.length_range] at h2
  omega
theorem bit_siz : ∀ (x s : Nat), siz (x + 1) s = siz x s + (bif s.testBit x then 1 else 0) := by
  intro x s
  rw [siz_add, siz, siz, Nat.add_zero]
  congr 1
  rw [Nat.testBit_eq_decide_div_mod_eq]
  have : s / 2 ^ x % 2 < 2 := Nat.mod_lt _ (by omega)
  by_cases h : s / 2 ^ x % 2 = 1
  · rw [h]; rfl
  · have h0 : s / 2 ^ x % 2 = 0 := by omega
    rw [h0]; rfl
theorem free_sum {n s v : Nat} {c : Nat → Nat} (hn : n ≤ 64) (hs : s < 2 ^ n) (h : ∀ y, y < n → s.testBit y = false → c (s ||| 2 ^ y) = v) : ∀ x, x ≤ n → sumF (befL n []) s c x + siz x s * v = x * v := by
  intro x
  induction x with
  | zero => intro _; simp [sumF, siz]
  | succ x ih =>
    intro hx
    have ih := ih (by omega)
    rw [sumF, bit_siz, free_fr hn hx hs, Nat.add_mul, Nat.succ_mul]
    cases hb : s.testBit x
    · rw [Bool.not_false, cond_true, cond_false, h x hx hb, Nat.zero_mul]; omega
    · rw [Bool.not_true, cond_false, cond_true, Nat.one_mul]; omega
theorem free_cmp {n : Nat} (hn : n ≤ 64) : ∀ (k s : Nat), s < 2 ^ n → siz 64 s + k = n → cmpF (befL n []) k s = facN k := by
  intro k
  induction k with
  | zero => intro s _ _; rfl
  | succ k ih =>
    intro s hs hk
    have hsz : siz 64 s = siz n s := by
      have := siz_lt (n := n) (64 - n) s hs
      rw [show n + (64 - n) = 64 by omega] at this
      exact this
    have h1 := free_sum (n := n) (s := s) (v := facN k) (c := cmpF (befL n []) k) hn hs (fun y hy hb => by
      refine ih _ (Nat.or_lt_two_pow hs (Nat.pow_lt_pow_right (by omega) hy)) ?_
      rw [siz_or 64 y s (by omega) hb]; omega) n (Nat.le_refl _)
    rw [cmpF, befL_len]
    have h2 : siz n s + (k + 1) = n := by omega
    have h3 : n * facN k = siz n s * facN k + (k + 1) * facN k := by rw [← Nat.add_mul, h2]
    rw [facN]
    omega
theorem free_cmp0 {n : Nat} (hn : n ≤ 64) : cmp (befL n []) 0 = facN n := by
  rw [cmp, befL_len, siz_zero, Nat.sub_zero]
  exact free_cmp hn n 0 (Nat.two_pow_pos n) (by rw [siz_zero]; omega)
theorem fac_le : ∀ m : Fin 21, facN m.1 ≤ maxI := by decide +kernel
end Go.Proofs.Ytiokmglajigngaa
