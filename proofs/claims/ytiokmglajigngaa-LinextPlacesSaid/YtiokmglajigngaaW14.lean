/-
  The linext layer: counts, ranks: what is computed.
-/
import Derived.Test.YtiokmglajigngaaW12
namespace Go.Proofs.Ytiokmglajigngaa
open Go Go.Proofs.Ytiokmglajigngaa.Sx
set_option maxRecDepth 100000
set_option linter.unusedSimpArgs false
set_option linter.unusedVariables false
theorem and_le {a b : Nat} : a &&& b ≤ b := Nat.and_le_right
theorem u64_w {n : Nat} (h : n < 18446744073709551616) : IntKind.u64.wrap (n : Int) = (n : Int) := u64_wrap (by simpa using h)
theorem and_u64 {a b : Nat} (ha : a < 18446744073709551616) (hb : b < 18446744073709551616) : bits .and .u64 (a : Int) (b : Int) = ((a &&& b : Nat) : Int) := bits_and (by simpa using ha) (by simpa using hb)
theorem pe1 {m : Nat} (h : m < 18446744073709551616) : IntKind.u64.wrap (bits .and .u64 ((m : Int) / 2 ^ Int.toNat 1) 6148914691236517205 + bits .and .u64 (m : Int) 6148914691236517205) = ((st1 8 m : Nat) : Int) := by
  have e : ((m : Int) / 2 ^ Int.toNat 1) = ((m / 2 : Nat) : Int) := by simp
  have hb1 : m / 2 &&& 6148914691236517205 ≤ 6148914691236517205 := and_le
  have hb2 : m &&& 6148914691236517205 ≤ 6148914691236517205 := and_le
  have hr : rep 85 8 = 6148914691236517205 := rfl
  rw [e, show (6148914691236517205 : Int) = ((6148914691236517205 : Nat) : Int) from rfl, and_u64 (by omega) (by omega), and_u64 h (by omega), ← Int.natCast_add, u64_w (by omega), st1, hr]
theorem pb1 (m : Nat) : st1 8 m ≤ 12297829382473034410 := by
  have hb1 : m / 2 &&& 6148914691236517205 ≤ 6148914691236517205 := and_le
  have hb2 : m &&& 6148914691236517205 ≤ 6148914691236517205 := and_le
  have hr : rep 85 8 = 6148914691236517205 := rfl
  rw [st1, hr]; omega
theorem pe2 {m : Nat} (h : m < 18446744073709551616) : IntKind.u64.wrap (bits .and .u64 ((m : Int) / 2 ^ Int.toNat 2) 3689348814741910323 + bits .and .u64 (m : Int) 3689348814741910323) = ((st2 8 m : Nat) : Int) := by
  have e : ((m : Int) / 2 ^ Int.toNat 2) = ((m / 4 : Nat) : Int) := by simp
  have hb1 : m / 4 &&& 3689348814741910323 ≤ 3689348814741910323 := and_le
  have hb2 : m &&& 3689348814741910323 ≤ 3689348814741910323 := and_le
  have hr : rep 51 8 = 3689348814741910323 := rfl
  rw [e, show (3689348814741910323 : Int) = ((3689348814741910323 : Nat) : Int) from rfl, and_u64 (by omega) (by omega), and_u64 h (by omega), ← Int.natCast_add, u64_w (by omega), st2, hr]
theorem pb2 (m : Nat) : st2 8 m ≤ 7378697629483820646 := by
  have hb1 : m / 4 &&& 3689348814741910323 ≤ 3689348814741910323 := and_le
  have hb2 : m &&& 3689348814741910323 ≤ 3689348814741910323 := and_le
  have hr : rep 51 8 = 3689348814741910323 := rfl
  rw [st2, hr]; omega
theorem pe3 {m : Nat} (h : m ≤ 7378697629483820646) : bits .and .u64 (IntKind.u64.wrap ((m : Int) / 2 ^ Int.toNat 4 + (m : Int))) 1085102592571150095 = ((st3 8 m : Nat) : Int) := by
  have e : ((m : Int) / 2 ^ Int.toNat 4) = ((m / 16 : Nat) : Int) := by simp
  have hr : rep 15 8 = 1085102592571150095 := rfl
  rw [e, ← Int.natCast_add, u64_w (by omega), show (1085102592571150095 : Int) = ((1085102592571150095 : Nat) : Int) from rfl, and_u64 (by omega) (by omega), st3, hr]
theorem pb3 (m : Nat) : st3 8 m ≤ 1085102592571150095 := by
  have hr : rep 15 8 = 1085102592571150095 := rfl
  rw [st3, hr]; exact and_le
theorem pe4 {m : Nat} (k : Nat) (h : m < 9223372036854775808) : IntKind.u64.wrap ((m : Int) + (m : Int) / 2 ^ k) = ((m + m / 2 ^ k : Nat) : Int) := by
  have e : ((m : Int) / 2 ^ k) = ((m / 2 ^ k : Nat) : Int) := by simp
  have : m / 2 ^ k ≤ m := Nat.div_le_self _ _
  rw [e, ← Int.natCast_add, u64_w (by omega)]
theorem and_i64 {a : Nat} (ha : a < 9223372036854775808) : bits .and .i64 (IntKind.i64.wrap (a : Int)) 127 = ((a % 128 : Nat) : Int) := by
  rw [w64_eq (by omega) (by omega)]
  show IntKind.i64.wrap (((BitVec.ofInt 64 (a : Int) &&& BitVec.ofInt 64 ((127 : Nat) : Int)).toNat : Nat) : Int) = _
  rw [ofInt_nat, ofInt_nat, BitVec.toNat_and, BitVec.toNat_ofNat, BitVec.toNat_ofNat, Nat.mod_eq_of_lt (by omega), Nat.mod_eq_of_lt (by omega), Nat.and_two_pow_sub_one_eq_mod a 7, w64_eq (by omega) (by omega)]
theorem v50_eq (s : Int) : (fnVc (tab [] []) Try.f50 [.i .u64 s] [] (plainIs (.i .i64 (siz 64 s.toNat : Int)))) = (((0 : Int) ≤ (1 : Int) ∧ (1 : Int) ≤ (↑IntKind.u64.bits : Int)) ∧
 ((0 : Int) ≤ (2 : Int) ∧ (2 : Int) ≤ (↑IntKind.u64.bits : Int)) ∧
 ((0 : Int) ≤ (4 : Int) ∧ (4 : Int) ≤ (↑IntKind.u64.bits : Int)) ∧
 ((0 : Int) ≤ (8 : Int) ∧ (8 : Int) ≤ (↑IntKind.u64.bits : Int)) ∧
 ((0 : Int) ≤ (16 : Int) ∧ (16 : Int) ≤ (↑IntKind.u64.bits : Int)) ∧
 ((0 : Int) ≤ (32 : Int) ∧ (32 : Int) ≤ (↑IntKind.u64.bits : Int)) ∧
 bits BinOp.and IntKind.i64
 (IntKind.i64.wrap
 (IntKind.u64.wrap
 (IntKind.u64.wrap
 (IntKind.u64.wrap
 (bits BinOp.and IntKind.u64
 (IntKind.u64.wrap
 (IntKind.u64.wrap
 (bits BinOp.and IntKind.u64
 (IntKind.u64.wrap
 (bits BinOp.and IntKind.u64 (s / (2 : Int) ^ Int.toNat (1 : Int))
 (6148914691236517205 : Int) +
 bits BinOp.and IntKind.u64 s (6148914691236517205 : Int)) /
 (2 : Int) ^ Int.toNat (2 : Int))
 (3689348814741910323 : Int) +
 bits BinOp.and IntKind.u64
 (IntKind.u64.wrap
 (bits BinOp.and IntKind.u64 (s / (2 : Int) ^ Int.toNat (1 : Int))
 (6148914691236517205 : Int) +
 bits BinOp.and IntKind.u64 s (6148914691236517205 : Int)))
 (3689348814741910323 : Int)) /
 (2 : Int) ^ Int.toNat (4 : Int) +
 IntKind.u64.wrap
 (bits BinOp.and IntKind.u64
 (IntKind.u64.wrap
 (bits BinOp.and IntKind.u64 (s / (2 : Int) ^ Int.toNat (1 : Int))
 (6148914691236517205 : Int) +
 bits BinOp.and IntKind.u64 s (6148914691236517205 : Int)) /
 (2 : Int) ^ Int.toNat (2 : Int))
 (3689348814741910323 : Int) +
 bits BinOp.and IntKind.u64
 (IntKind.u64.wrap
 (bits BinOp.and IntKind.u64 (s / (2 : Int) ^ Int.toNat (1 : Int))
 (6148914691236517205 : Int) +
 bits BinOp.and IntKind.u64 s (6148914691236517205 : Int)))
 (3689348814741910323 : Int))))
 (1085102592571150095 : Int) +
 bits BinOp.and IntKind.u64
 (IntKind.u64.wrap
 (IntKind.u64.wrap
 (bits BinOp.and IntKind.u64
 (IntKind.u64.wrap
 (bits BinOp.and IntKind.u64 (s / (2 : Int) ^ Int.toNat (1 : Int))
 (6148914691236517205 : Int) +
 bits BinOp.and IntKind.u64 s (6148914691236517205 : Int)) /
 (2 : Int) ^ Int.toNat (2 : Int))
 (3689348814741910323 : Int) +
 bits BinOp.and IntKind.u64
 (IntKind.u64.wrap
 (bits BinOp.and IntKind.u64 (s / (2 : Int) ^ Int.toNat (1 : Int))
 (6148914691236517205 : Int) +
 bits BinOp.and IntKind.u64 s (6148914691236517205 : Int)))
 (3689348814741910323 : Int)) /
 (2 : Int) ^ Int.toNat (4 : Int) +
 IntKind.u64.wrap
 (bits BinOp.and IntKind.u64
 (IntKind.u64.wrap
 (bits BinOp.and IntKind.u64 (s / (2 : Int) ^ Int.toNat (1 : Int))
 (6148914691236517205 : Int) +
 bits BinOp.and IntKind.u64 s (6148914691236517205 : Int)) /
 (2 : Int) ^ Int.toNat (2 : Int))
 (3689348814741910323 : Int) +
 bits BinOp.and IntKind.u64
 (IntKind.u64.wrap
 (bits BinOp.and IntKind.u64 (s / (2 : Int) ^ Int.toNat (1 : Int))
 (6148914691236517205 : Int) +
 bits BinOp.and IntKind.u64 s (6148914691236517205 : Int)))
 (3689348814741910323 : Int))))
 (1085102592571150095 : Int) /
 (2 : Int) ^ Int.toNat (8 : Int)) +
 IntKind.u64.wrap
 (bits BinOp.and IntKind.u64
 (IntKind.u64.wrap
 (IntKind.u64.wrap
 (bits BinOp.and IntKind.u64
 (IntKind.u64.wrap
 (bits BinOp.and IntKind.u64 (s / (2 : Int) ^ Int.toNat (1 : Int))
 (6148914691236517205 : Int) +
 bits BinOp.and IntKind.u64 s (6148914691236517205 : Int)) /
 (2 : Int) ^ Int.toNat (2 : Int))
 (3689348814741910323 : Int) +
 bits BinOp.and IntKind.u64
 (IntKind.u64.wrap
 (bits BinOp.and IntKind.u64 (s / (2 : Int) ^ Int.toNat (1 : Int))
 (6148914691236517205 : Int) +
 bits BinOp.and IntKind.u64 s (6148914691236517205 : Int)))
 (3689348814741910323 : Int)) /
 (2 : Int) ^ Int.toNat (4 : Int) +
 IntKind.u64.wrap
 (bits BinOp.and IntKind.u64
 (IntKind.u64.wrap
 (bits BinOp.and IntKind.u64 (s / (2 : Int) ^ Int.toNat (1 : Int))
 (6148914691236517205 : Int) +
 bits BinOp.and IntKind.u64 s (6148914691236517205 : Int)) /
 (2 : Int) ^ Int.toNat (2 : Int))
 (3689348814741910323 : Int) +
 bits BinOp.and IntKind.u64
 (IntKind.u64.wrap
 (bits BinOp.and IntKind.u64 (s / (2 : Int) ^ Int.toNat (1 : Int))
 (6148914691236517205 : Int) +
 bits BinOp.and IntKind.u64 s (6148914691236517205 : Int)))
 (3689348814741910323 : Int))))
 (1085102592571150095 : Int) +
 bits BinOp.and IntKind.u64
 (IntKind.u64.wrap
 (IntKind.u64.wrap
 (bits BinOp.and IntKind.u64
 (IntKind.u64.wrap
 (bits BinOp.and IntKind.u64 (s / (2 : Int) ^ Int.toNat (1 : Int))
 (6148914691236517205 : Int) +
 bits BinOp.and IntKind.u64 s (6148914691236517205 : Int)) /
 (2 : Int) ^ Int.toNat (2 : Int))
 (3689348814741910323 : Int) +
 bits BinOp.and IntKind.u64
 (IntKind.u64.wrap
 (bits BinOp.and IntKind.u64 (s / (2 : Int) ^ Int.toNat (1 : Int))
 (6148914691236517205 : Int) +
 bits BinOp.and IntKind.u64 s (6148914691236517205 : Int)))
 (3689348814741910323 : Int)) /
 (2 : Int) ^ Int.toNat (4 : Int) +
 IntKind.u64.wrap
 (bits BinOp.and IntKind.u64
 (IntKind.u64.wrap
 (bits BinOp.and IntKind.u64 (s / (2 : Int) ^ Int.toNat (1 : Int))
 (6148914691236517205 : Int) +
 bits BinOp.and IntKind.u64 s (6148914691236517205 : Int)) /
 (2 : Int) ^ Int.toNat (2 : Int))
 (3689348814741910323 : Int) +
 bits BinOp.and IntKind.u64
 (IntKind.u64.wrap
 (bits BinOp.and IntKind.u64 (s / (2 : Int) ^ Int.toNat (1 : Int))
 (6148914691236517205 : Int) +
 bits BinOp.and IntKind.u64 s (6148914691236517205 : Int)))
 (3689348814741910323 : Int))))
 (1085102592571150095 : Int) /
 (2 : Int) ^ Int.toNat (8 : Int)) /
 (2 : Int) ^ Int.toNat (16 : Int)) +
 IntKind.u64.wrap
 (IntKind.u64.wrap
 (bits BinOp.and IntKind.u64
 (IntKind.u64.wrap
 (IntKind.u64.wrap
 (bits BinOp.and IntKind.u64
 (IntKind.u64.wrap
 (bits BinOp.and IntKind.u64 (s / (2 : Int) ^ Int.toNat (1 : Int))
 (6148914691236517205 : Int) +
 bits BinOp.and IntKind.u64 s (6148914691236517205 : Int)) /
 (2 : Int) ^ Int.toNat (2 : Int))
 (3689348814741910323 : Int) +
 bits BinOp.and IntKind.u64
 (IntKind.u64.wrap
 (bits BinOp.and IntKind.u64 (s / (2 : Int) ^ Int.toNat (1 : Int))
 (6148914691236517205 : Int) +
 bits BinOp.and IntKind.u64 s (6148914691236517205 : Int)))
 (3689348814741910323 : Int)) /
 (2 : Int) ^ Int.toNat (4 : Int) +
 IntKind.u64.wrap
 (bits BinOp.and IntKind.u64
 (IntKind.u64.wrap
 (bits BinOp.and IntKind.u64 (s / (2 : Int) ^ Int.toNat (1 : Int))
 (6148914691236517205 : Int) +
 bits BinOp.and IntKind.u64 s (6148914691236517205 : Int)) /
 (2 : Int) ^ Int.toNat (2 : Int))
 (3689348814741910323 : Int) +
 bits BinOp.and IntKind.u64
 (IntKind.u64.wrap
 (bits BinOp.and IntKind.u64 (s / (2 : Int) ^ Int.toNat (1 : Int))
 (6148914691236517205 : Int) +
 bits BinOp.and IntKind.u64 s (6148914691236517205 : Int)))
 (3689348814741910323 : Int))))
 (1085102592571150095 : Int) +
 bits BinOp.and IntKind.u64
 (IntKind.u64.wrap
 (IntKind.u64.wrap
 (bits BinOp.and IntKind.u64
 (IntKind.u64.wrap
 (bits BinOp.and IntKind.u64 (s / (2 : Int) ^ Int.toNat (1 : Int))
 (6148914691236517205 : Int) +
 bits BinOp.and IntKind.u64 s (6148914691236517205 : Int)) /
 (2 : Int) ^ Int.toNat (2 : Int))
 (3689348814741910323 : Int) +
 bits BinOp.and IntKind.u64
 (IntKind.u64.wrap
 (bits BinOp.and IntKind.u64 (s / (2 : Int) ^ Int.toNat (1 : Int))
 (6148914691236517205 : Int) +
 bits BinOp.and IntKind.u64 s (6148914691236517205 : Int)))
 (3689348814741910323 : Int)) /
 (2 : Int) ^ Int.toNat (4 : Int) +
 IntKind.u64.wrap
 (bits BinOp.and IntKind.u64
 (IntKind.u64.wrap
 (bits BinOp.and IntKind.u64 (s / (2 : Int) ^ Int.toNat (1 : Int))
 (6148914691236517205 : Int) +
 bits BinOp.and IntKind.u64 s (6148914691236517205 : Int)) /
 (2 : Int) ^ Int.toNat (2 : Int))
 (3689348814741910323 : Int) +
 bits BinOp.and IntKind.u64
 (IntKind.u64.wrap
 (bits BinOp.and IntKind.u64 (s / (2 : Int) ^ Int.toNat (1 : Int))
 (6148914691236517205 : Int) +
 bits BinOp.and IntKind.u64 s (6148914691236517205 : Int)))
 (3689348814741910323 : Int))))
 (1085102592571150095 : Int) /
 (2 : Int) ^ Int.toNat (8 : Int)) +
 IntKind.u64.wrap
 (bits BinOp.and IntKind.u64
 (IntKind.u64.wrap
 (IntKind.u64.wrap
 (bits BinOp.and IntKind.u64
 (IntKind.u64.wrap
 (bits BinOp.and IntKind.u64 (s / (2 : Int) ^ Int.toNat (1 : Int))
 (6148914691236517205 : Int) +
 bits BinOp.and IntKind.u64 s (6148914691236517205 : Int)) /
 (2 : Int) ^ Int.toNat (2 : Int))
 (3689348814741910323 : Int) +
 bits BinOp.and IntKind.u64
 (IntKind.u64.wrap
 (bits BinOp.and IntKind.u64 (s / (2 : Int) ^ Int.toNat (1 : Int))
 (6148914691236517205 : Int) +
 bits BinOp.and IntKind.u64 s (6148914691236517205 : Int)))
 (3689348814741910323 : Int)) /
 (2 : Int) ^ Int.toNat (4 : Int) +
 IntKind.u64.wrap
 (bits BinOp.and IntKind.u64
 (IntKind.u64.wrap
 (bits BinOp.and IntKind.u64 (s / (2 : Int) ^ Int.toNat (1 : Int))
 (6148914691236517205 : Int) +
 bits BinOp.and IntKind.u64 s (6148914691236517205 : Int)) /
 (2 : Int) ^ Int.toNat (2 : Int))
 (3689348814741910323 : Int) +
 bits BinOp.and IntKind.u64
 (IntKind.u64.wrap
 (bits BinOp.and IntKind.u64 (s / (2 : Int) ^ Int.toNat (1 : Int))
 (6148914691236517205 : Int) +
 bits BinOp.and IntKind.u64 s (6148914691236517205 : Int)))
 (3689348814741910323 : Int))))
 (1085102592571150095 : Int) +
 bits BinOp.and IntKind.u64
 (IntKind.u64.wrap
 (IntKind.u64.wrap
 (bits BinOp.and IntKind.u64
 (IntKind.u64.wrap
 (bits BinOp.and IntKind.u64 (s / (2 : Int) ^ Int.toNat (1 : Int))
 (6148914691236517205 : Int) +
 bits BinOp.and IntKind.u64 s (6148914691236517205 : Int)) /
 (2 : Int) ^ Int.toNat (2 : Int))
 (3689348814741910323 : Int) +
 bits BinOp.and IntKind.u64
 (IntKind.u64.wrap
 (bits BinOp.and IntKind.u64 (s / (2 : Int) ^ Int.toNat (1 : Int))
 (6148914691236517205 : Int) +
 bits BinOp.and IntKind.u64 s (6148914691236517205 : Int)))
 (3689348814741910323 : Int)) /
 (2 : Int) ^ Int.toNat (4 : Int) +
 IntKind.u64.wrap
 (bits BinOp.and IntKind.u64
 (IntKind.u64.wrap
 (bits BinOp.and IntKind.u64 (s / (2 : Int) ^ Int.toNat (1 : Int))
 (6148914691236517205 : Int) +
 bits BinOp.and IntKind.u64 s (6148914691236517205 : Int)) /
 (2 : Int) ^ Int.toNat (2 : Int))
 (3689348814741910323 : Int) +
 bits BinOp.and IntKind.u64
 (IntKind.u64.wrap
 (bits BinOp.and IntKind.u64 (s / (2 : Int) ^ Int.toNat (1 : Int))
 (6148914691236517205 : Int) +
 bits BinOp.and IntKind.u64 s (6148914691236517205 : Int)))
 (3689348814741910323 : Int))))
 (1085102592571150095 : Int) /
 (2 : Int) ^ Int.toNat (8 : Int)) /
 (2 : Int) ^ Int.toNat (16 : Int)) /
 (2 : Int) ^ Int.toNat (32 : Int))))
 (127 : Int) =
 (↑(siz (64 : Nat) s.toNat) : Int)) := by kernel_rfl
theorem v50 (s : Int) (hs : 0 ≤ s ∧ s < 18446744073709551616) : fnVc (tab [] []) Try.f50 [.i .u64 s] [] (plainIs (.i .i64 (siz 64 s.toNat : Int))) := by
  rw [v50_eq]
  obtain ⟨m, rfl⟩ := Int.eq_ofNat_of_zero_le hs.1
  have hm : m < 18446744073709551616 := by omega
  have b1 := pb1 m
  have b2 := pb2 (st1 8 m)
  have b3 := pb3 (st2 8 (st1 8 m))
  simp only [pe1 hm, pe2 (show st1 8 m < 18446744073709551616 by omega), pe3 b2]
  refine ⟨by decide, by decide, by decide, by decide, by decide, by decide, ?_⟩
  rw [pe4 (Int.toNat 8) (by omega), pe4 (Int.toNat 16) (by have := Nat.div_le_self (st3 8 (st2 8 (st1 8 m))) (2 ^ Int.toNat 8); omega), pe4 (Int.toNat 32)]
  · generalize hx : st3 8 (st2 8 (st1 8 m)) = x at *
    obtain ⟨p1, p2⟩ := pop_eq (m := m) (x := x) (y := x + x / 256) (z := x + x / 256 + (x + x / 256) / 65536) (by simpa using hm) hx.symm rfl rfl
    have e8 : (2 : Nat) ^ Int.toNat 8 = 256 := by decide
    have e16 : (2 : Nat) ^ Int.toNat 16 = 65536 := by decide
    have e32 : (2 : Nat) ^ Int.toNat 32 = 4294967296 := by decide
    rw [e8, e16, e32, and_i64 (by omega), p2, Int.toNat_natCast]
  · have e8 : (2 : Nat) ^ Int.toNat 8 = 256 := by decide
    have e16 : (2 : Nat) ^ Int.toNat 16 = 65536 := by decide
    rw [e8, e16]; omega
theorem isX_no {N : Int} {l : List Pq} {o : List Int} (h : (!validF N l || (o.length : Int) != N) = true) : isX N l o = false := by
  rw [isX]
  cases hv : validF N l
  · rfl
  · rw [hv] at h
    have hN := (validF_iff.1 hv).1
    have : ¬ o.length = N.toNat := fun e => by
      have : (o.length : Int) = N := by omega
      rw [this] at h; simp at h
    rw [show (o.length == N.toNat) = false from beq_false_of_ne this]; simp
theorem isX_val {N : Int} {l : List Pq} {o : List Int} (h : (!validF N l || (o.length : Int) != N) = false) : validF N l = true ∧ o.length = N.toNat ∧ isX N l o = ((List.range N.toNat).all (fun n : Nat => hasI o n) && l.all (fun p => decide (posI p.1 o 0 < posI p.2 o 0))) := by
  rw [Bool.or_eq_false_iff] at h
  have hv : validF N l = true := by simpa using h.1
  have he : (o.length : Int) = N := by simpa using h.2
  have he : o.length = N.toNat := by omega
  exact ⟨hv, he, by rw [isX, hv, he, beq_self_eq_true, Bool.true_and, Bool.true_and]⟩
theorem range_all {f : Nat → Bool} {k : Nat} : (List.range (k + 1)).all f = ((List.range k).all f && f k) := by
  rw [List.range_succ, List.all_append]; simp
theorem all_not {α : Type} {l : List α} {f : α → Bool} {x : α} (h : x ∈ l) (hx : f x = false) : l.all f = false := by
  cases hb : l.all f
  · rfl
  · rw [List.all_eq_true.1 hb x h] at hx; cases hx
theorem take_all {α : Type} {l : List α} {f : α → Bool} {k : Nat} (d : α) (h : k < l.length) : (l.take (k + 1)).all f = ((l.take k).all f && f (nthD d l k)) := by
  rw [take_succ' d h, List.all_append]; simp
theorem v17_eq (N : Int) (l : List Pq) (o : List Int) : (fnVc (tab [kVal' [], kPos []] [(0, .of (lIs3 N o 5)), (2, .of (lIs2 l o 6))]) Try.f17 [rlV N 0 l, .sl 1 o.length] [arP l, arI o] (plainIs (.b (isX N l o)))) = (l.length = l.length ∧
 (psK l).length ≤
 (1099511627776 : Nat) ∧
 ((!validF N
 (psK l) ||
 (↑o.length : Int) != N) =
 true →
 false = isX N l o) ∧
 ((!validF N
 (psK l) ||
 (↑o.length : Int) != N) =
 false →
 ∃ (x : PUnit),
 (∃ (x : Nat),
 (x ≤ N.toNat ∧ ((List.range x).all fun (n : Nat) => hasI o (↑n : Int)) = true) ∧
 ((0 : Int) = (↑x : Int) ∧ True) ∧ True) ∧
 ∀ (x_1 : Nat),
 x_1 ≤ N.toNat ∧ ((List.range x_1).all fun (n : Nat) => hasI o (↑n : Int)) = true →
 (decide ((↑x_1 : Int) < N) = true →
 o.length = o.length ∧
 (mkN (nthD (0 : Int) o) o.length).length ≤ (1099511627776 : Nat) ∧
 (decide (posI (↑x_1 : Int) (mkN (nthD (0 : Int) o) o.length) (0 : Int) < (0 : Int)) = true →
 false = isX N l o) ∧
 (decide (posI (↑x_1 : Int) (mkN (nthD (0 : Int) o) o.length) (0 : Int) < (0 : Int)) = false →
 ∃ (x_2 : Nat),
 (x_2 ≤ N.toNat ∧ ((List.range x_2).all fun (n : Nat) => hasI o (↑n : Int)) = true) ∧
 ((PLoop.of (lIs3 N o (5 : Nat))).ann x).mu x_2 <
 ((PLoop.of (lIs3 N o (5 : Nat))).ann x).mu x_1 ∧
 ((N = N ∧ l.length = l.length) ∧
 o.length = o.length ∧
 True ∧
 IntKind.i64.wrap ((↑x_1 : Int) + (1 : Int)) = (↑x_2 : Int) ∧
 (N = N ∧ l.length = l.length) ∧
 validF N
 (psK l) =
 validF N
 (psK l) ∧
 (!validF N
 (psK l)) =
 !validF N
 (psK l) ∧
 (!validF N
 (psK l)) =
 !validF N
 (psK l) ∧
 false = false ∧ True) ∧
 (l.length = l.length ∧
 (∀ (j : Nat),
 j < l.length →
 (nthD ((0 : Int), (0 : Int)) l j).fst =
 (nthD ((0 : Int), (0 : Int)) l j).fst) ∧
 (∀ (j : Nat),
 j < l.length →
 (nthD ((0 : Int), (0 : Int)) l j).snd =
 (nthD ((0 : Int), (0 : Int)) l j).snd) ∧
 True) ∧
 (o.length = o.length ∧
 (∀ (j : Nat), j < o.length → nthD (0 : Int) o j = nthD (0 : Int) o j) ∧
 True) ∧
 (N = N ∧ l.length = l.length) ∧ True)) ∧
 (decide ((↑x_1 : Int) < N) = false →
 ∃ (x : PUnit),
 (∃ (x : Nat),
 (x ≤ l.length ∧
 ((List.take x l).all fun (p : Pq) =>
 decide (posI p.fst o (0 : Int) < posI p.snd o (0 : Int))) =
 true) ∧
 ((0 : Int) = (↑x : Int) ∧ True) ∧ True) ∧
 ∀ (x_2 : Nat),
 x_2 ≤ l.length ∧
 ((List.take x_2 l).all fun (p : Pq) =>
 decide (posI p.fst o (0 : Int) < posI p.snd o (0 : Int))) =
 true →
 (decide ((↑x_2 : Int) < (↑l.length : Int)) = true →
 ((0 : Int) ≤ (↑x_2 : Int) ∧ (↑x_2 : Int) < (↑l.length : Int)) ∧
 x_2 < l.length ∧
 o.length = o.length ∧
 (mkN (nthD (0 : Int) o) o.length).length ≤ (1099511627776 : Nat) ∧
 ((0 : Int) ≤ (↑x_2 : Int) ∧ (↑x_2 : Int) < (↑l.length : Int)) ∧
 x_2 < l.length ∧
 o.length = o.length ∧
 (mkN (nthD (0 : Int) o) o.length).length ≤ (1099511627776 : Nat) ∧
 (decide
 (posI (nthD ((0 : Int), (0 : Int)) l x_2).fst
 (mkN (nthD (0 : Int) o) o.length) (0 : Int) ≥
 posI (nthD ((0 : Int), (0 : Int)) l x_2).snd
 (mkN (nthD (0 : Int) o) o.length) (0 : Int)) =
 true →
 false = isX N l o) ∧
 (decide
 (posI (nthD ((0 : Int), (0 : Int)) l x_2).fst
 (mkN (nthD (0 : Int) o) o.length) (0 : Int) ≥
 posI (nthD ((0 : Int), (0 : Int)) l x_2).snd
 (mkN (nthD (0 : Int) o) o.length) (0 : Int)) =
 false →
 ∃ (x_3 : Nat),
 (x_3 ≤ l.length ∧
 ((List.take x_3 l).all fun (p : Pq) =>
 decide
 (posI p.fst o (0 : Int) < posI p.snd o (0 : Int))) =
 true) ∧
 ((PLoop.of (lIs2 l o (6 : Nat))).ann x).mu x_3 <
 ((PLoop.of (lIs2 l o (6 : Nat))).ann x).mu x_2 ∧
 ((N = N ∧ l.length = l.length) ∧
 o.length = o.length ∧
 True ∧
 (↑x_1 : Int) = (↑x_1 : Int) ∧
 IntKind.i64.wrap ((↑x_2 : Int) + (1 : Int)) =
 (↑x_3 : Int) ∧
 (N = N ∧ l.length = l.length) ∧
 validF N
 (psK l) =
 validF N
 (psK l) ∧
 (!validF N
 (psK l)) =
 !validF N
 (psK l) ∧
 (!validF N
 (psK l)) =
 !validF N
 (psK l) ∧
 false = false ∧
 (↑x_1 : Int) = (↑x_1 : Int) ∧
 True ∧ N = N ∧ false = false ∧ True) ∧
 (l.length = l.length ∧
 (∀ (j : Nat),
 j < l.length →
 (nthD ((0 : Int), (0 : Int)) l j).fst =
 (nthD ((0 : Int), (0 : Int)) l j).fst) ∧
 (∀ (j : Nat),
 j < l.length →
 (nthD ((0 : Int), (0 : Int)) l j).snd =
 (nthD ((0 : Int), (0 : Int)) l j).snd) ∧
 True) ∧
 (o.length = o.length ∧
 (∀ (j : Nat),
 j < o.length →
 nthD (0 : Int) o j = nthD (0 : Int) o j) ∧
 True) ∧
 (N = N ∧ l.length = l.length) ∧ True)) ∧
 (decide ((↑x_2 : Int) < (↑l.length : Int)) = false → true = isX N l o)))) := by kernel_rfl
theorem v17 (N : Int) (l : List Pq) (o : List Int) (hl : L9 l) (ho : L9 o) : fnVc (tab [kVal' [], kPos []] [(0, .of (lIs3 N o 5)), (2, .of (lIs2 l o 6))]) Try.f17 [rlV N 0 l, .sl 1 o.length] [arP l, arI o] (plainIs (.b (isX N l o))) := by
  rw [v17_eq]
  simp only [eq_self, true_and, and_true, implies_true, imp_self, psK_eq, mkN_ps, mkN_rs, mkN_self, mkN_len, PLoop.of, lCnt, AV.len, lIs0, lIs1, lIs2, lIs3]
  have hl : l.length ≤ 1099511627776 := hl
  have ho : o.length ≤ 1099511627776 := ho
  refine ⟨hl, fun h => (isX_no h).symm, fun h => ?_⟩
  obtain ⟨hv, he, hX⟩ := isX_val h
  have hN := (validF_iff.1 hv).2.1
  refine ⟨(), ⟨0, ⟨Nat.zero_le _, rfl⟩, rfl⟩, fun x hx => ⟨fun hlx => ?_, fun hlx => ?_⟩⟩
  · have hx2 : x < N.toNat := by have := of_decide_eq_true hlx; omega
    refine ⟨ho, fun hn => ?_, fun hn => ⟨x + 1, ⟨hx2, ?_⟩, by omega, wrS (n := 64) (by omega) (by omega)⟩⟩
    · rw [posI_lt _ _ (by omega)] at hn
      rw [hX]
      have : (List.range N.toNat).all (fun n : Nat => hasI o n) = false := all_not (x := x) (List.mem_range.2 hx2) (by simpa using hn)
      rw [this, Bool.false_and]
    · rw [posI_lt _ _ (by omega)] at hn
      rw [range_all, hx.2]
      simpa using hn
  · have hx2 : x = N.toNat := by have := of_decide_eq_false hlx; omega
    have HALL := hx.2
    rw [hx2] at HALL
    refine ⟨(), ⟨0, ⟨Nat.zero_le _, rfl⟩, rfl⟩, fun k hk => ⟨fun hlt => ?_, fun hlt => ?_⟩⟩
    · have hi2 : k < l.length := lt_len hlt
      refine ⟨bd hi2, hi2, ho, bd hi2, hi2, ho, fun hn => ?_, fun hn => ⟨k + 1, ⟨hi2, ?_⟩, by omega, wrS (n := 1099511627776) (by omega) (by omega)⟩⟩
      · rw [hX]
        have : l.all (fun p => decide (posI p.1 o 0 < posI p.2 o 0)) = false := all_not (x := nthD (0, 0) l k) (nthD_mem _ hi2) (decide_eq_false (by have := of_decide_eq_true hn; omega))
        rw [this, Bool.and_false]
      · rw [take_all (0, 0) hi2, hk.2, Bool.true_and]
        exact decide_eq_true (by have := of_decide_eq_false hn; omega)
    · have := ge_len hlt hk.1
      subst this
      have h2 := hk.2
      rw [List.take_length] at h2
      rw [hX, h2, HALL, Bool.and_true]
theorem natBeq_f {a b : Nat} (h : a ≠ b) : Nat.beq a b = false := by
  cases hb : Nat.beq a b
  · rfl
  · exact absurd (Nat.eq_of_beq_eq_true hb) h
theorem posI_app {n x : Int} : ∀ (l : List Int) (i : Int), posI n (l ++ [x]) i = bif hasI l n then posI n l i else bif x == n then i + l.length else -1 := by
  intro l
  induction l with
  | nil => intro i; simp [posI, hasI]
  | cons y r ih =>
    intro i
    have e : hasI (y :: r) n = (y == n || hasI r n) := rfl
    rw [List.cons_append, posI, ih, e, posI]
    cases hy : (y == n)
    · rw [cond_false, cond_false, Bool.false_or, List.length_cons]
      congr 1
      congr 1
      omega
    · rfl
theorem rangeI_nodup (n : Nat) : ((List.range n).map (fun i : Nat => (i : Int))).Nodup := by
  rw [List.nodup_iff_pairwise_ne, List.pairwise_map]
  exact List.nodup_range.imp fun hab h => hab (by omega)
theorem perm_in {n : Nat} {o : List Int} (h : (List.range n).all (fun m : Nat => hasI o m) = true) (hl : o.length = n) : (∀ x ∈ o, 0 ≤ x ∧ x < (n : Int)) ∧ ∀ k, k < n → nthD 0 o k ∉ o.take k := by
  have hsub : ∀ x ∈ (List.range n).map (fun i : Nat => (i : Int)), x ∈ o := fun x hx => by
    obtain ⟨i, hi, rfl⟩ := List.mem_map.1 hx
    exact hasI_iff.1 (List.all_eq_true.1 h i hi)
  constructor
  · intro x hx
    refine Classical.byContradiction fun hno => ?_
    have hnd : (x :: (List.range n).map (fun i : Nat => (i : Int))).Nodup := List.nodup_cons.2 ⟨fun hm => by
      obtain ⟨i, hi, rfl⟩ := List.mem_map.1 hm
      have := List.mem_range.1 hi
      omega, rangeI_nodup n⟩
    have := len_sub _ o hnd fun y hy => by
      rcases List.mem_cons.1 hy with e | h
      · exact e ▸ hx
      · exact hsub y h
    simp at this
    omega
  · intro k hk hm
    have hko : k < o.length := by omega
    have := len_sub _ (o.take k ++ o.drop (k + 1)) (rangeI_nodup n) fun y hy => by
      have hy := hsub y hy
      have ho : o = o.take k ++ nthD 0 o k :: o.drop (k + 1) := by
        rw [nthD_get _ _ _ hko, ← List.drop_eq_getElem_cons hko, List.take_append_drop]
      rw [ho] at hy
      rcases List.mem_append.1 hy with h | h
      · exact List.mem_append.2 (.inl h)
      · rcases List.mem_cons.1 h with e | h
        · exact List.mem_append.2 (.inl (e ▸ hm))
        · exact List.mem_append.2 (.inr h)
    simp at this
    omega
theorem perm_all {n : Nat} {o : List Int} (hr : ∀ x ∈ o, 0 ≤ x ∧ x < (n : Int)) (hd : o.Nodup) (hl : o.length = n) : (List.range n).all (fun m : Nat => hasI o m) = true := by
  refine List.all_eq_true.2 fun m hm => hasI_iff.2 ?_
  refine Classical.byContradiction fun hno => ?_
  have := len_sub ((m : Int) :: o) ((List.range n).map (fun i : Nat => (i : Int))) (List.nodup_cons.2 ⟨hno, hd⟩) fun y hy => by
    rcases List.mem_cons.1 hy with e | h
    · rw [e]; exact List.mem_map.2 ⟨m, hm, rfl⟩
    · have := hr y h
      exact List.mem_map.2 ⟨y.toNat, List.mem_range.2 (by omega), by omega⟩
  simp at this
  omega
theorem nodup_snoc {l : List Int} {x : Int} (h : l.Nodup) (hx : x ∉ l) : (l ++ [x]).Nodup := by
  rw [List.nodup_append]
  refine ⟨h, by simp, fun a ha b hb => ?_⟩
  rw [List.mem_singleton.1 hb]
  exact fun e => hx (e ▸ ha)
theorem v16_eq (N : Int) (l : List Pq) (o : List Int) : (fnVc (tab [kVal []] [(0, .of (lIs0 N 26 3)), (2, .of (lIs1 N o 35 3)), (4, .of (lIs2 l o 63))]) Try.f16 [rlV N 0 l, .sl 1 o.length] [arP l, arI o] (plainIs (.b (isX N l o)))) = (l.length = l.length ∧
 (psK l).length ≤
 (1099511627776 : Nat) ∧
 ((!validF N
 (psK l) ||
 (↑o.length : Int) != N) =
 true →
 false = isX N l o) ∧
 ((!validF N
 (psK l) ||
 (↑o.length : Int) != N) =
 false →
 (0 : Int) ≤ N ∧
 N = N ∧
 (↑(8 : Nat) : Int) * N ≤ (281474976710656 : Int) ∧
 N ≤ (9223372036854775807 : Int) ∧
 ∃ (x : PUnit),
 (∃ (x : Nat),
 (x ≤ N.toNat ∧ True) ∧
 ((0 : Int) = (↑x : Int) ∧ True) ∧
 (N.toNat = N.toNat ∧
 (∀ (j : Nat), j < N.toNat → (0 : Int) = bif j.blt x then (-1 : Int) else (0 : Int)) ∧
 True) ∧
 True) ∧
 ∀ (x_1 : Nat),
 x_1 ≤ N.toNat ∧ True →
 (decide ((↑x_1 : Int) < (↑N.toNat : Int)) = true →
 ((0 : Int) ≤ (↑x_1 : Int) ∧ (↑x_1 : Int) < (↑N.toNat : Int)) ∧
 x_1 < N.toNat ∧
 ∃ (x_2 : Nat),
 (x_2 ≤ N.toNat ∧ True) ∧
 ((PLoop.of (lIs0 N (26 : Nat) (3 : Nat))).ann x).mu x_2 <
 ((PLoop.of (lIs0 N (26 : Nat) (3 : Nat))).ann x).mu x_1 ∧
 ((N = N ∧ l.length = l.length) ∧
 o.length = o.length ∧
 True ∧
 false = false ∧
 N.toNat = N.toNat ∧
 (N = N ∧ l.length = l.length) ∧
 validF N
 (psK l) =
 validF N
 (psK l) ∧
 (!validF N
 (psK l)) =
 !validF N
 (psK l) ∧
 (!validF N
 (psK l)) =
 !validF N
 (psK l) ∧
 false = false ∧
 True ∧
 N = N ∧
 N.toNat = N.toNat ∧
 N.toNat = N.toNat ∧
 (↑N.toNat : Int) = (↑N.toNat : Int) ∧
 IntKind.i64.wrap ((↑x_1 : Int) + (1 : Int)) =
 (↑x_2 : Int) ∧
 True) ∧
 (l.length = l.length ∧
 (∀ (j : Nat),
 j < l.length →
 (nthD ((0 : Int), (0 : Int)) l j).fst =
 (nthD ((0 : Int), (0 : Int)) l j).fst) ∧
 (∀ (j : Nat),
 j < l.length →
 (nthD ((0 : Int), (0 : Int)) l j).snd =
 (nthD ((0 : Int), (0 : Int)) l j).snd) ∧
 True) ∧
 (o.length = o.length ∧
 (∀ (j : Nat), j < o.length → nthD (0 : Int) o j = nthD (0 : Int) o j) ∧
 True) ∧
 (N = N ∧ l.length = l.length) ∧
 (N.toNat = N.toNat ∧
 (∀ (j : Nat),
 j < N.toNat →
 (bif j.beq x_1 then (-1 : Int)
 else bif j.blt x_1 then (-1 : Int) else (0 : Int)) =
 bif j.blt x_2 then (-1 : Int) else (0 : Int)) ∧
 True) ∧
 True) ∧
 (decide ((↑x_1 : Int) < (↑N.toNat : Int)) = false →
 ∃ (x : PUnit),
 (∃ (x : Nat),
 (x ≤ o.length ∧
 (∀ (x_2 : Int), List.Mem x_2 (List.take x o) → (0 : Int) ≤ x_2 ∧ x_2 < N) ∧
 List.Pairwise (fun (x1 x2 : Int) => x1 ≠ x2) (List.take x o)) ∧
 ((0 : Int) = (↑x : Int) ∧ True) ∧
 (N.toNat = N.toNat ∧
 (∀ (j : Nat),
 j < N.toNat →
 (bif j.blt x_1 then (-1 : Int) else (0 : Int)) =
 posI (↑j : Int) (List.take x o) (0 : Int)) ∧
 True) ∧
 True) ∧
 ∀ (x_2 : Nat),
 x_2 ≤ o.length ∧
 (∀ (x : Int), List.Mem x (List.take x_2 o) → (0 : Int) ≤ x ∧ x < N) ∧
 List.Pairwise (fun (x1 x2 : Int) => x1 ≠ x2) (List.take x_2 o) →
 (decide ((↑x_2 : Int) < (↑o.length : Int)) = true →
 ((0 : Int) ≤ (↑x_2 : Int) ∧ (↑x_2 : Int) < (↑o.length : Int)) ∧
 x_2 < o.length ∧
 ((decide (nthD (0 : Int) o x_2 < (0 : Int)) ||
 decide (nthD (0 : Int) o x_2 ≥ N)) =
 false →
 (0 : Int) ≤ nthD (0 : Int) o x_2 ∧
 nthD (0 : Int) o x_2 < (↑N.toNat : Int)) ∧
 ((decide (nthD (0 : Int) o x_2 < (0 : Int)) ||
 decide (nthD (0 : Int) o x_2 ≥ N)) =
 false →
 (nthD (0 : Int) o x_2).toNat < N.toNat) ∧
 ((decide (nthD (0 : Int) o x_2 < (0 : Int)) ||
 decide (nthD (0 : Int) o x_2 ≥ N) ||
 decide
 (posI (↑(nthD (0 : Int) o x_2).toNat : Int) (List.take x_2 o)
 (0 : Int) ≥
 (0 : Int))) =
 true →
 false = isX N l o) ∧
 ((decide (nthD (0 : Int) o x_2 < (0 : Int)) ||
 decide (nthD (0 : Int) o x_2 ≥ N) ||
 decide
 (posI (↑(nthD (0 : Int) o x_2).toNat : Int) (List.take x_2 o)
 (0 : Int) ≥
 (0 : Int))) =
 false →
 ((0 : Int) ≤ nthD (0 : Int) o x_2 ∧
 nthD (0 : Int) o x_2 < (↑N.toNat : Int)) ∧
 (nthD (0 : Int) o x_2).toNat < N.toNat ∧
 ∃ (x_3 : Nat),
 (x_3 ≤ o.length ∧
 (∀ (x : Int),
 List.Mem x (List.take x_3 o) →
 (0 : Int) ≤ x ∧ x < N) ∧
 List.Pairwise (fun (x1 x2 : Int) => x1 ≠ x2)
 (List.take x_3 o)) ∧
 ((PLoop.of (lIs1 N o (35 : Nat) (3 : Nat))).ann x).mu x_3 <
 ((PLoop.of (lIs1 N o (35 : Nat) (3 : Nat))).ann x).mu
 x_2 ∧
 ((N = N ∧ l.length = l.length) ∧
 o.length = o.length ∧
 True ∧
 N.toNat = N.toNat ∧
 (N = N ∧ l.length = l.length) ∧
 validF N
 (psK l) =
 validF N
 (psK l) ∧
 (!validF N
 (psK l)) =
 !validF N
 (psK l) ∧
 (!validF N
 (psK l)) =
 !validF N
 (psK l) ∧
 false = false ∧
 True ∧
 N = N ∧
 N.toNat = N.toNat ∧
 N.toNat = N.toNat ∧
 (↑N.toNat : Int) =
 (↑N.toNat : Int) ∧
 (↑x_1 : Int) =
 (↑x_1 : Int) ∧
 false = false ∧
 o.length = o.length ∧
 (↑o.length : Int) =
 (↑o.length :
 Int) ∧
 IntKind.i64.wrap
 ((↑x_2 :
 Int) +
 (1 : Int)) =
 (↑x_3 : Int) ∧
 True) ∧
 (l.length = l.length ∧
 (∀ (j : Nat),
 j < l.length →
 (nthD ((0 : Int), (0 : Int)) l j).fst =
 (nthD ((0 : Int), (0 : Int)) l j).fst) ∧
 (∀ (j : Nat),
 j < l.length →
 (nthD ((0 : Int), (0 : Int)) l j).snd =
 (nthD ((0 : Int), (0 : Int)) l j).snd) ∧
 True) ∧
 (o.length = o.length ∧
 (∀ (j : Nat),
 j < o.length →
 nthD (0 : Int) o j = nthD (0 : Int) o j) ∧
 True) ∧
 (N = N ∧ l.length = l.length) ∧
 (N.toNat = N.toNat ∧
 (∀ (j : Nat),
 j < N.toNat →
 (bif
 j.beq
 (nthD (0 : Int) o
 x_2).toNat then
 (↑x_2 : Int)
 else
 posI (↑j : Int) (List.take x_2 o)
 (0 : Int)) =
 posI (↑j : Int) (List.take x_3 o)
 (0 : Int)) ∧
 True) ∧
 True)) ∧
 (decide ((↑x_2 : Int) < (↑o.length : Int)) = false →
 ∃ (x : PUnit),
 (∃ (x : Nat),
 (x ≤ l.length ∧
 ((List.take x l).all fun (p : Pq) =>
 decide (posI p.fst o (0 : Int) < posI p.snd o (0 : Int))) =
 true) ∧
 ((0 : Int) = (↑x : Int) ∧ True) ∧ True) ∧
 ∀ (x_3 : Nat),
 x_3 ≤ l.length ∧
 ((List.take x_3 l).all fun (p : Pq) =>
 decide (posI p.fst o (0 : Int) < posI p.snd o (0 : Int))) =
 true →
 (decide ((↑x_3 : Int) < (↑l.length : Int)) = true →
 ((0 : Int) ≤ (↑x_3 : Int) ∧ (↑x_3 : Int) < (↑l.length : Int)) ∧
 x_3 < l.length ∧
 ((0 : Int) ≤ (nthD ((0 : Int), (0 : Int)) l x_3).fst ∧
 (nthD ((0 : Int), (0 : Int)) l x_3).fst <
 (↑N.toNat : Int)) ∧
 (nthD ((0 : Int), (0 : Int)) l x_3).fst.toNat < N.toNat ∧
 ((0 : Int) ≤ (nthD ((0 : Int), (0 : Int)) l x_3).snd ∧
 (nthD ((0 : Int), (0 : Int)) l x_3).snd <
 (↑N.toNat : Int)) ∧
 (nthD ((0 : Int), (0 : Int)) l x_3).snd.toNat < N.toNat ∧
 (decide
 (posI
 (↑(nthD ((0 : Int), (0 : Int)) l
 x_3).fst.toNat :
 Int)
 (List.take x_2 o) (0 : Int) ≥
 posI
 (↑(nthD ((0 : Int), (0 : Int)) l
 x_3).snd.toNat :
 Int)
 (List.take x_2 o) (0 : Int)) =
 true →
 false = isX N l o) ∧
 (decide
 (posI
 (↑(nthD ((0 : Int), (0 : Int)) l
 x_3).fst.toNat :
 Int)
 (List.take x_2 o) (0 : Int) ≥
 posI
 (↑(nthD ((0 : Int), (0 : Int)) l
 x_3).snd.toNat :
 Int)
 (List.take x_2 o) (0 : Int)) =
 false →
 ∃ (x_4 : Nat),
 (x_4 ≤ l.length ∧
 ((List.take x_4 l).all fun (p : Pq) =>
 decide
 (posI p.fst o (0 : Int) <
 posI p.snd o (0 : Int))) =
 true) ∧
 ((PLoop.of (lIs2 l o (63 : Nat))).ann x).mu
 x_4 <
 ((PLoop.of (lIs2 l o (63 : Nat))).ann x).mu
 x_3 ∧
 ((N = N ∧ l.length = l.length) ∧
 o.length = o.length ∧
 True ∧
 N.toNat = N.toNat ∧
 (N = N ∧ l.length = l.length) ∧
 validF N
 (psK l) =
 validF N
 (psK l) ∧
 (!validF N
 (psK l)) =
 !validF N
 (psK l) ∧
 (!validF N
 (psK l)) =
 !validF N
 (psK l) ∧
 false = false ∧
 True ∧
 N = N ∧
 N.toNat = N.toNat ∧
 N.toNat = N.toNat ∧
 (↑N.toNat : Int) =
 (↑N.toNat :
 Int) ∧
 (↑x_1 : Int) =
 (↑x_1 :
 Int) ∧
 false =
 false ∧
 o.length =
 o.length ∧
 (↑o.length :
 Int) =
 (↑o.length :
 Int) ∧
 (↑x_2 :
 Int) =
 (↑x_2 :
 Int) ∧
 false =
 false ∧
 True ∧
 l.length =
 l.length ∧
 (↑l.length :
 Int) =
 (↑l.length :
 Int) ∧
 IntKind.i64.wrap
 ((↑x_3 :
 Int) +
 (1 :
 Int)) =
 (↑x_4 :
 Int) ∧
 True) ∧
 (l.length = l.length ∧
 (∀ (j : Nat),
 j < l.length →
 (nthD ((0 : Int), (0 : Int)) l
 j).fst =
 (nthD ((0 : Int), (0 : Int)) l
 j).fst) ∧
 (∀ (j : Nat),
 j < l.length →
 (nthD ((0 : Int), (0 : Int)) l
 j).snd =
 (nthD ((0 : Int), (0 : Int)) l
 j).snd) ∧
 True) ∧
 (o.length = o.length ∧
 (∀ (j : Nat),
 j < o.length →
 nthD (0 : Int) o j =
 nthD (0 : Int) o j) ∧
 True) ∧
 (N = N ∧ l.length = l.length) ∧
 (N.toNat = N.toNat ∧
 (∀ (j : Nat),
 j < N.toNat →
 posI (↑j : Int)
 (List.take x_2 o)
 (0 : Int) =
 posI (↑j : Int)
 (List.take x_2 o)
 (0 : Int)) ∧
 True) ∧
 True)) ∧
 (decide ((↑x_3 : Int) < (↑l.length : Int)) = false →
 true = isX N l o))))) := by kernel_rfl
theorem v16 (N : Int) (l : List Pq) (o : List Int) (hl : L9 l) (ho : L9 o) : fnVc (tab [kVal []] [(0, .of (lIs0 N 26 3)), (2, .of (lIs1 N o 35 3)), (4, .of (lIs2 l o 63))]) Try.f16 [rlV N 0 l, .sl 1 o.length] [arP l, arI o] (plainIs (.b (isX N l o))) := by
  rw [v16_eq]
  simp only [eq_self, true_and, and_true, implies_true, imp_self, psK_eq, mkN_ps, mkN_rs, mkN_self, mkN_len, PLoop.of, lCnt, AV.len, lIs0, lIs1, lIs2, lIs3]
  have hl : l.length ≤ 1099511627776 := hl
  have ho : o.length ≤ 1099511627776 := ho
  refine ⟨hl, fun h => (isX_no h).symm, fun h => ?_⟩
  obtain ⟨hv, he, hX⟩ := isX_val h
  obtain ⟨hN0, hN, hpr⟩ := validF_iff.1 hv
  have hNN : ((N.toNat : Nat) : Int) = N := by omega
  refine ⟨hN0, by omega, by omega, (), ⟨0, Nat.zero_le _, rfl, fun j hj => by rw [blt_f (by omega), cond_false]⟩, fun x hx => ⟨fun hlx => ?_, fun hlx => ?_⟩⟩
  · have hx2 := lt_len hlx
    refine ⟨bd hx2, hx2, x + 1, hx2, by omega, wrS (n := 64) (by omega) (by omega), fun j hj => ?_⟩
    by_cases h1 : j = x
    · subst h1; rw [Nat.beq_refl, cond_true, blt_t (by omega), cond_true]
    · have h2 : Nat.beq j x = false := natBeq_f h1
      rw [h2, cond_false]
      by_cases h3 : j < x
      · rw [blt_t h3, blt_t (by omega)]
      · rw [blt_f (by omega), blt_f (by omega)]
  · have hx2 := ge_len hlx hx
    refine ⟨(), ⟨0, ⟨Nat.zero_le _, (fun y hy => by cases hy), List.Pairwise.nil⟩, rfl, fun j hj => by rw [blt_t (by omega), cond_true]; rfl⟩, fun k hk => ⟨fun hlt => ?_, fun hlt => ?_⟩⟩
    · have hk2 := lt_len hlt
      obtain ⟨_, hk3, hk4⟩ := hk
      have hmem : nthD 0 o k ∈ o := nthD_mem 0 hk2
      have hrng : (decide (nthD 0 o k < 0) || decide (nthD 0 o k ≥ N)) = false → 0 ≤ nthD 0 o k ∧ nthD 0 o k < N := fun h => by
        rw [Bool.or_eq_false_iff] at h
        have h1 := of_decide_eq_false h.1
        have h2 := of_decide_eq_false h.2
        omega
      refine ⟨bd hk2, hk2, fun h => by have := hrng h; omega, fun h => by have := hrng h; omega, fun h => ?_, fun h => ?_⟩
      · rw [hX]
        have : (List.range N.toNat).all (fun n : Nat => hasI o n) = false := by
          cases hb : (List.range N.toNat).all (fun n : Nat => hasI o n)
          · rfl
          · obtain ⟨p1, p2⟩ := perm_in hb he
            have h1 := p1 _ hmem
            have h2 := p2 k (by omega)
            rw [Bool.or_eq_true, Bool.or_eq_true] at h
            rcases h with (h | h) | h
            · have := of_decide_eq_true h; omega
            · have := of_decide_eq_true h; omega
            · have h := of_decide_eq_true h
              rw [Int.toNat_of_nonneg h1.1] at h
              have h3 := posI_lt (n := nthD 0 o k) (o.take k) 0 (by omega)
              rw [decide_eq_false (by omega)] at h3
              exact absurd (hasI_iff.1 (by simpa using h3.symm)) h2
        rw [this, Bool.false_and]
      · rw [Bool.or_eq_false_iff] at h
        obtain ⟨h1, h2⟩ := h
        have hr := hrng h1
        have h2 := of_decide_eq_false h2
        rw [Int.toNat_of_nonneg hr.1] at h2
        have hno : hasI (o.take k) (nthD 0 o k) = false := by
          have h3 := posI_lt (n := nthD 0 o k) (o.take k) 0 (by omega)
          rw [decide_eq_true (by omega)] at h3
          simpa using h3.symm
        have hno2 : nthD 0 o k ∉ o.take k := fun hm => by rw [hasI_iff.2 hm] at hno; cases hno
        have ht : o.take (k + 1) = o.take k ++ [nthD 0 o k] := take_succ' 0 hk2
        refine ⟨by omega, by omega, k + 1, ⟨hk2, ?_, ?_⟩, by omega, wrS (n := 1099511627776) (by omega) (by omega), fun j hj => ?_⟩
        · rw [ht]
          intro y hy
          rcases List.mem_append.1 hy with h | h
          · exact hk3 y h
          · rw [List.mem_singleton.1 h]; exact hr
        · rw [ht]; exact nodup_snoc hk4 hno2
        · rw [ht, posI_app]
          by_cases h5 : j = (nthD 0 o k).toNat
          · subst h5
            rw [Nat.beq_refl, cond_true, Int.toNat_of_nonneg hr.1, hno, cond_false, beq_self_eq_true, cond_true, List.length_take]
            omega
          · have h6 : Nat.beq j (nthD 0 o k).toNat = false := natBeq_f h5
            have h7 : (nthD 0 o k == (j : Int)) = false := beq_false_of_ne (by omega)
            rw [h6, cond_false, h7, cond_false]
            cases h8 : hasI (o.take k) j
            · rw [cond_false]
              have h9 : ∀ (l : List Int) (i : Int), hasI l j = false → posI j l i = -1 := by
                intro l
                induction l with
                | nil => intro i _; rfl
                | cons y r ih =>
                  intro i h
                  have e : hasI (y :: r) j = (y == (j : Int) || hasI r j) := rfl
                  rw [e, Bool.or_eq_false_iff] at h
                  rw [posI, h.1, cond_false, ih _ h.2]
              exact h9 _ _ h8
            · rfl
    · have hk2 := ge_len hlt hk.1
      obtain ⟨_, hk3, hk4⟩ := hk
      rw [hk2, List.take_length] at hk3 hk4
      rw [hk2, List.take_length]
      have HALL := perm_all (n := N.toNat) (by rw [hNN]; exact hk3) hk4 he
      refine ⟨(), ⟨0, ⟨Nat.zero_le _, rfl⟩, rfl⟩, fun k hk => ⟨fun hlt => ?_, fun hlt => ?_⟩⟩
      · have hi2 : k < l.length := lt_len hlt
        have hq := hpr _ (nthD_mem (0, 0) hi2)
        rw [Int.toNat_of_nonneg hq.1, Int.toNat_of_nonneg hq.2.2.1]
        refine ⟨bd hi2, hi2, ⟨hq.1, by omega⟩, by omega, ⟨hq.2.2.1, by omega⟩, by omega, fun hn => ?_, fun hn => ⟨k + 1, ⟨hi2, ?_⟩, by omega, wrS (n := 1099511627776) (by omega) (by omega)⟩⟩
        · rw [hX]
          have : l.all (fun p => decide (posI p.1 o 0 < posI p.2 o 0)) = false := all_not (x := nthD (0, 0) l k) (nthD_mem _ hi2) (decide_eq_false (by have := of_decide_eq_true hn; omega))
          rw [this, Bool.and_false]
        · rw [take_all (0, 0) hi2, hk.2, Bool.true_and]
          exact decide_eq_true (by have := of_decide_eq_false hn; omega)
      · have := ge_len hlt hk.1
        subst this
        have h2 := hk.2
        rw [List.take_length] at h2
        rw [hX, h2, HALL, Bool.and_true]
theorem fo16 : fnOk Try.prog 16 := ⟨Try.f16, Try.func16, by kernel_rfl, by kernel_rfl⟩
theorem fo17 : fnOk Try.prog 17 := ⟨Try.f17, Try.func17, by kernel_rfl, by kernel_rfl⟩
theorem fo42 : fnOk Try.prog 42 := ⟨Try.f42, Try.func42, by kernel_rfl, by kernel_rfl⟩
theorem fo44 : fnOk Try.prog 44 := ⟨Try.f44, Try.func44, by kernel_rfl, by kernel_rfl⟩
theorem fo50 : fnOk Try.prog 50 := ⟨Try.f50, Try.func50, by kernel_rfl, by kernel_rfl⟩
def t16 : List AV → Tab
  | [.r N l, .is o] => tab [kVal []] [(0, .of (lIs0 N 26 3)), (2, .of (lIs1 N o 35 3)), (4, .of (lIs2 l o 63))]
  | _ => tab [] []
theorem c16 : CallOk Try.prog [] 16 (genF EL [] [.r, .is] sIs) := by
  refine okT (fn := Try.f16) Try.func16 fo16 t16 (fun av => ?_) (fun av => ?_) (fun av pre rv h => ?_) (fun av pre rv h hp => ?_)
  · unfold t16; split <;> first | exact tabOk (mOne (n37 _) mNil) | exact tabOk mNil
  · unfold t16; split <;> exact ⟨rfl, rfl⟩
  · unfold sIs at h; split at h <;> cases h
    exact ⟨rfl, fun t a e => by cases e <;> exact List.cons_ne_nil _ _⟩
  · unfold sIs at h; split at h <;> cases h
    exact v16 _ _ _ (hp _ (.head _)) (hp _ (.tail _ (.head _)))
theorem n16 (nm : List (Option AV)) : CallOk Try.prog [] 16 (genF EL nm [.r, .is] sIs) := genNm c16
def t17 : List AV → Tab
  | [.r N l, .is o] => tab [kVal' [], kPos []] [(0, .of (lIs3 N o 5)), (2, .of (lIs2 l o 6))]
  | _ => tab [] []
theorem c17 : CallOk Try.prog [] 17 (genF EL [] [.r, .is] sIs) := by
  refine okT (fn := Try.f17) Try.func17 fo17 t17 (fun av => ?_) (fun av => ?_) (fun av pre rv h => ?_) (fun av pre rv h hp => ?_)
  · unfold t17; split <;> first | exact tabOk (mOne (n27 _) (mOne (n38 _) mNil)) | exact tabOk mNil
  · unfold t17; split <;> exact ⟨rfl, rfl⟩
  · unfold sIs at h; split at h <;> cases h
    exact ⟨rfl, fun t a e => by cases e <;> exact List.cons_ne_nil _ _⟩
  · unfold sIs at h; split at h <;> cases h
    exact v17 _ _ _ (hp _ (.head _)) (hp _ (.tail _ (.head _)))
theorem n17 (nm : List (Option AV)) : CallOk Try.prog [] 17 (genF EL nm [.r, .is] sIs) := genNm c17
def t50 : List AV → Tab
  | [.u s] => tab [] []
  | _ => tab [] []
theorem c50 : CallOk Try.prog [] 50 (genF EL [] [.u] sPop) := by
  refine okT (fn := Try.f50) Try.func50 fo50 t50 (fun av => ?_) (fun av => ?_) (fun av pre rv h => ?_) (fun av pre rv h hp => ?_)
  · unfold t50; split <;> first | exact tabOk mNil | exact tabOk mNil
  · unfold t50; split <;> exact ⟨rfl, rfl⟩
  · unfold sPop at h; split at h <;> cases h
    exact ⟨rfl, fun t a e => by cases e <;> exact List.cons_ne_nil _ _⟩
  · unfold sPop at h; split at h <;> cases h
    exact v50 _ (hp _ (.head _))
theorem n50 (nm : List (Option AV)) : CallOk Try.prog [] 50 (genF EL nm [.u] sPop) := genNm c50
def t42 : List AV → Tab
  | [.po N B] => tab [kFre [none, some (.us B)]] [(0, .of (lDo0 B 4 3)), (2, lDo1 B 4 3)]
  | _ => tab [] []
theorem c42 : CallOk Try.prog [] 42 (genF EL [] [.po] sDow) := by
  refine okT (fn := Try.f42) Try.func42 fo42 t42 (fun av => ?_) (fun av => ?_) (fun av pre rv h => ?_) (fun av pre rv h hp => ?_)
  · unfold t42; split <;> first | exact tabOk (mOne (n34 _) mNil) | exact tabOk mNil
  · unfold t42; split <;> exact ⟨rfl, rfl⟩
  · unfold sDow at h; split at h <;> cases h
    exact ⟨rfl, fun t a e => by cases e <;> exact List.cons_ne_nil _ _⟩
  · unfold sDow at h; split at h <;> cases h
    have e := hp _ (.head _)
    subst e
    exact v42 _ (hp _ (.tail _ (.head _)))
theorem n42 (nm : List (Option AV)) : CallOk Try.prog [] 42 (genF EL nm [.po] sDow) := genNm c42
def t44 : List AV → Tab
  | [.po N B] => tab [kDow [some (.us B)], kPop [], kFre [some (.us B)]] [(0, .of (lCo0 B 3)), (2, lCo1 B)]
  | _ => tab [] []
theorem c44 : CallOk Try.prog [] 44 (genF EL [] [.po] sCmp) := by
  refine okT (fn := Try.f44) Try.func44 fo44 t44 (fun av => ?_) (fun av => ?_) (fun av pre rv h => ?_) (fun av pre rv h hp => ?_)
  · unfold t44; split <;> first | exact tabOk (mOne (n42 _) (mOne (n50 _) (mOne (n34 _) mNil))) | exact tabOk mNil
  · unfold t44; split <;> exact ⟨rfl, rfl⟩
  · unfold sCmp at h; split at h <;> cases h
    exact ⟨rfl, fun t a e => by cases e <;> exact List.cons_ne_nil _ _⟩
  · unfold sCmp at h; split at h <;> cases h
    have e := hp _ (.head _)
    subst e
    exact v44 _ (hp _ (.tail _ (.head _))) (hp _ (.tail _ (.tail _ (.head _))))
theorem n44 (nm : List (Option AV)) : CallOk Try.prog [] 44 (genF EL nm [.po] sCmp) := genNm c44
def t44e : List AV → Tab
  | [.po N B] => tab [kDow [some (.us B)], kPop [], kFre [some (.us B)]] [(0, .of (lCo0 B 3)), (2, lCo1 B)]
  | _ => tab [] []
theorem c44e : CallOk Try.prog [] 44 (genF EL [] [.po] sCmE) := by
  refine okT (fn := Try.f44) Try.func44 fo44 t44e (fun av => ?_) (fun av => ?_) (fun av pre rv h => ?_) (fun av pre rv h hp => ?_)
  · unfold t44e; split <;> first | exact tabOk (mOne (n42 _) (mOne (n50 _) (mOne (n34 _) mNil))) | exact tabOk mNil
  · unfold t44e; split <;> exact ⟨rfl, rfl⟩
  · unfold sCmE at h; split at h <;> cases h
    exact ⟨rfl, fun t a e => by cases e <;> exact List.cons_ne_nil _ _⟩
  · unfold sCmE at h; split at h <;> cases h
    have e := hp _ (.head _)
    subst e
    exact v44e _ (hp _ (.tail _ (.head _))) (hp _ (.tail _ (.tail _ (.head _))))
theorem n44e (nm : List (Option AV)) : CallOk Try.prog [] 44 (genF EL nm [.po] sCmE) := genNm c44e
end Go.Proofs.Ytiokmglajigngaa
namespace Go.Proofs.Ytiokmglajigngaa
open Go Go.Proofs.Ytiokmglajigngaa.Sx
def befP (N : Int) (l : List Pq) : List Int := bif okP N l then befL N.toNat l else []
def cntV (N : Int) (l : List Pq) : Nat := bif okP N l && okC (befP N l) then cmp (befP N l) 0 else 0
def cntE (N : Int) (l : List Pq) : Int := bif okP N l then errC (befP N l) else errP N l
def dwnV (N : Int) (l : List Pq) : Nat := bif okP N l then (dsOut (befP N l)).length else 0
def dwnE (N : Int) (l : List Pq) : Int := bif okP N l then dsErr (befP N l) else errP N l
def sDws : Sp := fun | [.r N l] => some ([L9 l], .pl (.tup [.i .i64 (dwnV N l : Int), .i .i64 (dwnE N l)])) | _ => none
/-- The rank of the first k elements. -/
def rkT (B : List Int) (o : List Int) : Nat → Nat
  | 0 => 0
  | k + 1 => rkT B o k + sumF B (maskM (o.take k)) (cmp B) (nthD 0 o k).toNat
def rkV (N : Int) (l : List Pq) (o : List Int) : Nat := bif okP N l && isX N l o && okC (befP N l) then rkT (befP N l) o o.length else 0
def rkE (N : Int) (l : List Pq) (o : List Int) : Int := bif okP N l then (bif isX N l o then errC (befP N l) else 5) else errP N l
def sRnk : Sp := fun | [.r N l, .is o] => some ([L9 l, L9 o], .pl (.tup [.i .i64 (rkV N l o : Int), .i .i64 (rkE N l o)])) | _ => none
/-- The next element of the extension with the rank r behind the set s. -/
def ntY (B : List Int) (s r : Nat) : Nat := ((List.range B.length).find? (fun y => Nat.blt r (sumF B s (cmp B) (y + 1)))).getD 0
def ntS (B : List Int) (r : Nat) : Nat → List Int × Nat
  | 0 => ([], r)
  | k + 1 => ((ntS B r k).1 ++ [(ntY B (maskM (ntS B r k).1) (ntS B r k).2 : Int)], (ntS B r k).2 - sumF B (maskM (ntS B r k).1) (cmp B) (ntY B (maskM (ntS B r k).1) (ntS B r k).2))
def ntO (B : List Int) (r : Int) : Bool := decide (r < 0) || decide (r ≥ (cmp B 0 : Int))
def ntL (N : Int) (l : List Pq) (r : Int) : List Int := bif okP N l && okC (befP N l) && !ntO (befP N l) r then (ntS (befP N l) r.toNat N.toNat).1 else []
def ntE (N : Int) (l : List Pq) (r : Int) : Int := bif okP N l then (bif okC (befP N l) then (bif ntO (befP N l) r then 2 else 0) else 4) else errP N l
def sNth : Sp := fun | [.r N l, .i r] => some ([L9 l], .sl (fun k => .tup [.sl 0 k, .i .i64 (ntE N l r)]) (.is (ntL N l r))) | _ => none
def kDws (nm : List (Option AV)) : Nat × (List MBlk → List SV → Option AR) := (22, genF EL nm [.r] sDws)
def kRnk (nm : List (Option AV)) : Nat × (List MBlk → List SV → Option AR) := (29, genF EL nm [.r, .is] sRnk)
def kNth (nm : List (Option AV)) : Nat × (List MBlk → List SV → Option AR) := (31, genF EL nm [.r, .i] sNth)
def lRk0 (B : List Int) (o : List Int) : LAnn := ⟨Nat, fun k => k ≤ o.length, fun k => [(36, .i .i64 (k : Int)), (9, .i .i64 (rkT B o k : Int)), (10, .i .u64 (maskM (o.take k) : Int))], fun _ => [], fun k => o.length - k, [], []⟩
def lRk1 (B : List Int) (o : List Int) : PLoop := ⟨Nat, fun k => ⟨Nat, fun x => (x : Int) ≤ nthD 0 o k ∧ k < o.length, fun x => [(41, .i .i64 (x : Int)), (9, .i .i64 ((rkT B o k + sumF B (maskM (o.take k)) (cmp B) x : Nat) : Int))], fun _ => [], fun x => (nthD 0 o k).toNat - x, [], []⟩⟩
def lNt0 (N : Int) (B : List Int) (r : Nat) (e : Nat) : LAnn := ⟨Nat, fun k => k ≤ N.toNat, fun k => [(9, .sl e (ntS B r k).1.length), (10, .i .u64 (maskM (ntS B r k).1 : Int)), (1, .i .i64 ((ntS B r k).2 : Int))], fun k => [ownI e (ntS B r k).1], fun k => N.toNat - k, [e], []⟩
def lNt1 (N : Int) (B : List Int) (r : Nat) (e : Nat) : PLoop := ⟨Nat, fun k => ⟨Nat, fun x => x ≤ N.toNat ∧ k < N.toNat ∧ sumF B (maskM (ntS B r k).1) (cmp B) x ≤ (ntS B r k).2, fun x => [(44, .i .i64 (x : Int)), (9, .sl e (ntS B r k).1.length), (10, .i .u64 (maskM (ntS B r k).1 : Int)), (1, .i .i64 (((ntS B r k).2 - sumF B (maskM (ntS B r k).1) (cmp B) x : Nat) : Int))], fun _ => [], fun x => N.toNat - x, [], []⟩⟩
end Go.Proofs.Ytiokmglajigngaa
