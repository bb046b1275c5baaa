/-
  A part of the proof (LM33).
-/
import Derived.Test.YtiokmglajigngaaLM32
namespace Go.Proofs.Ytiokmglajigngaa
open Go Go.Proofs.Ytiokmglajigngaa.Sx
set_option maxRecDepth 100000
set_option linter.unusedSimpArgs false
set_option linter.unusedVariables false

theorem u8_rng {n : Int} (h : (Lit.int .u8 n).wf = true) : 0 ≤ n ∧ n < 256 := by
  simp only [Lit.wf, Bool.and_eq_true, decide_eq_true_eq] at h
  have h : 0 ≤ n ∧ n ≤ 255 := h
  omega
theorem u8_mod {a m : Int} (ha : 0 ≤ a ∧ a < 256) (hm : 0 < m) : (IntKind.i64.wrap a).tmod m = ((a % m).toNat : Int) := by
  have := Int.emod_nonneg a (show m ≠ 0 by omega)
  rw [w64_eq (by omega) (by omega), Int.tmod_eq_emod_of_nonneg ha.1]; omega
theorem tri_skip {p q x : Nat} (h : x + 1 = p ∨ x + 1 = p + q) : triP p q (x + 1 + 1) = triP p q (x + 1) := by
  rw [triP]
  have : (Nat.beq (x + 1) 0 || Nat.beq (x + 1) p || Nat.beq (x + 1) (p + q)) = true := by
    rcases h with h | h
    · rw [← h, Nat.beq_refl]; simp
    · rw [← h, Nat.beq_refl]; simp
  rw [this, cond_true, List.append_nil]
theorem tri_add {p q x : Nat} (h : x + 1 ≠ p) (h' : x + 1 ≠ p + q) : triP p q (x + 1 + 1) = triP p q (x + 1) ++ [(((x + 1 : Nat) : Int) - 1, ((x + 1 : Nat) : Int))] := by
  rw [triP, natBeq_f h, natBeq_f h', natBeq_f (show x + 1 ≠ 0 by omega)]
  rfl
theorem tri_len_le {p q : Nat} : ∀ n, (triP p q n).length ≤ n := by
  intro n
  induction n with
  | zero => exact Nat.zero_le _
  | succ n ih =>
    rw [triP, List.length_append]
    cases (Nat.beq n 0 || Nat.beq n p || Nat.beq n (p + q)) <;> simp <;> omega
theorem pq1 {l : List Pq} {v w : Int} : ∀ j, j < (l ++ [(v, w)]).length → (bif Nat.blt j l.length then (nthD (0, 0) l j).1 else pickI [v] (j - l.length)) = (nthD (0, 0) (l ++ [(v, w)]) j).1 := fun j hj => by
  by_cases h : j < l.length
  · rw [blt_t h, cond_true, nthD_lt _ h]
  · have : j = l.length := by simp at hj; omega
    subst this
    rw [blt_f (by omega), cond_false, nthD_at]; rfl
theorem pq2 {l : List Pq} {v w : Int} : ∀ j, j < (l ++ [(v, w)]).length → (bif Nat.blt j l.length then (nthD (0, 0) l j).2 else pickI [w] (j - l.length)) = (nthD (0, 0) (l ++ [(v, w)]) j).2 := fun j hj => by
  by_cases h : j < l.length
  · rw [blt_t h, cond_true, nthD_lt _ h]
  · have : j = l.length := by simp at hj; omega
    subst this
    rw [blt_f (by omega), cond_false, nthD_at]; rfl
/-- What the functions answer for three chains. -/
theorem tri_vals {p q r : Nat} (hN : p + q + r ≤ 64) (h : (p + 1) * ((q + 1) * (r + 1)) ≤ 65536) :
    dwnE ((p + q + r : Nat) : Int) (triP p q (p + q + r)) = 0 ∧ dwnV ((p + q + r : Nat) : Int) (triP p q (p + q + r)) = (p + 1) * ((q + 1) * (r + 1)) ∧
    cntE ((p + q + r : Nat) : Int) (triP p q (p + q + r)) = (if mul3 p q r ≤ maxI then 0 else 4) ∧ (mul3 p q r ≤ maxI → cntV ((p + q + r : Nat) : Int) (triP p q (p + q + r)) = mul3 p q r) := by
  have hP := tri_ok (p := p) (q := q) hN
  have hb : befP ((p + q + r : Nat) : Int) (triP p q (p + q + r)) = befL (p + q + r) (triP p q (p + q + r)) := (befP_ok hP).1
  have hD := tri_okD hN h
  have hL := tri_len hN h
  have hC := tri_cmp0 hN
  refine ⟨by rw [dwnE, hP, hb, (dsO_ok hD).2.1]; rfl, by rw [dwnV, hP, hb, (dsO_ok hD).1, cond_true, toI_len, hL], ?_, fun hm => ?_⟩
  · rw [cntE, hP, hb, cond_true]
    by_cases hm : mul3 p q r ≤ maxI
    · rw [if_pos hm]; exact errC_ok (okC_iff.2 ⟨hD, by rw [hC]; exact hm⟩)
    · rw [if_neg hm]
      refine errC_no (Bool.eq_false_iff.2 fun hc => hm ?_)
      rw [← hC]; exact (okC_iff.1 hc).2
  · have hc : okC (befL (p + q + r) (triP p q (p + q + r))) = true := okC_iff.2 ⟨hD, by rw [hC]; exact hm⟩
    rw [cntV, hP, hb, hc, ← hC]; rfl
theorem v6_eq (a b : Int) : (fnVc (tabT [kCnt [none, some (.ps (triP (a % 33).toNat (b % 33).toNat ((a % 33).toNat + (b % 33).toNat)))], kDws [none, some (.ps (triP (a % 33).toNat (b % 33).toNat ((a % 33).toNat + (b % 33).toNat)))], kAwk [], kCho []] [] [(0, .of (lTr (a % 33).toNat (b % 33).toNat ((a % 33).toNat + (b % 33).toNat) 8 1 0))] [(3, fun _ _ => [.fresh 0 1 40 2])] [] []) Try.f6 [.i .u8 a, .i .u8 b] [] (plainIs .tt)) = (((33 : Int) = (0 : Int) → False) ∧
 ((33 : Int) = (0 : Int) → False) ∧
 ∃ (x : PUnit),
 (∃ (x : Nat),
 (x + (1 : Nat) ≤ (a % (33 : Int)).toNat + (b % (33 : Int)).toNat ∨ x = (0 : Nat)) ∧
 ((1 : Int) = (↑(x + (1 : Nat)) : Int) ∧ True) ∧
 (IntKind.i64.wrap ((IntKind.i64.wrap a).tmod (33 : Int) + (IntKind.i64.wrap b).tmod (33 : Int)) =
 (↑((a % (33 : Int)).toNat + (b % (33 : Int)).toNat) : Int) ∧
 (0 : Nat) = (triP (a % (33 : Int)).toNat (b % (33 : Int)).toNat (x + (1 : Nat))).length) ∧
 ((0 : Nat) = (triP (a % (33 : Int)).toNat (b % (33 : Int)).toNat (x + (1 : Nat))).length ∧
 (triP (a % (33 : Int)).toNat (b % (33 : Int)).toNat (x + (1 : Nat))).length = (0 : Nat) ∧
 (triP (a % (33 : Int)).toNat (b % (33 : Int)).toNat (x + (1 : Nat))).length = (0 : Nat) ∧ True) ∧
 True) ∧
 ∀ (x_1 : Nat),
 x_1 + (1 : Nat) ≤ (a % (33 : Int)).toNat + (b % (33 : Int)).toNat ∨ x_1 = (0 : Nat) →
 (decide
 ((↑(x_1 + (1 : Nat)) : Int) <
 IntKind.i64.wrap ((IntKind.i64.wrap a).tmod (33 : Int) + (IntKind.i64.wrap b).tmod (33 : Int))) =
 true →
 (((↑(x_1 + (1 : Nat)) : Int) != (IntKind.i64.wrap a).tmod (33 : Int)) = true →
 (triP (a % (33 : Int)).toNat (b % (33 : Int)).toNat (x_1 + (1 : Nat))).length =
 (triP (a % (33 : Int)).toNat (b % (33 : Int)).toNat (x_1 + (1 : Nat))).length ∧
 (1 : Nat) = (1 : Nat) ∧
 ((triP (a % (33 : Int)).toNat (b % (33 : Int)).toNat (x_1 + (1 : Nat))).length + (1 : Nat)) *
 (16 : Nat) ≤
 (140737488355328 : Nat) ∧
 (triP (a % (33 : Int)).toNat (b % (33 : Int)).toNat (x_1 + (1 : Nat))).length + (1 : Nat) ≤
 (9223372036854775807 : Nat) ∧
 ∃ (x_2 : Nat),
 (x_2 + (1 : Nat) ≤ (a % (33 : Int)).toNat + (b % (33 : Int)).toNat ∨ x_2 = (0 : Nat)) ∧
 ((PLoop.of
 (lTr (a % (33 : Int)).toNat (b % (33 : Int)).toNat
 ((a % (33 : Int)).toNat + (b % (33 : Int)).toNat) (8 : Nat) (1 : Nat)
 (0 : Nat))).ann
 x).mu
 x_2 <
 ((PLoop.of
 (lTr (a % (33 : Int)).toNat (b % (33 : Int)).toNat
 ((a % (33 : Int)).toNat + (b % (33 : Int)).toNat) (8 : Nat) (1 : Nat)
 (0 : Nat))).ann
 x).mu
 x_1 ∧
 (a = a ∧
 b = b ∧
 false = false ∧
 (IntKind.i64.wrap a).tmod (33 : Int) = (IntKind.i64.wrap a).tmod (33 : Int) ∧
 (IntKind.i64.wrap b).tmod (33 : Int) =
 (IntKind.i64.wrap b).tmod (33 : Int) ∧
 True ∧
 IntKind.i64.wrap ((↑(x_1 + (1 : Nat)) : Int) + (1 : Int)) =
 (↑(x_2 + (1 : Nat)) : Int) ∧
 a = a ∧
 IntKind.i64.wrap a = IntKind.i64.wrap a ∧
 (IntKind.i64.wrap a).tmod (33 : Int) =
 (IntKind.i64.wrap a).tmod (33 : Int) ∧
 b = b ∧
 IntKind.i64.wrap b = IntKind.i64.wrap b ∧
 (IntKind.i64.wrap b).tmod (33 : Int) =
 (IntKind.i64.wrap b).tmod (33 : Int) ∧
 (IntKind.i64.wrap a).tmod (33 : Int) =
 (IntKind.i64.wrap a).tmod (33 : Int) ∧
 (IntKind.i64.wrap b).tmod (33 : Int) =
 (IntKind.i64.wrap b).tmod (33 : Int) ∧
 IntKind.i64.wrap
 ((IntKind.i64.wrap a).tmod (33 : Int) +
 (IntKind.i64.wrap b).tmod (33 : Int)) =
 IntKind.i64.wrap
 ((IntKind.i64.wrap a).tmod (33 : Int) +
 (IntKind.i64.wrap b).tmod (33 : Int)) ∧
 (IntKind.i64.wrap
 ((IntKind.i64.wrap a).tmod (33 : Int) +
 (IntKind.i64.wrap b).tmod (33 : Int)) =
 IntKind.i64.wrap
 ((IntKind.i64.wrap a).tmod (33 : Int) +
 (IntKind.i64.wrap b).tmod (33 : Int)) ∧
 True) ∧
 True) ∧
 ((↑((a % (33 : Int)).toNat + (b % (33 : Int)).toNat) : Int) =
 (↑((a % (33 : Int)).toNat + (b % (33 : Int)).toNat) : Int) ∧
 (triP (a % (33 : Int)).toNat (b % (33 : Int)).toNat (x_1 + (1 : Nat))).length +
 (1 : Nat) =
 (triP (a % (33 : Int)).toNat (b % (33 : Int)).toNat
 (x_2 + (1 : Nat))).length) ∧
 ((triP (a % (33 : Int)).toNat (b % (33 : Int)).toNat (x_1 + (1 : Nat))).length +
 (1 : Nat) =
 (triP (a % (33 : Int)).toNat (b % (33 : Int)).toNat
 (x_2 + (1 : Nat))).length ∧
 (∀ (j : Nat),
 j <
 (triP (a % (33 : Int)).toNat (b % (33 : Int)).toNat
 (x_2 + (1 : Nat))).length →
 (bif
 j.blt
 (triP (a % (33 : Int)).toNat (b % (33 : Int)).toNat
 (x_1 + (1 : Nat))).length then
 (nthD ((0 : Int), (0 : Int))
 (triP (a % (33 : Int)).toNat (b % (33 : Int)).toNat
 (x_1 + (1 : Nat)))
 j).fst
 else
 pickI [IntKind.i64.wrap ((↑(x_1 + (1 : Nat)) : Int) - (1 : Int))]
 (j -
 (triP (a % (33 : Int)).toNat (b % (33 : Int)).toNat
 (x_1 + (1 : Nat))).length)) =
 (nthD ((0 : Int), (0 : Int))
 (triP (a % (33 : Int)).toNat (b % (33 : Int)).toNat
 (x_2 + (1 : Nat)))
 j).fst) ∧
 (∀ (j : Nat),
 j <
 (triP (a % (33 : Int)).toNat (b % (33 : Int)).toNat
 (x_2 + (1 : Nat))).length →
 (bif
 j.blt
 (triP (a % (33 : Int)).toNat (b % (33 : Int)).toNat
 (x_1 + (1 : Nat))).length then
 (nthD ((0 : Int), (0 : Int))
 (triP (a % (33 : Int)).toNat (b % (33 : Int)).toNat
 (x_1 + (1 : Nat)))
 j).snd
 else
 pickI [(↑(x_1 + (1 : Nat)) : Int)]
 (j -
 (triP (a % (33 : Int)).toNat (b % (33 : Int)).toNat
 (x_1 + (1 : Nat))).length)) =
 (nthD ((0 : Int), (0 : Int))
 (triP (a % (33 : Int)).toNat (b % (33 : Int)).toNat
 (x_2 + (1 : Nat)))
 j).snd) ∧
 True) ∧
 True) ∧
 (((↑(x_1 + (1 : Nat)) : Int) != (IntKind.i64.wrap a).tmod (33 : Int)) = false →
 ∃ (x_2 : Nat),
 (x_2 + (1 : Nat) ≤ (a % (33 : Int)).toNat + (b % (33 : Int)).toNat ∨ x_2 = (0 : Nat)) ∧
 ((PLoop.of
 (lTr (a % (33 : Int)).toNat (b % (33 : Int)).toNat
 ((a % (33 : Int)).toNat + (b % (33 : Int)).toNat) (8 : Nat) (1 : Nat)
 (0 : Nat))).ann
 x).mu
 x_2 <
 ((PLoop.of
 (lTr (a % (33 : Int)).toNat (b % (33 : Int)).toNat
 ((a % (33 : Int)).toNat + (b % (33 : Int)).toNat) (8 : Nat) (1 : Nat)
 (0 : Nat))).ann
 x).mu
 x_1 ∧
 (a = a ∧
 b = b ∧
 false = false ∧
 (IntKind.i64.wrap a).tmod (33 : Int) = (IntKind.i64.wrap a).tmod (33 : Int) ∧
 (IntKind.i64.wrap b).tmod (33 : Int) = (IntKind.i64.wrap b).tmod (33 : Int) ∧
 True ∧
 IntKind.i64.wrap ((↑(x_1 + (1 : Nat)) : Int) + (1 : Int)) =
 (↑(x_2 + (1 : Nat)) : Int) ∧
 a = a ∧
 IntKind.i64.wrap a = IntKind.i64.wrap a ∧
 (IntKind.i64.wrap a).tmod (33 : Int) =
 (IntKind.i64.wrap a).tmod (33 : Int) ∧
 b = b ∧
 IntKind.i64.wrap b = IntKind.i64.wrap b ∧
 (IntKind.i64.wrap b).tmod (33 : Int) =
 (IntKind.i64.wrap b).tmod (33 : Int) ∧
 (IntKind.i64.wrap a).tmod (33 : Int) =
 (IntKind.i64.wrap a).tmod (33 : Int) ∧
 (IntKind.i64.wrap b).tmod (33 : Int) =
 (IntKind.i64.wrap b).tmod (33 : Int) ∧
 IntKind.i64.wrap
 ((IntKind.i64.wrap a).tmod (33 : Int) +
 (IntKind.i64.wrap b).tmod (33 : Int)) =
 IntKind.i64.wrap
 ((IntKind.i64.wrap a).tmod (33 : Int) +
 (IntKind.i64.wrap b).tmod (33 : Int)) ∧
 (IntKind.i64.wrap
 ((IntKind.i64.wrap a).tmod (33 : Int) +
 (IntKind.i64.wrap b).tmod (33 : Int)) =
 IntKind.i64.wrap
 ((IntKind.i64.wrap a).tmod (33 : Int) +
 (IntKind.i64.wrap b).tmod (33 : Int)) ∧
 True) ∧
 True) ∧
 ((↑((a % (33 : Int)).toNat + (b % (33 : Int)).toNat) : Int) =
 (↑((a % (33 : Int)).toNat + (b % (33 : Int)).toNat) : Int) ∧
 (triP (a % (33 : Int)).toNat (b % (33 : Int)).toNat (x_1 + (1 : Nat))).length =
 (triP (a % (33 : Int)).toNat (b % (33 : Int)).toNat (x_2 + (1 : Nat))).length) ∧
 ((triP (a % (33 : Int)).toNat (b % (33 : Int)).toNat (x_1 + (1 : Nat))).length =
 (triP (a % (33 : Int)).toNat (b % (33 : Int)).toNat (x_2 + (1 : Nat))).length ∧
 (∀ (j : Nat),
 j <
 (triP (a % (33 : Int)).toNat (b % (33 : Int)).toNat
 (x_2 + (1 : Nat))).length →
 (nthD ((0 : Int), (0 : Int))
 (triP (a % (33 : Int)).toNat (b % (33 : Int)).toNat (x_1 + (1 : Nat)))
 j).fst =
 (nthD ((0 : Int), (0 : Int))
 (triP (a % (33 : Int)).toNat (b % (33 : Int)).toNat (x_2 + (1 : Nat)))
 j).fst) ∧
 (∀ (j : Nat),
 j <
 (triP (a % (33 : Int)).toNat (b % (33 : Int)).toNat
 (x_2 + (1 : Nat))).length →
 (nthD ((0 : Int), (0 : Int))
 (triP (a % (33 : Int)).toNat (b % (33 : Int)).toNat (x_1 + (1 : Nat)))
 j).snd =
 (nthD ((0 : Int), (0 : Int))
 (triP (a % (33 : Int)).toNat (b % (33 : Int)).toNat (x_2 + (1 : Nat)))
 j).snd) ∧
 True) ∧
 True)) ∧
 (decide
 ((↑(x_1 + (1 : Nat)) : Int) <
 IntKind.i64.wrap ((IntKind.i64.wrap a).tmod (33 : Int) + (IntKind.i64.wrap b).tmod (33 : Int))) =
 false →
 (triP (a % (33 : Int)).toNat (b % (33 : Int)).toNat (x_1 + (1 : Nat))).length =
 (triP (a % (33 : Int)).toNat (b % (33 : Int)).toNat (x_1 + (1 : Nat))).length ∧
 mkN
 (fun (j : Nat) =>
 ((nthD ((0 : Int), (0 : Int))
 (triP (a % (33 : Int)).toNat (b % (33 : Int)).toNat (x_1 + (1 : Nat))) j).fst,
 (nthD ((0 : Int), (0 : Int))
 (triP (a % (33 : Int)).toNat (b % (33 : Int)).toNat (x_1 + (1 : Nat))) j).snd))
 (triP (a % (33 : Int)).toNat (b % (33 : Int)).toNat (x_1 + (1 : Nat))).length =
 triP (a % (33 : Int)).toNat (b % (33 : Int)).toNat
 ((a % (33 : Int)).toNat + (b % (33 : Int)).toNat) ∧
 (triP (a % (33 : Int)).toNat (b % (33 : Int)).toNat
 ((a % (33 : Int)).toNat + (b % (33 : Int)).toNat)).length ≤
 (1099511627776 : Nat) ∧
 (triP (a % (33 : Int)).toNat (b % (33 : Int)).toNat (x_1 + (1 : Nat))).length =
 (triP (a % (33 : Int)).toNat (b % (33 : Int)).toNat (x_1 + (1 : Nat))).length ∧
 mkN
 (fun (j : Nat) =>
 ((nthD ((0 : Int), (0 : Int))
 (triP (a % (33 : Int)).toNat (b % (33 : Int)).toNat (x_1 + (1 : Nat))) j).fst,
 (nthD ((0 : Int), (0 : Int))
 (triP (a % (33 : Int)).toNat (b % (33 : Int)).toNat (x_1 + (1 : Nat))) j).snd))
 (triP (a % (33 : Int)).toNat (b % (33 : Int)).toNat (x_1 + (1 : Nat))).length =
 triP (a % (33 : Int)).toNat (b % (33 : Int)).toNat
 ((a % (33 : Int)).toNat + (b % (33 : Int)).toNat) ∧
 (triP (a % (33 : Int)).toNat (b % (33 : Int)).toNat
 ((a % (33 : Int)).toNat + (b % (33 : Int)).toNat)).length ≤
 (1099511627776 : Nat) ∧
 ((cntE (↑((a % (33 : Int)).toNat + (b % (33 : Int)).toNat) : Int)
 (triP (a % (33 : Int)).toNat (b % (33 : Int)).toNat
 ((a % (33 : Int)).toNat + (b % (33 : Int)).toNat)) ==
 (0 : Int) &&
 dwnE (↑((a % (33 : Int)).toNat + (b % (33 : Int)).toNat) : Int)
 (triP (a % (33 : Int)).toNat (b % (33 : Int)).toNat
 ((a % (33 : Int)).toNat + (b % (33 : Int)).toNat)) ==
 (0 : Int) &&
 (↑(dwnV (↑((a % (33 : Int)).toNat + (b % (33 : Int)).toNat) : Int)
 (triP (a % (33 : Int)).toNat (b % (33 : Int)).toNat
 ((a % (33 : Int)).toNat + (b % (33 : Int)).toNat))) :
 Int) ==
 IntKind.i64.wrap
 (IntKind.i64.wrap ((IntKind.i64.wrap a).tmod (33 : Int) + (1 : Int)) *
 IntKind.i64.wrap ((IntKind.i64.wrap b).tmod (33 : Int) + (1 : Int)))) =
 true →
 (0 : Int) ≤
 IntKind.i64.wrap
 ((IntKind.i64.wrap a).tmod (33 : Int) + (IntKind.i64.wrap b).tmod (33 : Int)) ∧
 IntKind.i64.wrap
 ((IntKind.i64.wrap a).tmod (33 : Int) + (IntKind.i64.wrap b).tmod (33 : Int)) ≤
 (64 : Int)) ∧
 ((cntE (↑((a % (33 : Int)).toNat + (b % (33 : Int)).toNat) : Int)
 (triP (a % (33 : Int)).toNat (b % (33 : Int)).toNat
 ((a % (33 : Int)).toNat + (b % (33 : Int)).toNat)) ==
 (0 : Int) &&
 dwnE (↑((a % (33 : Int)).toNat + (b % (33 : Int)).toNat) : Int)
 (triP (a % (33 : Int)).toNat (b % (33 : Int)).toNat
 ((a % (33 : Int)).toNat + (b % (33 : Int)).toNat)) ==
 (0 : Int) &&
 (↑(dwnV (↑((a % (33 : Int)).toNat + (b % (33 : Int)).toNat) : Int)
 (triP (a % (33 : Int)).toNat (b % (33 : Int)).toNat
 ((a % (33 : Int)).toNat + (b % (33 : Int)).toNat))) :
 Int) ==
 IntKind.i64.wrap
 (IntKind.i64.wrap ((IntKind.i64.wrap a).tmod (33 : Int) + (1 : Int)) *
 IntKind.i64.wrap ((IntKind.i64.wrap b).tmod (33 : Int) + (1 : Int)))) =
 true →
 (0 : Int) ≤ (IntKind.i64.wrap a).tmod (33 : Int) ∧
 (IntKind.i64.wrap a).tmod (33 : Int) ≤
 IntKind.i64.wrap
 ((IntKind.i64.wrap a).tmod (33 : Int) + (IntKind.i64.wrap b).tmod (33 : Int))) ∧
 (cntE (↑((a % (33 : Int)).toNat + (b % (33 : Int)).toNat) : Int)
 (triP (a % (33 : Int)).toNat (b % (33 : Int)).toNat
 ((a % (33 : Int)).toNat + (b % (33 : Int)).toNat)) ==
 (0 : Int) &&
 dwnE (↑((a % (33 : Int)).toNat + (b % (33 : Int)).toNat) : Int)
 (triP (a % (33 : Int)).toNat (b % (33 : Int)).toNat
 ((a % (33 : Int)).toNat + (b % (33 : Int)).toNat)) ==
 (0 : Int) &&
 (↑(dwnV (↑((a % (33 : Int)).toNat + (b % (33 : Int)).toNat) : Int)
 (triP (a % (33 : Int)).toNat (b % (33 : Int)).toNat
 ((a % (33 : Int)).toNat + (b % (33 : Int)).toNat))) :
 Int) ==
 IntKind.i64.wrap
 (IntKind.i64.wrap ((IntKind.i64.wrap a).tmod (33 : Int) + (1 : Int)) *
 IntKind.i64.wrap ((IntKind.i64.wrap b).tmod (33 : Int) + (1 : Int))) &&
 (↑(cntV (↑((a % (33 : Int)).toNat + (b % (33 : Int)).toNat) : Int)
 (triP (a % (33 : Int)).toNat (b % (33 : Int)).toNat
 ((a % (33 : Int)).toNat + (b % (33 : Int)).toNat))) :
 Int) ==
 (↑(cho
 (IntKind.i64.wrap
 ((IntKind.i64.wrap a).tmod (33 : Int) +
 (IntKind.i64.wrap b).tmod (33 : Int))).toNat
 ((IntKind.i64.wrap a).tmod (33 : Int)).toNat) :
 Int)) =
 true)) := by kernel_rfl
theorem v6 (a b : Int) (ha : 0 ≤ a ∧ a < 256) (hb : 0 ≤ b ∧ b < 256) : fnVc (tabT [kCnt [none, some (.ps (triP (a % 33).toNat (b % 33).toNat ((a % 33).toNat + (b % 33).toNat)))], kDws [none, some (.ps (triP (a % 33).toNat (b % 33).toNat ((a % 33).toNat + (b % 33).toNat)))], kAwk [], kCho []] [] [(0, .of (lTr (a % 33).toNat (b % 33).toNat ((a % 33).toNat + (b % 33).toNat) 8 1 0))] [(3, fun _ _ => [.fresh 0 1 40 2])] [] []) Try.f6 [.i .u8 a, .i .u8 b] [] (plainIs .tt) := by
  rw [v6_eq]
  simp only [eq_self, true_and, and_true, implies_true, imp_self, mkN_ps, mkN_rs, mkN_self, mkN_len, PLoop.of, lCnt, AV.len, lTr]
  rw [u8_mod ha (by omega), u8_mod hb (by omega)]
  have hp33 : (a % 33).toNat < 33 := by omega
  have hq33 : (b % 33).toNat < 33 := by omega
  generalize (a % 33).toNat = p at *
  generalize (b % 33).toNat = q at *
  have hpq : IntKind.i64.wrap ((p : Int) + (q : Int)) = ((p + q : Nat) : Int) := by rw [w64_eq (by omega) (by omega)]; omega
  have hp1 : IntKind.i64.wrap ((p : Int) + 1) = ((p + 1 : Nat) : Int) := by rw [w64_eq (by omega) (by omega)]; omega
  have hq1 : IntKind.i64.wrap ((q : Int) + 1) = ((q + 1 : Nat) : Int) := by rw [w64_eq (by omega) (by omega)]; omega
  rw [hpq, hp1, hq1]
  have hbnd : (p + 1) * (q + 1) ≤ 33 * 33 := Nat.mul_le_mul (by omega) (by omega)
  have hmul : IntKind.i64.wrap (((p + 1 : Nat) : Int) * ((q + 1 : Nat) : Int)) = (((p + 1) * (q + 1) : Nat) : Int) := by
    rw [← Int.natCast_mul, w64_eq (by omega) (by omega)]
  rw [hmul]
  have hN : p + q + 0 ≤ 64 := by omega
  have hV := tri_vals hN (by rw [Nat.zero_add, Nat.mul_one]; omega)
  rw [Nat.zero_add, Nat.mul_one, Nat.add_zero] at hV
  have hm3 : mul3 p q 0 = cho (p + q) p := by rw [mul3, cho_zero, Nat.mul_one]
  have hcl := cho_le (n := p + q) (by omega) p
  rw [hm3, if_pos hcl] at hV
  obtain ⟨v1, v2, v3, v4⟩ := hV
  have v4 := v4 hcl
  refine ⟨fun h => (by cases h), fun h => (by cases h), (), ⟨0, .inr rfl, rfl, ⟨rfl, rfl⟩, rfl, rfl, rfl⟩, fun x hx => ⟨fun hlx => ?_, fun hlx => ?_⟩⟩
  · have hx2 : x + 1 < p + q := lt_len hlx
    have hw := wrS (n := 70) (i := x + 1) (by omega) (by omega)
    have hw1 : IntKind.i64.wrap (((x + 1 : Nat) : Int) - 1) = ((x + 1 : Nat) : Int) - 1 := w64_eq (by omega) (by omega)
    have hlen := tri_len_le (p := p) (q := q) (x + 1)
    rw [hw1]
    refine ⟨fun hc => ?_, fun hc => ?_⟩
    · have hne : x + 1 ≠ p ∧ x + 1 ≠ p + q := ⟨fun e => (by rw [e] at hc; simp at hc), by omega⟩
      have hs := tri_add hne.1 hne.2
      have hsl : (triP p q (x + 1 + 1)).length = (triP p q (x + 1)).length + 1 := by rw [hs, List.length_append]; rfl
      exact ⟨by omega, by omega, x + 1, .inl (by omega), by omega, hw, hsl.symm, hsl.symm, fun j hj => by rw [hs] at hj ⊢; exact pq1 j hj, fun j hj => by rw [hs] at hj ⊢; exact pq2 j hj⟩
    · have hs := tri_skip (p := p) (q := q) (x := x) (.inl (by have h : ((x + 1 : Nat) : Int) = p := (by simpa using hc); omega))
      exact ⟨x + 1, .inl (by omega), by omega, hw, by rw [hs], by rw [hs], fun j _ => by rw [hs], fun j _ => by rw [hs]⟩

  · have hx2 : ¬ x + 1 < p + q := fun h => by have := of_decide_eq_false hlx; omega
    have he : triP p q (x + 1) = triP p q (p + q) := by
      rcases hx with h | h
      · rw [show x + 1 = p + q by omega]
      · subst h
        by_cases h0 : p + q = 0
        · rw [h0]; rfl
        · rw [show 0 + 1 = p + q by omega]
    have hl := tri_len_le (p := p) (q := q) (p + q)
    rw [v1, v2, v3, v4, Int.toNat_natCast, Int.toNat_natCast]
    exact ⟨he, by omega, he, by omega, fun _ => ⟨by omega, by omega⟩, fun _ => ⟨by omega, by omega⟩, by simp⟩

theorem v7_eq (a b c : Int) : (fnVc (tabT [kCnt [none, some (.ps (triP (a % 22).toNat (b % 22).toNat ((a % 22).toNat + (b % 22).toNat + (c % 22).toNat)))], kDws [none, some (.ps (triP (a % 22).toNat (b % 22).toNat ((a % 22).toNat + (b % 22).toNat + (c % 22).toNat)))], kAwk [], kCho []] [] [(0, .of (lTr (a % 22).toNat (b % 22).toNat ((a % 22).toNat + (b % 22).toNat + (c % 22).toNat) 11 1 0))] [(3, fun _ _ => [.fresh 0 1 40 2])] [] []) Try.f7 [.i .u8 a, .i .u8 b, .i .u8 c] [] (plainIs .tt)) = (((22 : Int) = (0 : Int) → False) ∧
 ((22 : Int) = (0 : Int) → False) ∧
 ((22 : Int) = (0 : Int) → False) ∧
 ∃ (x : PUnit),
 (∃ (x : Nat),
 (x + (1 : Nat) ≤ (a % (22 : Int)).toNat + (b % (22 : Int)).toNat + (c % (22 : Int)).toNat ∨ x = (0 : Nat)) ∧
 ((1 : Int) = (↑(x + (1 : Nat)) : Int) ∧ True) ∧
 (IntKind.i64.wrap
 (IntKind.i64.wrap
 ((IntKind.i64.wrap a).tmod (22 : Int) + (IntKind.i64.wrap b).tmod (22 : Int)) +
 (IntKind.i64.wrap c).tmod (22 : Int)) =
 (↑((a % (22 : Int)).toNat + (b % (22 : Int)).toNat + (c % (22 : Int)).toNat) : Int) ∧
 (0 : Nat) = (triP (a % (22 : Int)).toNat (b % (22 : Int)).toNat (x + (1 : Nat))).length) ∧
 ((0 : Nat) = (triP (a % (22 : Int)).toNat (b % (22 : Int)).toNat (x + (1 : Nat))).length ∧
 (triP (a % (22 : Int)).toNat (b % (22 : Int)).toNat (x + (1 : Nat))).length = (0 : Nat) ∧
 (triP (a % (22 : Int)).toNat (b % (22 : Int)).toNat (x + (1 : Nat))).length = (0 : Nat) ∧
 True) ∧
 True) ∧
 ∀ (x_1 : Nat),
 x_1 + (1 : Nat) ≤ (a % (22 : Int)).toNat + (b % (22 : Int)).toNat + (c % (22 : Int)).toNat ∨
 x_1 = (0 : Nat) →
 (decide
 ((↑(x_1 + (1 : Nat)) : Int) <
 IntKind.i64.wrap
 (IntKind.i64.wrap
 ((IntKind.i64.wrap a).tmod (22 : Int) + (IntKind.i64.wrap b).tmod (22 : Int)) +
 (IntKind.i64.wrap c).tmod (22 : Int))) =
 true →
 (((↑(x_1 + (1 : Nat)) : Int) != (IntKind.i64.wrap a).tmod (22 : Int) &&
 (↑(x_1 + (1 : Nat)) : Int) !=
 IntKind.i64.wrap
 ((IntKind.i64.wrap a).tmod (22 : Int) + (IntKind.i64.wrap b).tmod (22 : Int))) =
 true →
 (triP (a % (22 : Int)).toNat (b % (22 : Int)).toNat (x_1 + (1 : Nat))).length =
 (triP (a % (22 : Int)).toNat (b % (22 : Int)).toNat (x_1 + (1 : Nat))).length ∧
 (1 : Nat) = (1 : Nat) ∧
 ((triP (a % (22 : Int)).toNat (b % (22 : Int)).toNat (x_1 + (1 : Nat))).length + (1 : Nat)) *
 (16 : Nat) ≤
 (140737488355328 : Nat) ∧
 (triP (a % (22 : Int)).toNat (b % (22 : Int)).toNat (x_1 + (1 : Nat))).length + (1 : Nat) ≤
 (9223372036854775807 : Nat) ∧
 ∃ (x_2 : Nat),
 (x_2 + (1 : Nat) ≤
 (a % (22 : Int)).toNat + (b % (22 : Int)).toNat + (c % (22 : Int)).toNat ∨
 x_2 = (0 : Nat)) ∧
 ((PLoop.of
 (lTr (a % (22 : Int)).toNat (b % (22 : Int)).toNat
 ((a % (22 : Int)).toNat + (b % (22 : Int)).toNat +
 (c % (22 : Int)).toNat)
 (11 : Nat) (1 : Nat) (0 : Nat))).ann
 x).mu
 x_2 <
 ((PLoop.of
 (lTr (a % (22 : Int)).toNat (b % (22 : Int)).toNat
 ((a % (22 : Int)).toNat + (b % (22 : Int)).toNat +
 (c % (22 : Int)).toNat)
 (11 : Nat) (1 : Nat) (0 : Nat))).ann
 x).mu
 x_1 ∧
 (a = a ∧
 b = b ∧
 c = c ∧
 false = false ∧
 (IntKind.i64.wrap a).tmod (22 : Int) =
 (IntKind.i64.wrap a).tmod (22 : Int) ∧
 (IntKind.i64.wrap b).tmod (22 : Int) =
 (IntKind.i64.wrap b).tmod (22 : Int) ∧
 (IntKind.i64.wrap c).tmod (22 : Int) =
 (IntKind.i64.wrap c).tmod (22 : Int) ∧
 True ∧
 IntKind.i64.wrap ((↑(x_1 + (1 : Nat)) : Int) + (1 : Int)) =
 (↑(x_2 + (1 : Nat)) : Int) ∧
 a = a ∧
 IntKind.i64.wrap a = IntKind.i64.wrap a ∧
 (IntKind.i64.wrap a).tmod (22 : Int) =
 (IntKind.i64.wrap a).tmod (22 : Int) ∧
 b = b ∧
 IntKind.i64.wrap b = IntKind.i64.wrap b ∧
 (IntKind.i64.wrap b).tmod (22 : Int) =
 (IntKind.i64.wrap b).tmod (22 : Int) ∧
 c = c ∧
 IntKind.i64.wrap c = IntKind.i64.wrap c ∧
 (IntKind.i64.wrap c).tmod (22 : Int) =
 (IntKind.i64.wrap c).tmod (22 : Int) ∧
 (IntKind.i64.wrap a).tmod (22 : Int) =
 (IntKind.i64.wrap a).tmod (22 : Int) ∧
 (IntKind.i64.wrap b).tmod (22 : Int) =
 (IntKind.i64.wrap b).tmod (22 : Int) ∧
 IntKind.i64.wrap
 ((IntKind.i64.wrap a).tmod
 (22 : Int) +
 (IntKind.i64.wrap b).tmod
 (22 : Int)) =
 IntKind.i64.wrap
 ((IntKind.i64.wrap a).tmod
 (22 : Int) +
 (IntKind.i64.wrap b).tmod
 (22 : Int)) ∧
 (IntKind.i64.wrap c).tmod (22 : Int) =
 (IntKind.i64.wrap c).tmod
 (22 : Int) ∧
 IntKind.i64.wrap
 (IntKind.i64.wrap
 ((IntKind.i64.wrap a).tmod
 (22 : Int) +
 (IntKind.i64.wrap b).tmod
 (22 : Int)) +
 (IntKind.i64.wrap c).tmod
 (22 : Int)) =
 IntKind.i64.wrap
 (IntKind.i64.wrap
 ((IntKind.i64.wrap a).tmod
 (22 : Int) +
 (IntKind.i64.wrap b).tmod
 (22 : Int)) +
 (IntKind.i64.wrap c).tmod
 (22 : Int)) ∧
 (IntKind.i64.wrap
 (IntKind.i64.wrap
 ((IntKind.i64.wrap
 a).tmod
 (22 : Int) +
 (IntKind.i64.wrap
 b).tmod
 (22 : Int)) +
 (IntKind.i64.wrap c).tmod
 (22 : Int)) =
 IntKind.i64.wrap
 (IntKind.i64.wrap
 ((IntKind.i64.wrap
 a).tmod
 (22 : Int) +
 (IntKind.i64.wrap
 b).tmod
 (22 : Int)) +
 (IntKind.i64.wrap c).tmod
 (22 : Int)) ∧
 True) ∧
 True) ∧
 ((↑((a % (22 : Int)).toNat + (b % (22 : Int)).toNat + (c % (22 : Int)).toNat) :
 Int) =
 (↑((a % (22 : Int)).toNat + (b % (22 : Int)).toNat +
 (c % (22 : Int)).toNat) :
 Int) ∧
 (triP (a % (22 : Int)).toNat (b % (22 : Int)).toNat
 (x_1 + (1 : Nat))).length +
 (1 : Nat) =
 (triP (a % (22 : Int)).toNat (b % (22 : Int)).toNat
 (x_2 + (1 : Nat))).length) ∧
 ((triP (a % (22 : Int)).toNat (b % (22 : Int)).toNat (x_1 + (1 : Nat))).length +
 (1 : Nat) =
 (triP (a % (22 : Int)).toNat (b % (22 : Int)).toNat
 (x_2 + (1 : Nat))).length ∧
 (∀ (j : Nat),
 j <
 (triP (a % (22 : Int)).toNat (b % (22 : Int)).toNat
 (x_2 + (1 : Nat))).length →
 (bif
 j.blt
 (triP (a % (22 : Int)).toNat (b % (22 : Int)).toNat
 (x_1 + (1 : Nat))).length then
 (nthD ((0 : Int), (0 : Int))
 (triP (a % (22 : Int)).toNat (b % (22 : Int)).toNat
 (x_1 + (1 : Nat)))
 j).fst
 else
 pickI [IntKind.i64.wrap ((↑(x_1 + (1 : Nat)) : Int) - (1 : Int))]
 (j -
 (triP (a % (22 : Int)).toNat (b % (22 : Int)).toNat
 (x_1 + (1 : Nat))).length)) =
 (nthD ((0 : Int), (0 : Int))
 (triP (a % (22 : Int)).toNat (b % (22 : Int)).toNat
 (x_2 + (1 : Nat)))
 j).fst) ∧
 (∀ (j : Nat),
 j <
 (triP (a % (22 : Int)).toNat (b % (22 : Int)).toNat
 (x_2 + (1 : Nat))).length →
 (bif
 j.blt
 (triP (a % (22 : Int)).toNat (b % (22 : Int)).toNat
 (x_1 + (1 : Nat))).length then
 (nthD ((0 : Int), (0 : Int))
 (triP (a % (22 : Int)).toNat (b % (22 : Int)).toNat
 (x_1 + (1 : Nat)))
 j).snd
 else
 pickI [(↑(x_1 + (1 : Nat)) : Int)]
 (j -
 (triP (a % (22 : Int)).toNat (b % (22 : Int)).toNat
 (x_1 + (1 : Nat))).length)) =
 (nthD ((0 : Int), (0 : Int))
 (triP (a % (22 : Int)).toNat (b % (22 : Int)).toNat
 (x_2 + (1 : Nat)))
 j).snd) ∧
 True) ∧
 True) ∧
 (((↑(x_1 + (1 : Nat)) : Int) != (IntKind.i64.wrap a).tmod (22 : Int) &&
 (↑(x_1 + (1 : Nat)) : Int) !=
 IntKind.i64.wrap
 ((IntKind.i64.wrap a).tmod (22 : Int) + (IntKind.i64.wrap b).tmod (22 : Int))) =
 false →
 ∃ (x_2 : Nat),
 (x_2 + (1 : Nat) ≤ (a % (22 : Int)).toNat + (b % (22 : Int)).toNat + (c % (22 : Int)).toNat ∨
 x_2 = (0 : Nat)) ∧
 ((PLoop.of
 (lTr (a % (22 : Int)).toNat (b % (22 : Int)).toNat
 ((a % (22 : Int)).toNat + (b % (22 : Int)).toNat + (c % (22 : Int)).toNat)
 (11 : Nat) (1 : Nat) (0 : Nat))).ann
 x).mu
 x_2 <
 ((PLoop.of
 (lTr (a % (22 : Int)).toNat (b % (22 : Int)).toNat
 ((a % (22 : Int)).toNat + (b % (22 : Int)).toNat + (c % (22 : Int)).toNat)
 (11 : Nat) (1 : Nat) (0 : Nat))).ann
 x).mu
 x_1 ∧
 (a = a ∧
 b = b ∧
 c = c ∧
 false = false ∧
 (IntKind.i64.wrap a).tmod (22 : Int) = (IntKind.i64.wrap a).tmod (22 : Int) ∧
 (IntKind.i64.wrap b).tmod (22 : Int) = (IntKind.i64.wrap b).tmod (22 : Int) ∧
 (IntKind.i64.wrap c).tmod (22 : Int) = (IntKind.i64.wrap c).tmod (22 : Int) ∧
 True ∧
 IntKind.i64.wrap ((↑(x_1 + (1 : Nat)) : Int) + (1 : Int)) =
 (↑(x_2 + (1 : Nat)) : Int) ∧
 a = a ∧
 IntKind.i64.wrap a = IntKind.i64.wrap a ∧
 (IntKind.i64.wrap a).tmod (22 : Int) =
 (IntKind.i64.wrap a).tmod (22 : Int) ∧
 b = b ∧
 IntKind.i64.wrap b = IntKind.i64.wrap b ∧
 (IntKind.i64.wrap b).tmod (22 : Int) =
 (IntKind.i64.wrap b).tmod (22 : Int) ∧
 c = c ∧
 IntKind.i64.wrap c = IntKind.i64.wrap c ∧
 (IntKind.i64.wrap c).tmod (22 : Int) =
 (IntKind.i64.wrap c).tmod (22 : Int) ∧
 (IntKind.i64.wrap a).tmod (22 : Int) =
 (IntKind.i64.wrap a).tmod (22 : Int) ∧
 (IntKind.i64.wrap b).tmod (22 : Int) =
 (IntKind.i64.wrap b).tmod (22 : Int) ∧
 IntKind.i64.wrap
 ((IntKind.i64.wrap a).tmod (22 : Int) +
 (IntKind.i64.wrap b).tmod (22 : Int)) =
 IntKind.i64.wrap
 ((IntKind.i64.wrap a).tmod (22 : Int) +
 (IntKind.i64.wrap b).tmod (22 : Int)) ∧
 (IntKind.i64.wrap c).tmod (22 : Int) =
 (IntKind.i64.wrap c).tmod (22 : Int) ∧
 IntKind.i64.wrap
 (IntKind.i64.wrap
 ((IntKind.i64.wrap a).tmod
 (22 : Int) +
 (IntKind.i64.wrap b).tmod
 (22 : Int)) +
 (IntKind.i64.wrap c).tmod
 (22 : Int)) =
 IntKind.i64.wrap
 (IntKind.i64.wrap
 ((IntKind.i64.wrap a).tmod
 (22 : Int) +
 (IntKind.i64.wrap b).tmod
 (22 : Int)) +
 (IntKind.i64.wrap c).tmod
 (22 : Int)) ∧
 (IntKind.i64.wrap
 (IntKind.i64.wrap
 ((IntKind.i64.wrap a).tmod
 (22 : Int) +
 (IntKind.i64.wrap b).tmod
 (22 : Int)) +
 (IntKind.i64.wrap c).tmod
 (22 : Int)) =
 IntKind.i64.wrap
 (IntKind.i64.wrap
 ((IntKind.i64.wrap a).tmod
 (22 : Int) +
 (IntKind.i64.wrap b).tmod
 (22 : Int)) +
 (IntKind.i64.wrap c).tmod
 (22 : Int)) ∧
 True) ∧
 True) ∧
 ((↑((a % (22 : Int)).toNat + (b % (22 : Int)).toNat + (c % (22 : Int)).toNat) : Int) =
 (↑((a % (22 : Int)).toNat + (b % (22 : Int)).toNat + (c % (22 : Int)).toNat) :
 Int) ∧
 (triP (a % (22 : Int)).toNat (b % (22 : Int)).toNat (x_1 + (1 : Nat))).length =
 (triP (a % (22 : Int)).toNat (b % (22 : Int)).toNat (x_2 + (1 : Nat))).length) ∧
 ((triP (a % (22 : Int)).toNat (b % (22 : Int)).toNat (x_1 + (1 : Nat))).length =
 (triP (a % (22 : Int)).toNat (b % (22 : Int)).toNat (x_2 + (1 : Nat))).length ∧
 (∀ (j : Nat),
 j <
 (triP (a % (22 : Int)).toNat (b % (22 : Int)).toNat
 (x_2 + (1 : Nat))).length →
 (nthD ((0 : Int), (0 : Int))
 (triP (a % (22 : Int)).toNat (b % (22 : Int)).toNat (x_1 + (1 : Nat)))
 j).fst =
 (nthD ((0 : Int), (0 : Int))
 (triP (a % (22 : Int)).toNat (b % (22 : Int)).toNat (x_2 + (1 : Nat)))
 j).fst) ∧
 (∀ (j : Nat),
 j <
 (triP (a % (22 : Int)).toNat (b % (22 : Int)).toNat
 (x_2 + (1 : Nat))).length →
 (nthD ((0 : Int), (0 : Int))
 (triP (a % (22 : Int)).toNat (b % (22 : Int)).toNat (x_1 + (1 : Nat)))
 j).snd =
 (nthD ((0 : Int), (0 : Int))
 (triP (a % (22 : Int)).toNat (b % (22 : Int)).toNat (x_2 + (1 : Nat)))
 j).snd) ∧
 True) ∧
 True)) ∧
 (decide
 ((↑(x_1 + (1 : Nat)) : Int) <
 IntKind.i64.wrap
 (IntKind.i64.wrap
 ((IntKind.i64.wrap a).tmod (22 : Int) + (IntKind.i64.wrap b).tmod (22 : Int)) +
 (IntKind.i64.wrap c).tmod (22 : Int))) =
 false →
 (triP (a % (22 : Int)).toNat (b % (22 : Int)).toNat (x_1 + (1 : Nat))).length =
 (triP (a % (22 : Int)).toNat (b % (22 : Int)).toNat (x_1 + (1 : Nat))).length ∧
 mkN
 (fun (j : Nat) =>
 ((nthD ((0 : Int), (0 : Int))
 (triP (a % (22 : Int)).toNat (b % (22 : Int)).toNat (x_1 + (1 : Nat))) j).fst,
 (nthD ((0 : Int), (0 : Int))
 (triP (a % (22 : Int)).toNat (b % (22 : Int)).toNat (x_1 + (1 : Nat))) j).snd))
 (triP (a % (22 : Int)).toNat (b % (22 : Int)).toNat (x_1 + (1 : Nat))).length =
 triP (a % (22 : Int)).toNat (b % (22 : Int)).toNat
 ((a % (22 : Int)).toNat + (b % (22 : Int)).toNat + (c % (22 : Int)).toNat) ∧
 (triP (a % (22 : Int)).toNat (b % (22 : Int)).toNat
 ((a % (22 : Int)).toNat + (b % (22 : Int)).toNat + (c % (22 : Int)).toNat)).length ≤
 (1099511627776 : Nat) ∧
 (triP (a % (22 : Int)).toNat (b % (22 : Int)).toNat (x_1 + (1 : Nat))).length =
 (triP (a % (22 : Int)).toNat (b % (22 : Int)).toNat (x_1 + (1 : Nat))).length ∧
 mkN
 (fun (j : Nat) =>
 ((nthD ((0 : Int), (0 : Int))
 (triP (a % (22 : Int)).toNat (b % (22 : Int)).toNat (x_1 + (1 : Nat))) j).fst,
 (nthD ((0 : Int), (0 : Int))
 (triP (a % (22 : Int)).toNat (b % (22 : Int)).toNat (x_1 + (1 : Nat))) j).snd))
 (triP (a % (22 : Int)).toNat (b % (22 : Int)).toNat (x_1 + (1 : Nat))).length =
 triP (a % (22 : Int)).toNat (b % (22 : Int)).toNat
 ((a % (22 : Int)).toNat + (b % (22 : Int)).toNat + (c % (22 : Int)).toNat) ∧
 (triP (a % (22 : Int)).toNat (b % (22 : Int)).toNat
 ((a % (22 : Int)).toNat + (b % (22 : Int)).toNat + (c % (22 : Int)).toNat)).length ≤
 (1099511627776 : Nat) ∧
 ((0 : Int) ≤
 IntKind.i64.wrap
 ((IntKind.i64.wrap a).tmod (22 : Int) + (IntKind.i64.wrap b).tmod (22 : Int)) ∧
 IntKind.i64.wrap
 ((IntKind.i64.wrap a).tmod (22 : Int) + (IntKind.i64.wrap b).tmod (22 : Int)) ≤
 (64 : Int)) ∧
 ((0 : Int) ≤ (IntKind.i64.wrap a).tmod (22 : Int) ∧
 (IntKind.i64.wrap a).tmod (22 : Int) ≤
 IntKind.i64.wrap
 ((IntKind.i64.wrap a).tmod (22 : Int) + (IntKind.i64.wrap b).tmod (22 : Int))) ∧
 ((0 : Int) ≤
 IntKind.i64.wrap
 (IntKind.i64.wrap
 ((IntKind.i64.wrap a).tmod (22 : Int) +
 (IntKind.i64.wrap b).tmod (22 : Int)) +
 (IntKind.i64.wrap c).tmod (22 : Int)) ∧
 IntKind.i64.wrap
 (IntKind.i64.wrap
 ((IntKind.i64.wrap a).tmod (22 : Int) +
 (IntKind.i64.wrap b).tmod (22 : Int)) +
 (IntKind.i64.wrap c).tmod (22 : Int)) ≤
 (64 : Int)) ∧
 ((0 : Int) ≤ (IntKind.i64.wrap c).tmod (22 : Int) ∧
 (IntKind.i64.wrap c).tmod (22 : Int) ≤
 IntKind.i64.wrap
 (IntKind.i64.wrap
 ((IntKind.i64.wrap a).tmod (22 : Int) +
 (IntKind.i64.wrap b).tmod (22 : Int)) +
 (IntKind.i64.wrap c).tmod (22 : Int))) ∧
 ((dwnE
 (↑((a % (22 : Int)).toNat + (b % (22 : Int)).toNat +
 (c % (22 : Int)).toNat) :
 Int)
 (triP (a % (22 : Int)).toNat (b % (22 : Int)).toNat
 ((a % (22 : Int)).toNat + (b % (22 : Int)).toNat +
 (c % (22 : Int)).toNat)) !=
 (0 : Int) ||
 (↑(dwnV
 (↑((a % (22 : Int)).toNat + (b % (22 : Int)).toNat +
 (c % (22 : Int)).toNat) :
 Int)
 (triP (a % (22 : Int)).toNat (b % (22 : Int)).toNat
 ((a % (22 : Int)).toNat + (b % (22 : Int)).toNat +
 (c % (22 : Int)).toNat))) :
 Int) !=
 IntKind.i64.wrap
 (IntKind.i64.wrap
 (IntKind.i64.wrap
 ((IntKind.i64.wrap a).tmod (22 : Int) + (1 : Int)) *
 IntKind.i64.wrap
 ((IntKind.i64.wrap b).tmod (22 : Int) + (1 : Int))) *
 IntKind.i64.wrap
 ((IntKind.i64.wrap c).tmod (22 : Int) + (1 : Int)))) =
 true →
 false = true) ∧
 ((dwnE
 (↑((a % (22 : Int)).toNat + (b % (22 : Int)).toNat +
 (c % (22 : Int)).toNat) :
 Int)
 (triP (a % (22 : Int)).toNat (b % (22 : Int)).toNat
 ((a % (22 : Int)).toNat + (b % (22 : Int)).toNat +
 (c % (22 : Int)).toNat)) !=
 (0 : Int) ||
 (↑(dwnV
 (↑((a % (22 : Int)).toNat + (b % (22 : Int)).toNat +
 (c % (22 : Int)).toNat) :
 Int)
 (triP (a % (22 : Int)).toNat (b % (22 : Int)).toNat
 ((a % (22 : Int)).toNat + (b % (22 : Int)).toNat +
 (c % (22 : Int)).toNat))) :
 Int) !=
 IntKind.i64.wrap
 (IntKind.i64.wrap
 (IntKind.i64.wrap
 ((IntKind.i64.wrap a).tmod (22 : Int) + (1 : Int)) *
 IntKind.i64.wrap
 ((IntKind.i64.wrap b).tmod (22 : Int) + (1 : Int))) *
 IntKind.i64.wrap
 ((IntKind.i64.wrap c).tmod (22 : Int) + (1 : Int)))) =
 false →
 ((↑(cho
 (IntKind.i64.wrap
 (IntKind.i64.wrap
 ((IntKind.i64.wrap a).tmod (22 : Int) +
 (IntKind.i64.wrap b).tmod (22 : Int)) +
 (IntKind.i64.wrap c).tmod (22 : Int))).toNat
 ((IntKind.i64.wrap c).tmod (22 : Int)).toNat) :
 Int) =
 (0 : Int) →
 False) ∧
 (decide
 ((↑(cho
 (IntKind.i64.wrap
 ((IntKind.i64.wrap a).tmod (22 : Int) +
 (IntKind.i64.wrap b).tmod (22 : Int))).toNat
 ((IntKind.i64.wrap a).tmod (22 : Int)).toNat) :
 Int) >
 IntKind.i64.wrap
 (Int.tdiv (9223372036854775807 : Int)
 (↑(cho
 (IntKind.i64.wrap
 (IntKind.i64.wrap
 ((IntKind.i64.wrap a).tmod (22 : Int) +
 (IntKind.i64.wrap b).tmod (22 : Int)) +
 (IntKind.i64.wrap c).tmod (22 : Int))).toNat
 ((IntKind.i64.wrap c).tmod (22 : Int)).toNat) :
 Int))) =
 true →
 (cntE
 (↑((a % (22 : Int)).toNat + (b % (22 : Int)).toNat +
 (c % (22 : Int)).toNat) :
 Int)
 (triP (a % (22 : Int)).toNat (b % (22 : Int)).toNat
 ((a % (22 : Int)).toNat + (b % (22 : Int)).toNat +
 (c % (22 : Int)).toNat)) ==
 (4 : Int)) =
 true) ∧
 (decide
 ((↑(cho
 (IntKind.i64.wrap
 ((IntKind.i64.wrap a).tmod (22 : Int) +
 (IntKind.i64.wrap b).tmod (22 : Int))).toNat
 ((IntKind.i64.wrap a).tmod (22 : Int)).toNat) :
 Int) >
 IntKind.i64.wrap
 (Int.tdiv (9223372036854775807 : Int)
 (↑(cho
 (IntKind.i64.wrap
 (IntKind.i64.wrap
 ((IntKind.i64.wrap a).tmod (22 : Int) +
 (IntKind.i64.wrap b).tmod (22 : Int)) +
 (IntKind.i64.wrap c).tmod (22 : Int))).toNat
 ((IntKind.i64.wrap c).tmod (22 : Int)).toNat) :
 Int))) =
 false →
 (cntE
 (↑((a % (22 : Int)).toNat + (b % (22 : Int)).toNat +
 (c % (22 : Int)).toNat) :
 Int)
 (triP (a % (22 : Int)).toNat (b % (22 : Int)).toNat
 ((a % (22 : Int)).toNat + (b % (22 : Int)).toNat +
 (c % (22 : Int)).toNat)) ==
 (0 : Int) &&
 (↑(cntV
 (↑((a % (22 : Int)).toNat + (b % (22 : Int)).toNat +
 (c % (22 : Int)).toNat) :
 Int)
 (triP (a % (22 : Int)).toNat (b % (22 : Int)).toNat
 ((a % (22 : Int)).toNat + (b % (22 : Int)).toNat +
 (c % (22 : Int)).toNat))) :
 Int) ==
 IntKind.i64.wrap
 ((↑(cho
 (IntKind.i64.wrap
 ((IntKind.i64.wrap a).tmod (22 : Int) +
 (IntKind.i64.wrap b).tmod (22 : Int))).toNat
 ((IntKind.i64.wrap a).tmod (22 : Int)).toNat) :
 Int) *
 (↑(cho
 (IntKind.i64.wrap
 (IntKind.i64.wrap
 ((IntKind.i64.wrap a).tmod (22 : Int) +
 (IntKind.i64.wrap b).tmod (22 : Int)) +
 (IntKind.i64.wrap c).tmod (22 : Int))).toNat
 ((IntKind.i64.wrap c).tmod (22 : Int)).toNat) :
 Int))) =
 true)))) := by kernel_rfl
theorem v7 (a b c : Int) (ha : 0 ≤ a ∧ a < 256) (hb : 0 ≤ b ∧ b < 256) (hc0 : 0 ≤ c ∧ c < 256) : fnVc (tabT [kCnt [none, some (.ps (triP (a % 22).toNat (b % 22).toNat ((a % 22).toNat + (b % 22).toNat + (c % 22).toNat)))], kDws [none, some (.ps (triP (a % 22).toNat (b % 22).toNat ((a % 22).toNat + (b % 22).toNat + (c % 22).toNat)))], kAwk [], kCho []] [] [(0, .of (lTr (a % 22).toNat (b % 22).toNat ((a % 22).toNat + (b % 22).toNat + (c % 22).toNat) 11 1 0))] [(3, fun _ _ => [.fresh 0 1 40 2])] [] []) Try.f7 [.i .u8 a, .i .u8 b, .i .u8 c] [] (plainIs .tt) := by
  rw [v7_eq]
  simp only [eq_self, true_and, and_true, implies_true, imp_self, mkN_ps, mkN_rs, mkN_self, mkN_len, PLoop.of, lCnt, AV.len, lTr]
  rw [u8_mod ha (by omega), u8_mod hb (by omega), u8_mod hc0 (by omega)]
  have hp22 : (a % 22).toNat < 22 := by omega
  have hq22 : (b % 22).toNat < 22 := by omega
  have hr22 : (c % 22).toNat < 22 := by omega
  generalize (a % 22).toNat = p at *
  generalize (b % 22).toNat = q at *
  generalize (c % 22).toNat = r at *
  have hpq : IntKind.i64.wrap ((p : Int) + (q : Int)) = ((p + q : Nat) : Int) := by rw [w64_eq (by omega) (by omega)]; omega
  have hpqr : IntKind.i64.wrap (((p + q : Nat) : Int) + (r : Int)) = ((p + q + r : Nat) : Int) := by rw [w64_eq (by omega) (by omega)]; omega
  have hp1 : IntKind.i64.wrap ((p : Int) + 1) = ((p + 1 : Nat) : Int) := by rw [w64_eq (by omega) (by omega)]; omega
  have hq1 : IntKind.i64.wrap ((q : Int) + 1) = ((q + 1 : Nat) : Int) := by rw [w64_eq (by omega) (by omega)]; omega
  have hr1 : IntKind.i64.wrap ((r : Int) + 1) = ((r + 1 : Nat) : Int) := by rw [w64_eq (by omega) (by omega)]; omega
  rw [hpq, hpqr, hp1, hq1, hr1]
  have hb1 : (p + 1) * (q + 1) ≤ 22 * 22 := Nat.mul_le_mul (by omega) (by omega)
  have hb2 : (p + 1) * (q + 1) * (r + 1) ≤ 22 * 22 * 22 := Nat.mul_le_mul hb1 (by omega)
  have hmul : IntKind.i64.wrap (((p + 1 : Nat) : Int) * ((q + 1 : Nat) : Int)) = (((p + 1) * (q + 1) : Nat) : Int) := by
    rw [← Int.natCast_mul, w64_eq (by omega) (by omega)]
  have hmul2 : IntKind.i64.wrap ((((p + 1) * (q + 1) : Nat) : Int) * ((r + 1 : Nat) : Int)) = (((p + 1) * (q + 1) * (r + 1) : Nat) : Int) := by
    rw [← Int.natCast_mul, w64_eq (by omega) (by omega)]
  rw [hmul, hmul2]
  have hN : p + q + r ≤ 64 := by omega
  obtain ⟨v1, v2, v3, v4⟩ := tri_vals hN (by rw [← Nat.mul_assoc]; omega)
  rw [← Nat.mul_assoc] at v2
  refine ⟨fun h => (by cases h), fun h => (by cases h), fun h => (by cases h), (), ⟨0, .inr rfl, rfl, ⟨rfl, rfl⟩, rfl, rfl, rfl⟩, fun x hx => ⟨fun hlx => ?_, fun hlx => ?_⟩⟩
  · have hx2 : x + 1 < p + q + r := lt_len hlx
    have hw := wrS (n := 70) (i := x + 1) (by omega) (by omega)
    have hw1 : IntKind.i64.wrap (((x + 1 : Nat) : Int) - 1) = ((x + 1 : Nat) : Int) - 1 := w64_eq (by omega) (by omega)
    have hlen := tri_len_le (p := p) (q := q) (x + 1)
    rw [hw1]
    refine ⟨fun hc => ?_, fun hc => ?_⟩
    · have hne : x + 1 ≠ p ∧ x + 1 ≠ p + q := by
        rw [Bool.and_eq_true] at hc
        exact ⟨fun e => (by rw [e] at hc; simp at hc), fun e => (by rw [e] at hc; simp at hc)⟩
      have hs := tri_add hne.1 hne.2
      have hsl : (triP p q (x + 1 + 1)).length = (triP p q (x + 1)).length + 1 := by rw [hs, List.length_append]; rfl
      exact ⟨by omega, by omega, x + 1, .inl (by omega), by omega, hw, hsl.symm, hsl.symm, fun j hj => by rw [hs] at hj ⊢; exact pq1 j hj, fun j hj => by rw [hs] at hj ⊢; exact pq2 j hj⟩
    · have hs := tri_skip (p := p) (q := q) (x := x) (by
        rw [Bool.and_eq_false_iff] at hc
        rcases hc with h | h
        · have h : ((x + 1 : Nat) : Int) = p := (by simpa using h)
          exact .inl (by omega)
        · have h : ((x + 1 : Nat) : Int) = ((p + q : Nat) : Int) := (by simpa using h)
          exact .inr (by omega))
      exact ⟨x + 1, .inl (by omega), by omega, hw, by rw [hs], by rw [hs], fun j _ => by rw [hs], fun j _ => by rw [hs]⟩

  · have hx2 : ¬ x + 1 < p + q + r := fun h => by have := of_decide_eq_false hlx; omega
    have he : triP p q (x + 1) = triP p q (p + q + r) := by
      rcases hx with h | h
      · rw [show x + 1 = p + q + r by omega]
      · subst h
        by_cases h0 : p + q + r = 0
        · rw [h0]; rfl
        · rw [show 0 + 1 = p + q + r by omega]
    have hl := tri_len_le (p := p) (q := q) (p + q + r)
    rw [v1, v2, v3, Int.toNat_natCast, Int.toNat_natCast, Int.toNat_natCast, Int.toNat_natCast]
    have hy := cho_pos (p + q + r) r (by omega)
    have hyl := cho_le (n := p + q + r) (by omega) r
    have hxl := cho_le (n := p + q) (by omega) p
    have hm : mul3 p q r = cho (p + q) p * cho (p + q + r) r := rfl
    unfold maxI at *
    generalize cho (p + q) p = X at *
    generalize cho (p + q + r) r = Y at *
    have hd : Int.tdiv 9223372036854775807 (Y : Int) = ((9223372036854775807 / Y : Nat) : Int) := by
      rw [Int.tdiv_eq_ediv_of_nonneg (by omega)]; rfl
    have hdl : 9223372036854775807 / Y ≤ 9223372036854775807 := Nat.div_le_self _ _
    have key : ∀ Z : Nat, Z ≤ 9223372036854775807 → IntKind.i64.wrap (Z : Int) = Z := fun Z h => w64_eq (by omega) (by omega)
    rw [hd, key _ hdl]
    have hiff : X ≤ 9223372036854775807 / Y ↔ X * Y ≤ 9223372036854775807 := Nat.le_div_iff_mul_le hy
    generalize 9223372036854775807 / Y = D at *
    refine ⟨he, by omega, he, by omega, ⟨by omega, by omega⟩, ⟨by omega, by omega⟩, ⟨by omega, by omega⟩, ⟨by omega, by omega⟩, fun h => ?_, fun _ => ⟨fun h => (by omega), fun h => ?_, fun h => ?_⟩⟩
    · simp at h
    · have h := of_decide_eq_true h
      have : ¬ X * Y ≤ 9223372036854775807 := fun h2 => by have := hiff.2 h2; omega
      rw [hm, if_neg this]; rfl
    · have h := of_decide_eq_false h
      have h2 : X * Y ≤ 9223372036854775807 := hiff.1 (by omega)
      have hw : IntKind.i64.wrap ((X : Int) * (Y : Int)) = ((X * Y : Nat) : Int) := by rw [← Int.natCast_mul]; exact key _ h2
      rw [v4 (by rw [hm]; exact h2), hm, if_pos h2, hw]
      simp

end Go.Proofs.Ytiokmglajigngaa
