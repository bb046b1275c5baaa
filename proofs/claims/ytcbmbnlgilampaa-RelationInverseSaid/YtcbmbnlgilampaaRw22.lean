/-
  A part of the proof (Rw22).
-/
import Derived.Test.YtcbmbnlgilampaaRw21
namespace Go.Proofs.Ytcbmbnlgilampaa
open Go Go.Proofs.Ytcbmbnlgilampaa.Sx
set_option maxRecDepth 100000
set_option linter.unusedSimpArgs false
set_option linter.unusedVariables false

@[simp] theorem disR_len (n : Nat) (o : Nat → Int) : (disR n o).length = n := mkN_len _ _
@[simp] theorem disP_len (n : Nat) (o : Nat → Int) : (disP n o).length = n := mkN_len _ _
theorem nthD_disR {n j : Nat} {o : Nat → Int} (h : j < n) : nthD 0 (disR n o) j = o j := nthD_mkN _ _ h
theorem nthD_disP {n j : Nat} {o : Nat → Int} (h : j < n) : nthD 0 (disP n o) j = ng (o j) := nthD_mkN _ _ h
theorem hit_succ {f : Pf} {o : Nat → Int} {to : Int} {i a k : Nat} : hit f o to i a (k + 1) = (hit f o to i a k || (f a k && tst o to i k)) := by
  simp only [hit, List.range_succ, List.any_append, List.any_cons, List.any_nil, Bool.or_false]
theorem tst_eq {o : Nat → Int} {to v b : Int} {i : Nat} (hi : i < 64) (hv : 0 < i → (v = (i : Int) ↔ o b.toNat = (i : Int))) :
    (((i + 1 : Nat) : Int) == 1 && b == to || decide (((i + 1 : Nat) : Int) > 1) && v == IntKind.i64.wrap (((i + 1 : Nat) : Int) - 1)) = tst o to i b := by
  rw [w64_eq (by omega) (by omega)]
  rcases Nat.eq_zero_or_pos i with e | e
  · subst e
    simp [tst]
  · have h1 : (((i + 1 : Nat) : Int) == 1) = false := by rw [beq_eq_false_iff_ne]; omega
    have h2 : decide (((i + 1 : Nat) : Int) > 1) = true := decide_eq_true (by omega)
    have h3 : (((i + 1 : Nat) : Int) - 1) = (i : Int) := by omega
    rw [h1, h2, h3, Bool.false_and, Bool.false_or, Bool.true_and, tst, beq_f (by omega), cond_false, Bool.eq_iff_iff, beq_iff_eq, beq_iff_eq]
    exact hv e
theorem disG_same {f : Pf} {n : Nat} {to : Int} {i b : Nat} (hi : 0 < i) : disG f n to (i + 1) b = (i : Int) ↔ disG f n to i b = (i : Int) := by
  simp only [disG]
  cases h : (disG f n to i b == 0 && hit f (disG f n to i) to i b n)
  · exact Iff.rfl
  · simp only [cond_true]
    simp only [Bool.and_eq_true, beq_iff_eq] at h
    rw [h.1]
    constructor <;> intro <;> omega
theorem disM_same {f : Pf} {n : Nat} {to : Int} {i a b : Nat} (hi : 0 < i) : disM f n to i a b = (i : Int) ↔ disG f n to i b = (i : Int) := by
  rw [disM]
  cases Nat.blt b a
  · exact Iff.rfl
  · exact disG_same hi
theorem disM_at {f : Pf} {n : Nat} {to : Int} {i a : Nat} : disM f n to i a a = disG f n to i a := by
  rw [disM, blt_f (by omega)]; rfl
theorem disM_zero {f : Pf} {n : Nat} {to : Int} {i j : Nat} : disM f n to i 0 j = disG f n to i j := by
  rw [disM, blt_f (by omega)]; rfl
theorem disM_full {f : Pf} {n : Nat} {to : Int} {i j : Nat} (h : j < n) : disM f n to i n j = disG f n to (i + 1) j := by
  rw [disM, blt_t h]; rfl
theorem disM_other {f : Pf} {n : Nat} {to : Int} {i a j : Nat} (h : j ≠ a) : disM f n to i (a + 1) j = disM f n to i a j := by
  rw [disM, disM]
  by_cases e : j < a
  · rw [blt_t e, blt_t (by omega)]
  · rw [blt_f e, blt_f (by omega)]
theorem disM_next {f : Pf} {n : Nat} {to : Int} {i a : Nat} : disM f n to i (a + 1) a = disG f n to (i + 1) a := by
  rw [disM, blt_t (by omega)]; rfl
theorem disM_hit {f : Pf} {n : Nat} {to : Int} {i a j : Nat} (h : (hit f (disG f n to i) to i a n && disG f n to i a == 0) = true) : (bif Nat.beq j a then ((i + 1 : Nat) : Int) else disM f n to i a j) = disM f n to i (a + 1) j := by
  by_cases e : j = a
  · subst e
    rw [Bool.and_comm] at h
    rw [beq_t, cond_true, disM_next]; simp only [disG, h]; rfl
  · rw [beq_f e, cond_false, disM_other e]
theorem disM_miss {f : Pf} {n : Nat} {to : Int} {i a j : Nat} (h : (hit f (disG f n to i) to i a n && disG f n to i a == 0) = false) : disM f n to i a j = disM f n to i (a + 1) j := by
  by_cases e : j = a
  · subst e
    rw [Bool.and_comm] at h
    rw [disM_next, disM_at]; simp only [disG, h]; rfl
  · rw [disM_other e]
theorem v37_eq (n : Int) (h : List Bool) (to : Int) : (fnVc (tab [] [(0, .of (lDr0 (tblF n.toNat h) n.toNat to 8 2)), (2, lDr1 (tblF n.toNat h) n.toNat to 9 2), (4, lDr2 (tblF n.toNat h) n.toNat to 11 10)]) Try.f37 [.i .i64 n, .sl 0 h.length, .i .i64 to] [arB h] (resIs (.sl 0 (disR n.toNat (disG (tblF n.toNat h) n.toNat to n.toNat)).length) 3 (disR n.toNat (disG (tblF n.toNat h) n.toNat to n.toNat)).length (isCols (disR n.toNat (disG (tblF n.toNat h) n.toNat to n.toNat))))) = ((0 : Int) ≤ n ∧
 n = n ∧
 (↑(8 : Nat) : Int) * n ≤ (281474976710656 : Int) ∧
 n ≤ (9223372036854775807 : Int) ∧
 ∃ (x : PUnit),
 (∃ (x : Nat),
 x ≤ n.toNat ∧
 ((1 : Int) = (↑(x + (1 : Nat)) : Int) ∧ True) ∧
 (n.toNat = n.toNat ∧
 (∀ (j : Nat),
 j < n.toNat →
 (0 : Int) = nthD (0 : Int) (disR n.toNat (disG (tblF n.toNat h) n.toNat to x)) j) ∧
 True) ∧
 True) ∧
 ∀ (x_1 : Nat),
 x_1 ≤ n.toNat →
 (decide ((↑(x_1 + (1 : Nat)) : Int) ≤ n) = true →
 ∃ (x_2 : Nat),
 (∃ (x : Nat),
 (x ≤ n.toNat ∧ x_2 < n.toNat) ∧
 ((0 : Int) = (↑x : Int) ∧ True) ∧
 (n.toNat = n.toNat ∧
 (∀ (j : Nat),
 j < n.toNat →
 nthD (0 : Int) (disR n.toNat (disG (tblF n.toNat h) n.toNat to x_1)) j =
 nthD (0 : Int) (disR n.toNat (disM (tblF n.toNat h) n.toNat to x_2 x)) j) ∧
 True) ∧
 True) ∧
 ∀ (x_3 : Nat),
 x_3 ≤ n.toNat ∧ x_2 < n.toNat →
 (decide ((↑x_3 : Int) < n) = true →
 ∃ (x : Nat × Nat),
 (∃ (x_4 : Nat),
 (x_4 ≤ n.toNat ∧ x.fst < n.toNat ∧ x.snd < n.toNat) ∧
 ((0 : Int) = (↑x_4 : Int) ∧
 false =
 hit (tblF n.toNat h) (disG (tblF n.toNat h) n.toNat to x.fst) to x.fst
 x.snd x_4 ∧
 True) ∧
 True) ∧
 ∀ (x_4 : Nat),
 x_4 ≤ n.toNat ∧ x.fst < n.toNat ∧ x.snd < n.toNat →
 (decide ((↑x_4 : Int) < n) = true →
 ((0 : Int) ≤
 IntKind.i64.wrap
 (IntKind.i64.wrap ((↑x_3 : Int) * n) + (↑x_4 : Int)) ∧
 IntKind.i64.wrap (IntKind.i64.wrap ((↑x_3 : Int) * n) + (↑x_4 : Int)) <
 (↑h.length : Int)) ∧
 (IntKind.i64.wrap
 (IntKind.i64.wrap ((↑x_3 : Int) * n) + (↑x_4 : Int))).toNat <
 h.length ∧
 (decide ((↑(x_1 + (1 : Nat)) : Int) > (1 : Int)) = true →
 ((↑(x_1 + (1 : Nat)) : Int) == (1 : Int) && (↑x_4 : Int) == to) =
 false →
 nthD false h
 (IntKind.i64.wrap
 (IntKind.i64.wrap ((↑x_3 : Int) * n) +
 (↑x_4 : Int))).toNat =
 true →
 (0 : Int) ≤ (↑x_4 : Int) ∧ (↑x_4 : Int) < (↑n.toNat : Int)) ∧
 (decide ((↑(x_1 + (1 : Nat)) : Int) > (1 : Int)) = true →
 ((↑(x_1 + (1 : Nat)) : Int) == (1 : Int) && (↑x_4 : Int) == to) =
 false →
 nthD false h
 (IntKind.i64.wrap
 (IntKind.i64.wrap ((↑x_3 : Int) * n) +
 (↑x_4 : Int))).toNat =
 true →
 x_4 < n.toNat) ∧
 ((nthD false h
 (IntKind.i64.wrap
 (IntKind.i64.wrap ((↑x_3 : Int) * n) +
 (↑x_4 : Int))).toNat &&
 ((↑(x_1 + (1 : Nat)) : Int) == (1 : Int) &&
 (↑x_4 : Int) == to ||
 decide ((↑(x_1 + (1 : Nat)) : Int) > (1 : Int)) &&
 nthD (0 : Int)
 (disR n.toNat
 (disM (tblF n.toNat h) n.toNat to x_2 x_3))
 x_4 ==
 IntKind.i64.wrap
 ((↑(x_1 + (1 : Nat)) : Int) - (1 : Int)))) =
 true →
 ∃ (x_5 : Nat),
 (x_5 ≤ n.toNat ∧ x.fst < n.toNat ∧ x.snd < n.toNat) ∧
 ((lDr2 (tblF n.toNat h) n.toNat to (11 : Nat)
 (10 : Nat)).ann
 x).mu
 x_5 <
 ((lDr2 (tblF n.toNat h) n.toNat to (11 : Nat)
 (10 : Nat)).ann
 x).mu
 x_4 ∧
 (n = n ∧
 h.length = h.length ∧
 to = to ∧
 (0 : Nat) = (0 : Nat) ∧
 n.toNat = n.toNat ∧
 (↑(x_1 + (1 : Nat)) : Int) =
 (↑(x_1 + (1 : Nat)) : Int) ∧
 (↑x_3 : Int) = (↑x_3 : Int) ∧
 true =
 hit (tblF n.toNat h)
 (disG (tblF n.toNat h) n.toNat to
 x.fst)
 to x.fst x.snd x_5 ∧
 IntKind.i64.wrap
 ((↑x_4 : Int) + (1 : Int)) =
 (↑x_5 : Int) ∧
 n = n ∧
 n.toNat = n.toNat ∧
 (↑(x_1 + (1 : Nat)) : Int) =
 (↑(x_1 + (1 : Nat)) : Int) ∧
 n = n ∧
 true = true ∧
 (↑x_3 : Int) =
 (↑x_3 : Int) ∧
 n = n ∧
 true = true ∧ True) ∧
 (h.length = h.length ∧
 (∀ (j : Nat),
 j < h.length →
 nthD false h j = nthD false h j) ∧
 True) ∧
 ((0 : Nat) = (0 : Nat) ∧ True ∧ True) ∧
 (n.toNat = n.toNat ∧
 (∀ (j : Nat),
 j < n.toNat →
 nthD (0 : Int)
 (disR n.toNat
 (disM (tblF n.toNat h) n.toNat to
 x_2 x_3))
 j =
 nthD (0 : Int)
 (disR n.toNat
 (disM (tblF n.toNat h) n.toNat to
 x_2 x_3))
 j) ∧
 True) ∧
 True) ∧
 ((nthD false h
 (IntKind.i64.wrap
 (IntKind.i64.wrap ((↑x_3 : Int) * n) +
 (↑x_4 : Int))).toNat &&
 ((↑(x_1 + (1 : Nat)) : Int) == (1 : Int) &&
 (↑x_4 : Int) == to ||
 decide ((↑(x_1 + (1 : Nat)) : Int) > (1 : Int)) &&
 nthD (0 : Int)
 (disR n.toNat
 (disM (tblF n.toNat h) n.toNat to x_2 x_3))
 x_4 ==
 IntKind.i64.wrap
 ((↑(x_1 + (1 : Nat)) : Int) - (1 : Int)))) =
 false →
 ∃ (x_5 : Nat),
 (x_5 ≤ n.toNat ∧ x.fst < n.toNat ∧ x.snd < n.toNat) ∧
 ((lDr2 (tblF n.toNat h) n.toNat to (11 : Nat)
 (10 : Nat)).ann
 x).mu
 x_5 <
 ((lDr2 (tblF n.toNat h) n.toNat to (11 : Nat)
 (10 : Nat)).ann
 x).mu
 x_4 ∧
 (n = n ∧
 h.length = h.length ∧
 to = to ∧
 (0 : Nat) = (0 : Nat) ∧
 n.toNat = n.toNat ∧
 (↑(x_1 + (1 : Nat)) : Int) =
 (↑(x_1 + (1 : Nat)) : Int) ∧
 (↑x_3 : Int) = (↑x_3 : Int) ∧
 hit (tblF n.toNat h)
 (disG (tblF n.toNat h) n.toNat to
 x.fst)
 to x.fst x.snd x_4 =
 hit (tblF n.toNat h)
 (disG (tblF n.toNat h) n.toNat to
 x.fst)
 to x.fst x.snd x_5 ∧
 IntKind.i64.wrap
 ((↑x_4 : Int) + (1 : Int)) =
 (↑x_5 : Int) ∧
 n = n ∧
 n.toNat = n.toNat ∧
 (↑(x_1 + (1 : Nat)) : Int) =
 (↑(x_1 + (1 : Nat)) : Int) ∧
 n = n ∧
 true = true ∧
 (↑x_3 : Int) =
 (↑x_3 : Int) ∧
 n = n ∧
 true = true ∧ True) ∧
 (h.length = h.length ∧
 (∀ (j : Nat),
 j < h.length →
 nthD false h j = nthD false h j) ∧
 True) ∧
 ((0 : Nat) = (0 : Nat) ∧ True ∧ True) ∧
 (n.toNat = n.toNat ∧
 (∀ (j : Nat),
 j < n.toNat →
 nthD (0 : Int)
 (disR n.toNat
 (disM (tblF n.toNat h) n.toNat to
 x_2 x_3))
 j =
 nthD (0 : Int)
 (disR n.toNat
 (disM (tblF n.toNat h) n.toNat to
 x_2 x_3))
 j) ∧
 True) ∧
 True)) ∧
 (decide ((↑x_4 : Int) < n) = false →
 (hit (tblF n.toNat h) (disG (tblF n.toNat h) n.toNat to x.fst) to x.fst
 x.snd x_4 =
 true →
 (0 : Int) ≤ (↑x_3 : Int) ∧ (↑x_3 : Int) < (↑n.toNat : Int)) ∧
 (hit (tblF n.toNat h) (disG (tblF n.toNat h) n.toNat to x.fst) to x.fst
 x.snd x_4 =
 true →
 x_3 < n.toNat) ∧
 ((hit (tblF n.toNat h) (disG (tblF n.toNat h) n.toNat to x.fst) to x.fst
 x.snd x_4 &&
 nthD (0 : Int)
 (disR n.toNat (disM (tblF n.toNat h) n.toNat to x_2 x_3))
 x_3 ==
 (0 : Int)) =
 true →
 ((0 : Int) ≤ (↑x_3 : Int) ∧ (↑x_3 : Int) < (↑n.toNat : Int)) ∧
 x_3 < n.toNat ∧
 ∃ (x : Nat),
 (x ≤ n.toNat ∧ x_2 < n.toNat) ∧
 ((lDr1 (tblF n.toNat h) n.toNat to (9 : Nat) (2 : Nat)).ann
 x_2).mu
 x <
 ((lDr1 (tblF n.toNat h) n.toNat to (9 : Nat)
 (2 : Nat)).ann
 x_2).mu
 x_3 ∧
 (n = n ∧
 h.length = h.length ∧
 to = to ∧
 (0 : Nat) = (0 : Nat) ∧
 n.toNat = n.toNat ∧
 (↑(x_1 + (1 : Nat)) : Int) =
 (↑(x_1 + (1 : Nat)) : Int) ∧
 IntKind.i64.wrap
 ((↑x_3 : Int) + (1 : Int)) =
 (↑x : Int) ∧
 n = n ∧
 n.toNat = n.toNat ∧
 (↑(x_1 + (1 : Nat)) : Int) =
 (↑(x_1 + (1 : Nat)) : Int) ∧
 n = n ∧ true = true ∧ True) ∧
 (h.length = h.length ∧
 (∀ (j : Nat),
 j < h.length →
 nthD false h j = nthD false h j) ∧
 True) ∧
 ((0 : Nat) = (0 : Nat) ∧ True ∧ True) ∧
 (n.toNat = n.toNat ∧
 (∀ (j : Nat),
 j < n.toNat →
 (bif j.beq x_3 then
 (↑(x_1 + (1 : Nat)) : Int)
 else
 nthD (0 : Int)
 (disR n.toNat
 (disM (tblF n.toNat h) n.toNat to
 x_2 x_3))
 j) =
 nthD (0 : Int)
 (disR n.toNat
 (disM (tblF n.toNat h) n.toNat to
 x_2 x))
 j) ∧
 True) ∧
 True) ∧
 ((hit (tblF n.toNat h) (disG (tblF n.toNat h) n.toNat to x.fst) to
 x.fst x.snd x_4 &&
 nthD (0 : Int)
 (disR n.toNat (disM (tblF n.toNat h) n.toNat to x_2 x_3))
 x_3 ==
 (0 : Int)) =
 false →
 ∃ (x : Nat),
 (x ≤ n.toNat ∧ x_2 < n.toNat) ∧
 ((lDr1 (tblF n.toNat h) n.toNat to (9 : Nat) (2 : Nat)).ann
 x_2).mu
 x <
 ((lDr1 (tblF n.toNat h) n.toNat to (9 : Nat) (2 : Nat)).ann
 x_2).mu
 x_3 ∧
 (n = n ∧
 h.length = h.length ∧
 to = to ∧
 (0 : Nat) = (0 : Nat) ∧
 n.toNat = n.toNat ∧
 (↑(x_1 + (1 : Nat)) : Int) =
 (↑(x_1 + (1 : Nat)) : Int) ∧
 IntKind.i64.wrap ((↑x_3 : Int) + (1 : Int)) =
 (↑x : Int) ∧
 n = n ∧
 n.toNat = n.toNat ∧
 (↑(x_1 + (1 : Nat)) : Int) =
 (↑(x_1 + (1 : Nat)) : Int) ∧
 n = n ∧ true = true ∧ True) ∧
 (h.length = h.length ∧
 (∀ (j : Nat),
 j < h.length → nthD false h j = nthD false h j) ∧
 True) ∧
 ((0 : Nat) = (0 : Nat) ∧ True ∧ True) ∧
 (n.toNat = n.toNat ∧
 (∀ (j : Nat),
 j < n.toNat →
 nthD (0 : Int)
 (disR n.toNat
 (disM (tblF n.toNat h) n.toNat to x_2
 x_3))
 j =
 nthD (0 : Int)
 (disR n.toNat
 (disM (tblF n.toNat h) n.toNat to x_2
 x))
 j) ∧
 True) ∧
 True))) ∧
 (decide ((↑x_3 : Int) < n) = false →
 ∃ (x_4 : Nat),
 x_4 ≤ n.toNat ∧
 ((PLoop.of (lDr0 (tblF n.toNat h) n.toNat to (8 : Nat) (2 : Nat))).ann x).mu x_4 <
 ((PLoop.of (lDr0 (tblF n.toNat h) n.toNat to (8 : Nat) (2 : Nat))).ann x).mu
 x_1 ∧
 (n = n ∧
 h.length = h.length ∧
 to = to ∧
 (0 : Nat) = (0 : Nat) ∧
 n.toNat = n.toNat ∧
 IntKind.i64.wrap ((↑(x_1 + (1 : Nat)) : Int) + (1 : Int)) =
 (↑(x_4 + (1 : Nat)) : Int) ∧
 n = n ∧ n.toNat = n.toNat ∧ True) ∧
 (h.length = h.length ∧
 (∀ (j : Nat), j < h.length → nthD false h j = nthD false h j) ∧ True) ∧
 ((0 : Nat) = (0 : Nat) ∧ True ∧ True) ∧
 (n.toNat = n.toNat ∧
 (∀ (j : Nat),
 j < n.toNat →
 nthD (0 : Int)
 (disR n.toNat (disM (tblF n.toNat h) n.toNat to x_2 x_3)) j =
 nthD (0 : Int)
 (disR n.toNat (disG (tblF n.toNat h) n.toNat to x_4)) j) ∧
 True) ∧
 True)) ∧
 (decide ((↑(x_1 + (1 : Nat)) : Int) ≤ n) = false →
 n.toNat = (disR n.toNat (disG (tblF n.toNat h) n.toNat to n.toNat)).length ∧
 ((∀ (j : Nat),
 j < (disR n.toNat (disG (tblF n.toNat h) n.toNat to n.toNat)).length →
 nthD (0 : Int) (disR n.toNat (disG (tblF n.toNat h) n.toNat to x_1)) j =
 nthD (0 : Int) (disR n.toNat (disG (tblF n.toNat h) n.toNat to n.toNat)) j) ∧
 True) ∧
 n.toNat = (disR n.toNat (disG (tblF n.toNat h) n.toNat to n.toNat)).length)) := by kernel_rfl
theorem v37 (n : Int) (h : List Bool) (to : Int) (hn : 0 ≤ n ∧ n ≤ 64) (hh : h.length = n.toNat * n.toNat) : fnVc (tab [] [(0, .of (lDr0 (tblF n.toNat h) n.toNat to 8 2)), (2, lDr1 (tblF n.toNat h) n.toNat to 9 2), (4, lDr2 (tblF n.toNat h) n.toNat to 11 10)]) Try.f37 [.i .i64 n, .sl 0 h.length, .i .i64 to] [arB h] (resIs (.sl 0 (disR n.toNat (disG (tblF n.toNat h) n.toNat to n.toNat)).length) 3 (disR n.toNat (disG (tblF n.toNat h) n.toNat to n.toNat)).length (isCols (disR n.toNat (disG (tblF n.toNat h) n.toNat to n.toNat)))) := by
  rw [v37_eq]
  simp only [eq_self, true_and, and_true, implies_true, imp_self, mkN_ps, mkN_rs, mkN_self, mkN_len, PLoop.of, lCnt, AV.len, lDr0, lDr1, lDr2, lUp]
  obtain ⟨h0, h1⟩ := hn
  refine ⟨h0, by omega, by omega, (), ⟨0, by omega, rfl, fun j hj => ?_⟩, fun i hi => ⟨fun hli => ⟨i, ⟨0, ?_, rfl, fun j hj => ?_⟩, fun a ha => ⟨fun hla => ⟨(i, a), ⟨0, ?_, rfl, rfl⟩, fun k hk => ⟨fun hlk => ?_, fun hlk => ?_⟩⟩, fun hla => ?_⟩⟩, fun hli => ?_⟩⟩
  · rw [nthD_disR hj]; rfl
  · have := of_decide_eq_true hli; omega
  · rw [nthD_disR hj, nthD_disR hj, disM_zero]
  · have := of_decide_eq_true hli; have := of_decide_eq_true hla; simp only; omega
  · have hi2 := of_decide_eq_true hli
    have ha2 := of_decide_eq_true hla
    have hk2 := of_decide_eq_true hlk
    have i1 := ixw (a := a) (b := k) (N := n) (by omega) (by omega) (by omega)
    have i1' := ix_lt (n := n.toNat) (a := a) (b := k) (by omega) (by omega)
    rw [i1]
    simp only [Int.toNat_natCast]
    rw [nthD_disR (by omega), ← tblF_at, tst_eq (o := disG (tblF n.toNat h) n.toNat to i) (by omega) (fun hp => by rw [Int.toNat_natCast]; exact disM_same hp)]
    refine ⟨by omega, by omega, fun _ _ _ => by omega, fun _ _ _ => by omega, fun hc => ⟨k + 1, ⟨by omega, by omega, by omega⟩, by omega, ?_, wrS (n := 64) (by omega) (by omega)⟩, fun hc => ⟨k + 1, ⟨by omega, by omega, by omega⟩, by omega, ?_, wrS (n := 64) (by omega) (by omega)⟩⟩
    · rw [hit_succ, hc, Bool.or_true]
    · rw [hit_succ, hc, Bool.or_false]
  · have hi2 := of_decide_eq_true hli
    have ha2 := of_decide_eq_true hla
    have := of_decide_eq_false hlk
    have e : k = n.toNat := by omega
    subst e
    rw [nthD_disR (by omega), disM_at]
    refine ⟨fun _ => by omega, fun _ => by omega, fun hc => ⟨by omega, by omega, a + 1, by omega, by omega, wrS (n := 64) (by omega) (by omega), fun j hj => ?_⟩, fun hc => ⟨a + 1, by omega, by omega, wrS (n := 64) (by omega) (by omega), fun j hj => ?_⟩⟩
    · rw [nthD_disR hj, nthD_disR hj, disM_hit hc]
    · rw [nthD_disR hj, nthD_disR hj, ← disM_miss hc]
  · have hi2 := of_decide_eq_true hli
    have := of_decide_eq_false hla
    have e : a = n.toNat := by omega
    subst e
    refine ⟨i + 1, by omega, by omega, wrS (n := 66) (by omega) (by omega), fun j hj => ?_⟩
    rw [nthD_disR hj, nthD_disR hj, disM_full hj]
  · have := of_decide_eq_false hli
    have e : i = n.toNat := by omega
    subst e
    rw [disR_len]
    exact ⟨rfl, fun j hj => rfl, rfl⟩
end Go.Proofs.Ytcbmbnlgilampaa
