/-
  A part of the proof (Rw23).
-/
import Derived.Test.YtcbmbnlgilampaaRw22
namespace Go.Proofs.Ytcbmbnlgilampaa
open Go Go.Proofs.Ytcbmbnlgilampaa.Sx
set_option maxRecDepth 100000
set_option linter.unusedSimpArgs false
set_option linter.unusedVariables false

theorem disG_nonneg {f : Pf} {n : Nat} {to : Int} {i a : Nat} : 0 ≤ disG f n to i a := by
  induction i with
  | zero => simp [disG]
  | succ i ih =>
    simp only [disG]
    cases (disG f n to i a == 0 && hit f (disG f n to i) to i a n)
    · exact ih
    · simp only [cond_true]; omega
theorem disM_nonneg {f : Pf} {n : Nat} {to : Int} {i a x : Nat} : 0 ≤ disM f n to i a x := by
  rw [disM]; cases Nat.blt x a <;> exact disG_nonneg
theorem ng_pos {v : Int} (h : 0 ≤ v) : decide (ng v ≥ 0) = (v != 0) := by
  rw [ng]
  by_cases e : v = 0
  · subst e; rfl
  · rw [beq_eq_false_iff_ne.2 e, cond_false, decide_eq_true h, bne_iff_ne.2 e]
theorem ng_eq {v : Int} {i : Nat} (hi : 0 < i) : ng v = (i : Int) ↔ v = (i : Int) := by
  rw [ng]
  by_cases e : v = 0
  · subst e; simp only [beq_self_eq_true, cond_true]; constructor <;> intro <;> omega
  · rw [beq_eq_false_iff_ne.2 e, cond_false]
theorem nthD_disX {f : Pf} {n : Nat} {to : Int} {i a k : Nat} {row : List Int} {j : Nat} (h : j < n) : nthD 0 (disX f n to i a k row) j = bif Nat.beq j a then (bif hitL (disG f n to i) to i k row then ((i + 1 : Nat) : Int) else -1) else ng (disM f n to i a j) := nthD_mkN _ _ h
theorem hitL_succ {o : Nat → Int} {to : Int} {i k : Nat} {row : List Int} (h : k < row.length) : hitL o to i (k + 1) row = (hitL o to i k row || tst o to i (nthD 0 row k)) := by
  rw [hitL, hitL, take_succ' 0 h, List.any_append]; simp
theorem row_any {f : Pf} {a n : Nat} {p : Int → Bool} : ((rowL f a n).map (·.2)).any p = (List.range n).any (fun b : Nat => f a b && p b) := by
  simp only [rowL, List.any_map, List.any_filter]
  rfl
theorem hitL_full {f : Pf} {n : Nat} {o : Nat → Int} {to : Int} {i a : Nat} (ha : a < n) : hitL o to i (nthD [] (sucL n f) a).length (nthD [] (sucL n f) a) = hit f o to i a n := by
  rw [hitL, List.take_length, nthD_sucL ha, row_any]; rfl
theorem disX_same {f : Pf} {n : Nat} {to : Int} {i a k : Nat} {row : List Int} {b : Nat} (hb : b < n) (h0 : disG f n to i a = 0) (hi : 0 < i) : nthD 0 (disX f n to i a k row) b = (i : Int) ↔ disG f n to i b = (i : Int) := by
  rw [nthD_disX hb]
  by_cases e : b = a
  · subst e
    rw [beq_t, cond_true, h0]
    cases hitL (disG f n to i) to i k row
    · simp only [cond_false]; constructor <;> intro <;> omega
    · simp only [cond_true]; constructor <;> intro <;> omega
  · rw [beq_f e, cond_false, ng_eq hi, disM_same hi]
theorem nthD_neg1 {n i j : Nat} (h : j < n) : nthD 0 (neg1 n i) j = bif Nat.blt j i then -1 else 0 := nthD_mkN _ _ h
theorem v35_eq (N : Int) (l : List Pq) (R : List (List Int)) (to : Int) : (fnVc (tab [] [(0, .of (lDi N.toNat 18 4)), (2, .of (lDi0 (setF l) N.toNat to 9 4)), (4, lDi1 (setF l) N.toNat to 33 4), (6, lDi2 (setF l) N.toNat to R 46 4)]) Try.f35 [rlV N 0 l, .sl 1 R.length, .i .i64 to] [arP l, .arr R.length (rsCols R)] (resIs (.sl 0 (disP N.toNat (disG (setF l) N.toNat to N.toNat)).length) 3 (disP N.toNat (disG (setF l) N.toNat to N.toNat)).length (isCols (disP N.toNat (disG (setF l) N.toNat to N.toNat))))) = ((0 : Int) ≤ N ∧
 N = N ∧
 (↑(8 : Nat) : Int) * N ≤ (281474976710656 : Int) ∧
 N ≤ (9223372036854775807 : Int) ∧
 ∃ (x : PUnit),
 (∃ (x : Nat),
 (x ≤ N.toNat ∧ True) ∧
 ((0 : Int) = (↑x : Int) ∧ True) ∧
 (N.toNat = N.toNat ∧
 (∀ (j : Nat), j < N.toNat → (0 : Int) = nthD (0 : Int) (neg1 N.toNat x) j) ∧ True) ∧
 True) ∧
 ∀ (x_1 : Nat),
 x_1 ≤ N.toNat ∧ True →
 (decide ((↑x_1 : Int) < (↑N.toNat : Int)) = true →
 ((0 : Int) ≤ (↑x_1 : Int) ∧ (↑x_1 : Int) < (↑N.toNat : Int)) ∧
 x_1 < N.toNat ∧
 ∃ (x_2 : Nat),
 (x_2 ≤ N.toNat ∧ True) ∧
 ((PLoop.of (lDi N.toNat (18 : Nat) (4 : Nat))).ann x).mu x_2 <
 ((PLoop.of (lDi N.toNat (18 : Nat) (4 : Nat))).ann x).mu x_1 ∧
 ((N = N ∧ l.length = l.length) ∧
 R.length = R.length ∧
 to = to ∧
 True ∧
 (0 : Nat) = (0 : Nat) ∧
 N.toNat = N.toNat ∧
 True ∧
 N = N ∧
 N.toNat = N.toNat ∧
 N.toNat = N.toNat ∧
 (↑N.toNat : Int) = (↑N.toNat : Int) ∧
 IntKind.i64.wrap ((↑x_1 : Int) + (1 : Int)) = (↑x_2 : Int) ∧
 True) ∧
 (l.length = l.length ∧
 (∀ (j : Nat),
 j < l.length →
 (nthD ((0 : Int), (0 : Int)) l j).fst =
 (nthD ((0 : Int), (0 : Int)) l j).fst) ∧
 (∀ (j : Nat),
 j < l.length →
 (nthD ((0 : Int), (0 : Int)) l j).snd =
 (nthD ((0 : Int), (0 : Int)) l j).snd) ∧
 True) ∧
 (R.length = R.length ∧
 ((∀ (j : Nat), j < R.length → (nthD [] R j).length = (nthD [] R j).length) ∧
 (∀ (j : Nat),
 j < R.length →
 ∀ (i : Nat),
 i < (nthD [] R j).length →
 nthD (0 : Int) (nthD [] R j) i = nthD (0 : Int) (nthD [] R j) i) ∧
 True) ∧
 True) ∧
 (N = N ∧ l.length = l.length) ∧
 ((0 : Nat) = (0 : Nat) ∧ True ∧ True) ∧
 (N.toNat = N.toNat ∧
 (∀ (j : Nat),
 j < N.toNat →
 (bif j.beq x_1 then (-1 : Int)
 else nthD (0 : Int) (neg1 N.toNat x_1) j) =
 nthD (0 : Int) (neg1 N.toNat x_2) j) ∧
 True) ∧
 True) ∧
 (decide ((↑x_1 : Int) < (↑N.toNat : Int)) = false →
 ∃ (x : PUnit),
 (∃ (x : Nat),
 x ≤ N.toNat ∧
 ((1 : Int) = (↑(x + (1 : Nat)) : Int) ∧ True) ∧
 (N.toNat = N.toNat ∧
 (∀ (j : Nat),
 j < N.toNat →
 nthD (0 : Int) (neg1 N.toNat x_1) j =
 nthD (0 : Int) (disP N.toNat (disG (setF l) N.toNat to x)) j) ∧
 True) ∧
 True) ∧
 ∀ (x_2 : Nat),
 x_2 ≤ N.toNat →
 (decide ((↑(x_2 + (1 : Nat)) : Int) ≤ N) = true →
 ∃ (x_3 : Nat),
 (∃ (x : Nat),
 (x ≤ N.toNat ∧ x_3 < N.toNat) ∧
 ((0 : Int) = (↑x : Int) ∧ True) ∧
 (N.toNat = N.toNat ∧
 (∀ (j : Nat),
 j < N.toNat →
 nthD (0 : Int) (disP N.toNat (disG (setF l) N.toNat to x_2)) j =
 nthD (0 : Int) (disP N.toNat (disM (setF l) N.toNat to x_3 x))
 j) ∧
 True) ∧
 True) ∧
 ∀ (x_4 : Nat),
 x_4 ≤ N.toNat ∧ x_3 < N.toNat →
 (decide ((↑x_4 : Int) < N) = true →
 ((0 : Int) ≤ (↑x_4 : Int) ∧ (↑x_4 : Int) < (↑N.toNat : Int)) ∧
 x_4 < N.toNat ∧
 (decide
 (nthD (0 : Int)
 (disP N.toNat (disM (setF l) N.toNat to x_3 x_4)) x_4 ≥
 (0 : Int)) =
 true →
 ∃ (x : Nat),
 (x ≤ N.toNat ∧ x_3 < N.toNat) ∧
 ((lDi1 (setF l) N.toNat to (33 : Nat) (4 : Nat)).ann x_3).mu x <
 ((lDi1 (setF l) N.toNat to (33 : Nat) (4 : Nat)).ann x_3).mu
 x_4 ∧
 ((N = N ∧ l.length = l.length) ∧
 R.length = R.length ∧
 to = to ∧
 True ∧
 (0 : Nat) = (0 : Nat) ∧
 N.toNat = N.toNat ∧
 (↑(x_2 + (1 : Nat)) : Int) =
 (↑(x_2 + (1 : Nat)) : Int) ∧
 True ∧
 N = N ∧
 N.toNat = N.toNat ∧
 N.toNat = N.toNat ∧
 (↑N.toNat : Int) = (↑N.toNat : Int) ∧
 (↑x_1 : Int) = (↑x_1 : Int) ∧
 false = false ∧
 (↑(x_2 + (1 : Nat)) : Int) =
 (↑(x_2 + (1 : Nat)) : Int) ∧
 True ∧
 N = N ∧
 true = true ∧
 True ∧
 N = N ∧
 IntKind.i64.wrap
 ((↑x_4 :
 Int) +
 (1 : Int)) =
 (↑x : Int) ∧
 True) ∧
 (l.length = l.length ∧
 (∀ (j : Nat),
 j < l.length →
 (nthD ((0 : Int), (0 : Int)) l j).fst =
 (nthD ((0 : Int), (0 : Int)) l j).fst) ∧
 (∀ (j : Nat),
 j < l.length →
 (nthD ((0 : Int), (0 : Int)) l j).snd =
 (nthD ((0 : Int), (0 : Int)) l j).snd) ∧
 True) ∧
 (R.length = R.length ∧
 ((∀ (j : Nat),
 j < R.length →
 (nthD [] R j).length = (nthD [] R j).length) ∧
 (∀ (j : Nat),
 j < R.length →
 ∀ (i : Nat),
 i < (nthD [] R j).length →
 nthD (0 : Int) (nthD [] R j) i =
 nthD (0 : Int) (nthD [] R j) i) ∧
 True) ∧
 True) ∧
 (N = N ∧ l.length = l.length) ∧
 ((0 : Nat) = (0 : Nat) ∧ True ∧ True) ∧
 (N.toNat = N.toNat ∧
 (∀ (j : Nat),
 j < N.toNat →
 nthD (0 : Int)
 (disP N.toNat
 (disM (setF l) N.toNat to x_3 x_4))
 j =
 nthD (0 : Int)
 (disP N.toNat
 (disM (setF l) N.toNat to x_3 x))
 j) ∧
 True) ∧
 True) ∧
 (decide
 (nthD (0 : Int)
 (disP N.toNat (disM (setF l) N.toNat to x_3 x_4)) x_4 ≥
 (0 : Int)) =
 false →
 ((0 : Int) ≤ (↑x_4 : Int) ∧ (↑x_4 : Int) < (↑R.length : Int)) ∧
 x_4 < R.length ∧
 ∃ (x : Nat × Nat),
 (∃ (x_5 : Nat),
 (x_5 ≤ (nthD [] R x.snd).length ∧
 x.fst < N.toNat ∧
 x.snd < N.toNat ∧
 disG (setF l) N.toNat to x.fst x.snd =
 (0 : Int)) ∧
 ((0 : Int) = (↑x_5 : Int) ∧ True) ∧
 (N.toNat = N.toNat ∧
 (∀ (j : Nat),
 j < N.toNat →
 nthD (0 : Int)
 (disP N.toNat
 (disM (setF l) N.toNat to x_3 x_4))
 j =
 nthD (0 : Int)
 (disX (setF l) N.toNat to x.fst x.snd
 x_5 (nthD [] R x.snd))
 j) ∧
 True) ∧
 True) ∧
 ∀ (x_5 : Nat),
 x_5 ≤ (nthD [] R x.snd).length ∧
 x.fst < N.toNat ∧
 x.snd < N.toNat ∧
 disG (setF l) N.toNat to x.fst x.snd = (0 : Int) →
 (decide
 ((↑x_5 : Int) <
 (↑(nthD [] R x_4).length : Int)) =
 true →
 ((0 : Int) ≤ (↑x_5 : Int) ∧
 (↑x_5 : Int) <
 (↑(nthD [] R x_4).length : Int)) ∧
 x_5 < (nthD [] R x_4).length ∧
 (decide
 ((↑(x_2 + (1 : Nat)) : Int) >
 (1 : Int)) =
 true →
 ((↑(x_2 + (1 : Nat)) : Int) == (1 : Int) &&
 nthD (0 : Int) (nthD [] R x_4) x_5 ==
 to) =
 false →
 (0 : Int) ≤
 nthD (0 : Int) (nthD [] R x_4) x_5 ∧
 nthD (0 : Int) (nthD [] R x_4) x_5 <
 (↑N.toNat : Int)) ∧
 (decide
 ((↑(x_2 + (1 : Nat)) : Int) >
 (1 : Int)) =
 true →
 ((↑(x_2 + (1 : Nat)) : Int) ==
 (1 : Int) &&
 nthD (0 : Int) (nthD [] R x_4)
 x_5 ==
 to) =
 false →
 (nthD (0 : Int) (nthD [] R x_4)
 x_5).toNat <
 N.toNat) ∧
 (((↑(x_2 + (1 : Nat)) : Int) == (1 : Int) &&
 nthD (0 : Int) (nthD [] R x_4)
 x_5 ==
 to ||
 decide
 ((↑(x_2 + (1 : Nat)) : Int) >
 (1 : Int)) &&
 nthD (0 : Int)
 (disX (setF l) N.toNat to
 x.fst x.snd x_5
 (nthD [] R x.snd))
 (nthD (0 : Int)
 (nthD [] R x_4)
 x_5).toNat ==
 IntKind.i64.wrap
 ((↑(x_2 + (1 : Nat)) : Int) -
 (1 : Int))) =
 true →
 ((0 : Int) ≤ (↑x_4 : Int) ∧
 (↑x_4 : Int) < (↑N.toNat : Int)) ∧
 x_4 < N.toNat ∧
 ∃ (x_6 : Nat),
 (x_6 ≤ (nthD [] R x.snd).length ∧
 x.fst < N.toNat ∧
 x.snd < N.toNat ∧
 disG (setF l) N.toNat to
 x.fst x.snd =
 (0 : Int)) ∧
 ((lDi2 (setF l) N.toNat to R
 (46 : Nat)
 (4 : Nat)).ann
 x).mu
 x_6 <
 ((lDi2 (setF l) N.toNat to R
 (46 : Nat)
 (4 : Nat)).ann
 x).mu
 x_5 ∧
 ((N = N ∧
 l.length = l.length) ∧
 R.length = R.length ∧
 to = to ∧
 True ∧
 (0 : Nat) =
 (0 : Nat) ∧
 N.toNat =
 N.toNat ∧
 (↑(x_2 +
 (1 :
 Nat)) :
 Int) =
 (↑(x_2 +
 (1 :
 Nat)) :
 Int) ∧
 (↑x_4 : Int) =
 (↑x_4 :
 Int) ∧
 True ∧
 N = N ∧
 N.toNat =
 N.toNat ∧
 N.toNat =
 N.toNat ∧
 (↑N.toNat :
 Int) =
 (↑N.toNat :
 Int) ∧
 (↑x_1 :
 Int) =
 (↑x_1 :
 Int) ∧
 false =
 false ∧
 (↑(x_2 +
 (1 :
 Nat)) :
 Int) =
 (↑(x_2 +
 (1 :
 Nat)) :
 Int) ∧
 True ∧
 N =
 N ∧
 true =
 true ∧
 True ∧
 N =
 N ∧
 (↑x_4 :
 Int) =
 (↑x_4 :
 Int) ∧
 true =
 true ∧
 (↑x_4 :
 Int) =
 (↑x_4 :
 Int) ∧
 N.toNat =
 N.toNat ∧
 (↑x_4 :
 Int) =
 (↑x_4 :
 Int) ∧
 x_4 =
 x_4 ∧
 nthD
 (0 :
 Int)
 (disP
 N.toNat
 (disM
 (setF
 l)
 N.toNat
 to
 x_3
 x_4))
 x_4 =
 nthD
 (0 :
 Int)
 (disP
 N.toNat
 (disM
 (setF
 l)
 N.toNat
 to
 x_3
 x_4))
 x_4 ∧
 false =
 false ∧
 R.length =
 R.length ∧
 (↑x_4 :
 Int) =
 (↑x_4 :
 Int) ∧
 x_4 =
 x_4 ∧
 (nthD
 []
 R
 x_4).length =
 (nthD
 []
 R
 x_4).length ∧
 (↑(nthD
 []
 R
 x_4).length :
 Int) =
 (↑(nthD
 []
 R
 x_4).length :
 Int) ∧
 IntKind.i64.wrap
 ((↑x_5 :
 Int) +
 (1 :
 Int)) =
 (↑x_6 :
 Int) ∧
 True) ∧
 (l.length = l.length ∧
 (∀ (j : Nat),
 j < l.length →
 (nthD
 ((0 : Int),
 (0 : Int))
 l j).fst =
 (nthD
 ((0 : Int),
 (0 : Int))
 l j).fst) ∧
 (∀ (j : Nat),
 j < l.length →
 (nthD
 ((0 :
 Int),
 (0 :
 Int))
 l j).snd =
 (nthD
 ((0 :
 Int),
 (0 :
 Int))
 l
 j).snd) ∧
 True) ∧
 (R.length = R.length ∧
 ((∀ (j : Nat),
 j < R.length →
 (nthD [] R
 j).length =
 (nthD [] R
 j).length) ∧
 (∀ (j : Nat),
 j < R.length →
 ∀ (i : Nat),
 i <
 (nthD
 []
 R
 j).length →
 nthD
 (0 :
 Int)
 (nthD
 []
 R
 j)
 i =
 nthD
 (0 :
 Int)
 (nthD
 []
 R
 j)
 i) ∧
 True) ∧
 True) ∧
 (N = N ∧
 l.length =
 l.length) ∧
 ((0 : Nat) =
 (0 : Nat) ∧
 True ∧ True) ∧
 (N.toNat = N.toNat ∧
 (∀ (j : Nat),
 j <
 N.toNat →
 (bif
 j.beq
 x_4 then
 (↑(x_2 +
 (1 :
 Nat)) :
 Int)
 else
 nthD
 (0 :
 Int)
 (disX
 (setF
 l)
 N.toNat
 to
 x.fst
 x.snd
 x_5
 (nthD
 []
 R
 x.snd))
 j) =
 nthD
 (0 :
 Int)
 (disX
 (setF
 l)
 N.toNat
 to
 x.fst
 x.snd
 x_6
 (nthD
 []
 R
 x.snd))
 j) ∧
 True) ∧
 ((nthD [] R
 x_4).length =
 (nthD [] R
 x_4).length ∧
 (∀ (j : Nat),
 j <
 (nthD
 []
 R
 x_4).length →
 nthD
 (0 :
 Int)
 (nthD
 []
 R
 x_4)
 j =
 nthD
 (0 :
 Int)
 (nthD
 []
 R
 x_4)
 j) ∧
 True) ∧
 True) ∧
 (((↑(x_2 + (1 : Nat)) : Int) ==
 (1 : Int) &&
 nthD (0 : Int) (nthD [] R x_4)
 x_5 ==
 to ||
 decide
 ((↑(x_2 + (1 : Nat)) : Int) >
 (1 : Int)) &&
 nthD (0 : Int)
 (disX (setF l) N.toNat to
 x.fst x.snd x_5
 (nthD [] R x.snd))
 (nthD (0 : Int)
 (nthD [] R x_4)
 x_5).toNat ==
 IntKind.i64.wrap
 ((↑(x_2 + (1 : Nat)) : Int) -
 (1 : Int))) =
 false →
 ∃ (x_6 : Nat),
 (x_6 ≤ (nthD [] R x.snd).length ∧
 x.fst < N.toNat ∧
 x.snd < N.toNat ∧
 disG (setF l) N.toNat to x.fst
 x.snd =
 (0 : Int)) ∧
 ((lDi2 (setF l) N.toNat to R
 (46 : Nat)
 (4 : Nat)).ann
 x).mu
 x_6 <
 ((lDi2 (setF l) N.toNat to R
 (46 : Nat)
 (4 : Nat)).ann
 x).mu
 x_5 ∧
 ((N = N ∧ l.length = l.length) ∧
 R.length = R.length ∧
 to = to ∧
 True ∧
 (0 : Nat) = (0 : Nat) ∧
 N.toNat = N.toNat ∧
 (↑(x_2 +
 (1 :
 Nat)) :
 Int) =
 (↑(x_2 +
 (1 :
 Nat)) :
 Int) ∧
 (↑x_4 : Int) =
 (↑x_4 : Int) ∧
 True ∧
 N = N ∧
 N.toNat =
 N.toNat ∧
 N.toNat =
 N.toNat ∧
 (↑N.toNat :
 Int) =
 (↑N.toNat :
 Int) ∧
 (↑x_1 :
 Int) =
 (↑x_1 :
 Int) ∧
 false =
 false ∧
 (↑(x_2 +
 (1 :
 Nat)) :
 Int) =
 (↑(x_2 +
 (1 :
 Nat)) :
 Int) ∧
 True ∧
 N =
 N ∧
 true =
 true ∧
 True ∧
 N =
 N ∧
 (↑x_4 :
 Int) =
 (↑x_4 :
 Int) ∧
 true =
 true ∧
 (↑x_4 :
 Int) =
 (↑x_4 :
 Int) ∧
 N.toNat =
 N.toNat ∧
 (↑x_4 :
 Int) =
 (↑x_4 :
 Int) ∧
 x_4 =
 x_4 ∧
 nthD
 (0 :
 Int)
 (disP
 N.toNat
 (disM
 (setF
 l)
 N.toNat
 to
 x_3
 x_4))
 x_4 =
 nthD
 (0 :
 Int)
 (disP
 N.toNat
 (disM
 (setF
 l)
 N.toNat
 to
 x_3
 x_4))
 x_4 ∧
 false =
 false ∧
 R.length =
 R.length ∧
 (↑x_4 :
 Int) =
 (↑x_4 :
 Int) ∧
 x_4 =
 x_4 ∧
 (nthD
 []
 R
 x_4).length =
 (nthD
 []
 R
 x_4).length ∧
 (↑(nthD
 []
 R
 x_4).length :
 Int) =
 (↑(nthD
 []
 R
 x_4).length :
 Int) ∧
 IntKind.i64.wrap
 ((↑x_5 :
 Int) +
 (1 :
 Int)) =
 (↑x_6 :
 Int) ∧
 True) ∧
 (l.length = l.length ∧
 (∀ (j : Nat),
 j < l.length →
 (nthD
 ((0 : Int),
 (0 : Int))
 l j).fst =
 (nthD
 ((0 : Int),
 (0 : Int))
 l j).fst) ∧
 (∀ (j : Nat),
 j < l.length →
 (nthD
 ((0 : Int),
 (0 : Int))
 l j).snd =
 (nthD
 ((0 : Int),
 (0 : Int))
 l j).snd) ∧
 True) ∧
 (R.length = R.length ∧
 ((∀ (j : Nat),
 j < R.length →
 (nthD [] R
 j).length =
 (nthD [] R
 j).length) ∧
 (∀ (j : Nat),
 j < R.length →
 ∀ (i : Nat),
 i <
 (nthD [] R
 j).length →
 nthD
 (0 :
 Int)
 (nthD []
 R j)
 i =
 nthD
 (0 :
 Int)
 (nthD []
 R j)
 i) ∧
 True) ∧
 True) ∧
 (N = N ∧
 l.length = l.length) ∧
 ((0 : Nat) = (0 : Nat) ∧
 True ∧ True) ∧
 (N.toNat = N.toNat ∧
 (∀ (j : Nat),
 j < N.toNat →
 nthD (0 : Int)
 (disX
 (setF l)
 N.toNat
 to x.fst
 x.snd
 x_5
 (nthD []
 R
 x.snd))
 j =
 nthD
 (0 : Int)
 (disX
 (setF l)
 N.toNat
 to x.fst
 x.snd
 x_6
 (nthD []
 R
 x.snd))
 j) ∧
 True) ∧
 ((nthD [] R
 x_4).length =
 (nthD [] R
 x_4).length ∧
 (∀ (j : Nat),
 j <
 (nthD [] R
 x_4).length →
 nthD
 (0 :
 Int)
 (nthD []
 R x_4)
 j =
 nthD
 (0 :
 Int)
 (nthD []
 R x_4)
 j) ∧
 True) ∧
 True)) ∧
 (decide
 ((↑x_5 : Int) <
 (↑(nthD [] R x_4).length : Int)) =
 false →
 ∃ (x_6 : Nat),
 (x_6 ≤ N.toNat ∧ x_3 < N.toNat) ∧
 ((lDi1 (setF l) N.toNat to (33 : Nat)
 (4 : Nat)).ann
 x_3).mu
 x_6 <
 ((lDi1 (setF l) N.toNat to (33 : Nat)
 (4 : Nat)).ann
 x_3).mu
 x_4 ∧
 ((N = N ∧ l.length = l.length) ∧
 R.length = R.length ∧
 to = to ∧
 True ∧
 (0 : Nat) = (0 : Nat) ∧
 N.toNat = N.toNat ∧
 (↑(x_2 + (1 : Nat)) : Int) =
 (↑(x_2 + (1 : Nat)) : Int) ∧
 True ∧
 N = N ∧
 N.toNat = N.toNat ∧
 N.toNat = N.toNat ∧
 (↑N.toNat : Int) =
 (↑N.toNat : Int) ∧
 (↑x_1 : Int) =
 (↑x_1 : Int) ∧
 false = false ∧
 (↑(x_2 +
 (1 :
 Nat)) :
 Int) =
 (↑(x_2 +
 (1 :
 Nat)) :
 Int) ∧
 True ∧
 N = N ∧
 true =
 true ∧
 True ∧
 N =
 N ∧
 IntKind.i64.wrap
 ((↑x_4 :
 Int) +
 (1 :
 Int)) =
 (↑x_6 :
 Int) ∧
 True) ∧
 (l.length = l.length ∧
 (∀ (j : Nat),
 j < l.length →
 (nthD ((0 : Int), (0 : Int)) l
 j).fst =
 (nthD ((0 : Int), (0 : Int)) l
 j).fst) ∧
 (∀ (j : Nat),
 j < l.length →
 (nthD ((0 : Int), (0 : Int)) l
 j).snd =
 (nthD ((0 : Int), (0 : Int)) l
 j).snd) ∧
 True) ∧
 (R.length = R.length ∧
 ((∀ (j : Nat),
 j < R.length →
 (nthD [] R j).length =
 (nthD [] R j).length) ∧
 (∀ (j : Nat),
 j < R.length →
 ∀ (i : Nat),
 i < (nthD [] R j).length →
 nthD (0 : Int)
 (nthD [] R j) i =
 nthD (0 : Int)
 (nthD [] R j) i) ∧
 True) ∧
 True) ∧
 (N = N ∧ l.length = l.length) ∧
 ((0 : Nat) = (0 : Nat) ∧
 True ∧ True) ∧
 (N.toNat = N.toNat ∧
 (∀ (j : Nat),
 j < N.toNat →
 nthD (0 : Int)
 (disX (setF l) N.toNat
 to x.fst x.snd x_5
 (nthD [] R x.snd))
 j =
 nthD (0 : Int)
 (disP N.toNat
 (disM (setF l)
 N.toNat to x_3
 x_6))
 j) ∧
 True) ∧
 True))) ∧
 (decide ((↑x_4 : Int) < N) = false →
 ∃ (x_5 : Nat),
 x_5 ≤ N.toNat ∧
 ((PLoop.of (lDi0 (setF l) N.toNat to (9 : Nat) (4 : Nat))).ann x).mu
 x_5 <
 ((PLoop.of (lDi0 (setF l) N.toNat to (9 : Nat) (4 : Nat))).ann x).mu
 x_2 ∧
 ((N = N ∧ l.length = l.length) ∧
 R.length = R.length ∧
 to = to ∧
 True ∧
 (0 : Nat) = (0 : Nat) ∧
 N.toNat = N.toNat ∧
 IntKind.i64.wrap
 ((↑(x_2 + (1 : Nat)) : Int) + (1 : Int)) =
 (↑(x_5 + (1 : Nat)) : Int) ∧
 True ∧
 N = N ∧
 N.toNat = N.toNat ∧
 N.toNat = N.toNat ∧
 (↑N.toNat : Int) = (↑N.toNat : Int) ∧
 (↑x_1 : Int) = (↑x_1 : Int) ∧
 false = false ∧ True) ∧
 (l.length = l.length ∧
 (∀ (j : Nat),
 j < l.length →
 (nthD ((0 : Int), (0 : Int)) l j).fst =
 (nthD ((0 : Int), (0 : Int)) l j).fst) ∧
 (∀ (j : Nat),
 j < l.length →
 (nthD ((0 : Int), (0 : Int)) l j).snd =
 (nthD ((0 : Int), (0 : Int)) l j).snd) ∧
 True) ∧
 (R.length = R.length ∧
 ((∀ (j : Nat),
 j < R.length →
 (nthD [] R j).length = (nthD [] R j).length) ∧
 (∀ (j : Nat),
 j < R.length →
 ∀ (i : Nat),
 i < (nthD [] R j).length →
 nthD (0 : Int) (nthD [] R j) i =
 nthD (0 : Int) (nthD [] R j) i) ∧
 True) ∧
 True) ∧
 (N = N ∧ l.length = l.length) ∧
 ((0 : Nat) = (0 : Nat) ∧ True ∧ True) ∧
 (N.toNat = N.toNat ∧
 (∀ (j : Nat),
 j < N.toNat →
 nthD (0 : Int)
 (disP N.toNat
 (disM (setF l) N.toNat to x_3 x_4))
 j =
 nthD (0 : Int)
 (disP N.toNat (disG (setF l) N.toNat to x_5))
 j) ∧
 True) ∧
 True)) ∧
 (decide ((↑(x_2 + (1 : Nat)) : Int) ≤ N) = false →
 N.toNat = (disP N.toNat (disG (setF l) N.toNat to N.toNat)).length ∧
 ((∀ (j : Nat),
 j < (disP N.toNat (disG (setF l) N.toNat to N.toNat)).length →
 nthD (0 : Int) (disP N.toNat (disG (setF l) N.toNat to x_2)) j =
 nthD (0 : Int) (disP N.toNat (disG (setF l) N.toNat to N.toNat)) j) ∧
 True) ∧
 N.toNat = (disP N.toNat (disG (setF l) N.toNat to N.toNat)).length))) := by kernel_rfl
theorem v35 (N : Int) (l : List Pq) (R : List (List Int)) (to : Int) (hv : validF N l = true) (hR : R = sucL N.toNat (setF l)) : fnVc (tab [] [(0, .of (lDi N.toNat 18 4)), (2, .of (lDi0 (setF l) N.toNat to 9 4)), (4, lDi1 (setF l) N.toNat to 33 4), (6, lDi2 (setF l) N.toNat to R 46 4)]) Try.f35 [rlV N 0 l, .sl 1 R.length, .i .i64 to] [arP l, .arr R.length (rsCols R)] (resIs (.sl 0 (disP N.toNat (disG (setF l) N.toNat to N.toNat)).length) 3 (disP N.toNat (disG (setF l) N.toNat to N.toNat)).length (isCols (disP N.toNat (disG (setF l) N.toNat to N.toNat)))) := by
  rw [v35_eq]
  simp only [eq_self, true_and, and_true, implies_true, imp_self, mkN_ps, mkN_rs, mkN_self, mkN_len, PLoop.of, lCnt, AV.len, lDi, lDi0, lDi1, lDi2, lUp]
  obtain ⟨h0, h1, h3⟩ := validF_iff.1 hv
  refine ⟨h0, by omega, by omega, (), ⟨0, by omega, rfl, fun j hj => ?_⟩, fun i hi => ⟨fun hli => ?_, fun hli => ?_⟩⟩
  · rw [nthD_neg1 hj, blt_f (by omega)]; rfl
  · have hi2 := of_decide_eq_true hli
    refine ⟨by omega, by omega, i + 1, by omega, by omega, wrS (n := 64) (by omega) (by omega), fun j hj => ?_⟩
    rw [nthD_neg1 hj, nthD_neg1 hj]
    by_cases e : j = i
    · subst e; rw [beq_t, cond_true, blt_t (by omega)]; rfl
    · rw [beq_f e, cond_false]
      by_cases e2 : j < i
      · rw [blt_t e2, blt_t (by omega)]
      · rw [blt_f e2, blt_f (by omega)]
  · have hi2 := of_decide_eq_false hli
    have e : i = N.toNat := by omega
    subst e
    refine ⟨(), ⟨0, by omega, rfl, fun j hj => ?_⟩, fun i hi => ⟨fun hli => ⟨i, ⟨0, ?_, rfl, fun j hj => ?_⟩, fun a ha => ⟨fun hla => ?_, fun hla => ?_⟩⟩, fun hli => ?_⟩⟩
    · rw [nthD_neg1 hj, blt_t hj, nthD_disP hj]; rfl
    · have := of_decide_eq_true hli; omega
    · rw [nthD_disP hj, nthD_disP hj, disM_zero]
    · have hi2 := of_decide_eq_true hli
      have ha2 := of_decide_eq_true hla
      rw [nthD_disP (by omega), disM_at, ng_pos disG_nonneg, hR, sucL_len]
      refine ⟨by omega, by omega, fun hc => ⟨a + 1, by omega, by omega, wrS (n := 64) (by omega) (by omega), fun j hj => ?_⟩, fun hc => ⟨by omega, by omega, (i, a), ⟨0, ⟨by omega, by simp only; omega, by simp only; omega, by simpa using hc⟩, rfl, fun j hj => ?_⟩, fun k hk => ?_⟩⟩
      · rw [nthD_disP hj, nthD_disP hj, disM_miss]
        have : (disG (setF l) N.toNat to i a == 0) = false := by rw [beq_eq_false_iff_ne]; simpa using hc
        rw [this, Bool.and_false]
      · rw [nthD_disP hj, nthD_disX hj]
        by_cases e : j = a
        · subst e
          have h00 : disG (setF l) N.toNat to i j = 0 := by simpa using hc
          rw [beq_t, cond_true, disM_at, h00]; rfl
        · rw [beq_f e, cond_false]
      · obtain ⟨hk1, hk2, hk3, hk4⟩ := hk
        simp only at hk1 hk2 hk3 hk4 ⊢
        have hrl := row_len (n := N.toNat) (f := setF l) (by omega) a
        refine ⟨fun hlk => ?_, fun hlk => ?_⟩
        · have hk5 := lt_len hlk
          have hmem : nthD 0 (nthD [] (sucL N.toNat (setF l)) a) k ∈ nthD [] (sucL N.toNat (setF l)) a := by rw [nthD_get _ _ _ hk5]; exact List.getElem_mem hk5
          have hf := ((rowsOf_suc (sup_set hv)).mem a _ (by omega) (by omega)).1 hmem
          have hc3 := sup_set hv _ _ hf
          rw [tst_eq (o := disG (setF l) N.toNat to i) (by omega) (fun hp => disX_same (by omega) hk4 hp)]
          refine ⟨bd hk5, hk5, fun _ _ => by omega, fun _ _ => by omega, fun hc2 => ⟨by omega, by omega, k + 1, ⟨by omega, hk2, hk3, hk4⟩, by omega, wrS (n := 64) (by omega) (by omega), fun j hj => ?_⟩, fun hc2 => ⟨k + 1, ⟨by omega, hk2, hk3, hk4⟩, by omega, wrS (n := 64) (by omega) (by omega), fun j hj => ?_⟩⟩
          · rw [nthD_disX hj, nthD_disX hj, hitL_succ hk5, hc2, Bool.or_true]
            cases Nat.beq j a <;> rfl
          · rw [nthD_disX hj, nthD_disX hj, hitL_succ hk5, hc2, Bool.or_false]
        · have hk5 := ge_len hlk hk1
          refine ⟨a + 1, by omega, by omega, wrS (n := 64) (by omega) (by omega), fun j hj => ?_⟩
          rw [nthD_disX hj, nthD_disP hj, hk5, hitL_full (by omega)]
          by_cases e : j = a
          · subst e
            rw [beq_t, cond_true, disM_next]
            simp only [disG, hk4, beq_self_eq_true, Bool.true_and]
            cases hit (setF l) (disG (setF l) N.toNat to i) to i j N.toNat
            · rfl
            · simp only [cond_true, ng]
              rw [beq_eq_false_iff_ne.2 (by omega)]; rfl
          · rw [beq_f e, cond_false, disM_other e]
    · have hi2 := of_decide_eq_true hli
      have := of_decide_eq_false hla
      have e : a = N.toNat := by omega
      subst e
      refine ⟨i + 1, by omega, by omega, wrS (n := 66) (by omega) (by omega), fun j hj => ?_⟩
      rw [nthD_disP hj, nthD_disP hj, disM_full hj]
    · have := of_decide_eq_false hli
      have e : i = N.toNat := by omega
      subst e
      rw [disP_len]
      exact ⟨rfl, fun j hj => rfl, rfl⟩
theorem fo35 : fnOk Try.prog 35 := ⟨Try.f35, Try.func35, by kernel_rfl, by kernel_rfl⟩
theorem fo37 : fnOk Try.prog 37 := ⟨Try.f37, Try.func37, by kernel_rfl, by kernel_rfl⟩
def t37 : List AV → Tab
  | [.i n, .bs h, .i to] => tab [] [(0, .of (lDr0 (tblF n.toNat h) n.toNat to 8 2)), (2, lDr1 (tblF n.toNat h) n.toNat to 9 2), (4, lDr2 (tblF n.toNat h) n.toNat to 11 10)]
  | _ => tab [] []
theorem c37 : CallOk Try.prog [] 37 (genF EL [] [.i, .bs, .i] sDis') := by
  refine okT (fn := Try.f37) Try.func37 fo37 t37 (fun av => ?_) (fun av => ?_) (fun av pre rv h => ?_) (fun av pre rv h hp => ?_)
  · unfold t37; split <;> first | exact tabOk mNil | exact tabOk mNil
  · unfold t37; split <;> exact ⟨rfl, rfl⟩
  · unfold sDis' at h; split at h <;> cases h
    exact ⟨rfl, fun t a e => by cases e <;> exact List.cons_ne_nil _ _⟩
  · unfold sDis' at h; split at h <;> cases h
    exact v37 _ _ _ (hp _ (.head _)) (hp _ (.tail _ (.head _)))
theorem n37 (nm : List (Option AV)) : CallOk Try.prog [] 37 (genF EL nm [.i, .bs, .i] sDis') := genNm c37
def t35 : List AV → Tab
  | [.r N l, .rs R, .i to] => tab [] [(0, .of (lDi N.toNat 18 4)), (2, .of (lDi0 (setF l) N.toNat to 9 4)), (4, lDi1 (setF l) N.toNat to 33 4), (6, lDi2 (setF l) N.toNat to R 46 4)]
  | _ => tab [] []
theorem c35 : CallOk Try.prog [] 35 (genF EL [] [.r, .rs, .i] sDis) := by
  refine okT (fn := Try.f35) Try.func35 fo35 t35 (fun av => ?_) (fun av => ?_) (fun av pre rv h => ?_) (fun av pre rv h hp => ?_)
  · unfold t35; split <;> first | exact tabOk mNil | exact tabOk mNil
  · unfold t35; split <;> exact ⟨rfl, rfl⟩
  · unfold sDis at h; split at h <;> cases h
    exact ⟨rfl, fun t a e => by cases e <;> exact List.cons_ne_nil _ _⟩
  · unfold sDis at h; split at h <;> cases h
    exact v35 _ _ _ _ (hp _ (.head _)) (hp _ (.tail _ (.tail _ (.head _))))
theorem n35 (nm : List (Option AV)) : CallOk Try.prog [] 35 (genF EL nm [.r, .rs, .i] sDis) := genNm c35
end Go.Proofs.Ytcbmbnlgilampaa
