/-
  The linext layer: relations: conditions.
-/
import Derived.Test.YtiokmglajigngaaU1
namespace Go.Proofs.Ytiokmglajigngaa
open Go Go.Proofs.Ytiokmglajigngaa.Sx
set_option maxRecDepth 100000
set_option linter.unusedSimpArgs false
set_option linter.unusedVariables false
theorem all_take {N : Int} {l : List Pq} {i : Nat} (h : i < l.length) : (l.take (i + 1)).all (inR N) = ((l.take i).all (inR N) && inR N (nthD (0, 0) l i)) := by
  rw [take_succ' (0, 0) h, List.all_append]; simp
theorem lt_len {i n : Nat} (h : decide ((i : Int) < (n : Int)) = true) : i < n := by simpa using h
theorem ge_len {i n : Nat} (h : decide ((i : Int) < (n : Int)) = false) (h2 : i ≤ n) : i = n := by
  have : ¬ (i : Int) < (n : Int) := of_decide_eq_false h
  omega
theorem bd {i n : Nat} (h : i < n) : (0 : Int) ≤ (i : Int) ∧ (i : Int) < (n : Int) := by omega
theorem v37_eq (N : Int) (l : List Pq) : (fnVc (tab [] [(0, .of (lVal N l 16))]) Try.f37 [rlV N 0 l] [arP l] (plainIs (.b (validF N l)))) = (((decide (N < (0 : Int)) || decide (N > (64 : Int))) = true → false = validF N l) ∧
 ((decide (N < (0 : Int)) || decide (N > (64 : Int))) = false →
 ∃ (x : PUnit),
 (∃ (x : Nat), (x ≤ l.length ∧ (List.take x l).all (inR N) = true) ∧ ((0 : Int) = (↑x : Int) ∧ True) ∧ True) ∧
 ∀ (x_1 : Nat),
 x_1 ≤ l.length ∧ (List.take x_1 l).all (inR N) = true →
 (decide ((↑x_1 : Int) < (↑l.length : Int)) = true →
 ((0 : Int) ≤ (↑x_1 : Int) ∧ (↑x_1 : Int) < (↑l.length : Int)) ∧
 x_1 < l.length ∧
 ((decide ((nthD ((0 : Int), (0 : Int)) l x_1).fst < (0 : Int)) ||
 decide ((nthD ((0 : Int), (0 : Int)) l x_1).fst ≥ N) ||
 decide ((nthD ((0 : Int), (0 : Int)) l x_1).snd < (0 : Int)) ||
 decide ((nthD ((0 : Int), (0 : Int)) l x_1).snd ≥ N)) =
 true →
 false = validF N l) ∧
 ((decide ((nthD ((0 : Int), (0 : Int)) l x_1).fst < (0 : Int)) ||
 decide ((nthD ((0 : Int), (0 : Int)) l x_1).fst ≥ N) ||
 decide ((nthD ((0 : Int), (0 : Int)) l x_1).snd < (0 : Int)) ||
 decide ((nthD ((0 : Int), (0 : Int)) l x_1).snd ≥ N)) =
 false →
 ∃ (x_2 : Nat),
 (x_2 ≤ l.length ∧ (List.take x_2 l).all (inR N) = true) ∧
 ((PLoop.of (lVal N l (16 : Nat))).ann x).mu x_2 <
 ((PLoop.of (lVal N l (16 : Nat))).ann x).mu x_1 ∧
 ((N = N ∧ l.length = l.length) ∧
 True ∧
 True ∧
 N = N ∧
 decide (N < (0 : Int)) = decide (N < (0 : Int)) ∧
 decide (N < (0 : Int)) = decide (N < (0 : Int)) ∧
 false = false ∧
 True ∧
 l.length = l.length ∧
 (↑l.length : Int) = (↑l.length : Int) ∧
 IntKind.i64.wrap ((↑x_1 : Int) + (1 : Int)) = (↑x_2 : Int) ∧ True) ∧
 (l.length = l.length ∧
 (∀ (j : Nat),
 j < l.length →
 (nthD ((0 : Int), (0 : Int)) l j).fst =
 (nthD ((0 : Int), (0 : Int)) l j).fst) ∧
 (∀ (j : Nat),
 j < l.length →
 (nthD ((0 : Int), (0 : Int)) l j).snd =
 (nthD ((0 : Int), (0 : Int)) l j).snd) ∧
 True) ∧
 (N = N ∧ l.length = l.length) ∧ True)) ∧
 (decide ((↑x_1 : Int) < (↑l.length : Int)) = false → true = validF N l))) := by kernel_rfl
theorem v37 (N : Int) (l : List Pq) (hl : L9 l) : fnVc (tab [] [(0, .of (lVal N l 16))]) Try.f37 [rlV N 0 l] [arP l] (plainIs (.b (validF N l))) := by
  rw [v37_eq]
  simp only [eq_self, true_and, and_true, implies_true, imp_self, mkN_ps, mkN_rs, mkN_self, mkN_len, PLoop.of, lCnt, lVal, lSet, lOut, lInn, lTbl, AV.len]
  refine ⟨fun h => ?_, fun h => ⟨(), ⟨0, by simp, rfl⟩, fun i hi => ⟨fun hlt => ?_, fun hlt => ?_⟩⟩⟩
  · have : inB N = false := by rw [inB, h]; rfl
    rw [validF, this]; rfl
  · have hi2 := lt_len hlt
    refine ⟨bd hi2, hi2, fun hc => ?_, fun hc => ?_⟩
    · have : inR N (nthD (0, 0) l i) = false := by rw [inR]; exact congrArg (!·) hc
      rw [validF]
      have h2 : l.all (inR N) = false := by
        rw [List.all_eq_false]
        exact ⟨_, nth_mem hi2, by rw [this]; simp⟩
      rw [h2, Bool.and_false]
    · have : inR N (nthD (0, 0) l i) = true := by rw [inR]; exact congrArg (!·) hc
      exact ⟨i + 1, ⟨hi2, by rw [all_take hi2, hi.2, this]; rfl⟩, by omega, w64_sub (by omega) hl⟩
  · have hi2 := ge_len hlt hi.1
    have h3 := hi.2
    rw [hi2, List.take_length] at h3
    have : inB N = true := by rw [inB, h]; rfl
    rw [validF, h3, this]; rfl
theorem v27_eq (N : Int) (l : List Pq) : (fnVc (tab [] [(0, .of (lVal N l 3))]) Try.f27 [rlV N 0 l] [arP l] (plainIs (.b (validF N l)))) = (((decide (N < (0 : Int)) || decide (N > (64 : Int))) = true → false = validF N l) ∧
 ((decide (N < (0 : Int)) || decide (N > (64 : Int))) = false →
 ∃ (x : PUnit),
 (∃ (x : Nat), (x ≤ l.length ∧ (List.take x l).all (inR N) = true) ∧ ((0 : Int) = (↑x : Int) ∧ True) ∧ True) ∧
 ∀ (x_1 : Nat),
 x_1 ≤ l.length ∧ (List.take x_1 l).all (inR N) = true →
 (decide ((↑x_1 : Int) < (↑l.length : Int)) = true →
 ((0 : Int) ≤ (↑x_1 : Int) ∧ (↑x_1 : Int) < (↑l.length : Int)) ∧
 x_1 < l.length ∧
 ((0 : Int) ≤ (↑x_1 : Int) ∧ (↑x_1 : Int) < (↑l.length : Int)) ∧
 x_1 < l.length ∧
 ((decide ((nthD ((0 : Int), (0 : Int)) l x_1).fst < (0 : Int)) ||
 decide ((nthD ((0 : Int), (0 : Int)) l x_1).fst ≥ N) ||
 decide ((nthD ((0 : Int), (0 : Int)) l x_1).snd < (0 : Int)) ||
 decide ((nthD ((0 : Int), (0 : Int)) l x_1).snd ≥ N)) =
 true →
 false = validF N l) ∧
 ((decide ((nthD ((0 : Int), (0 : Int)) l x_1).fst < (0 : Int)) ||
 decide ((nthD ((0 : Int), (0 : Int)) l x_1).fst ≥ N) ||
 decide ((nthD ((0 : Int), (0 : Int)) l x_1).snd < (0 : Int)) ||
 decide ((nthD ((0 : Int), (0 : Int)) l x_1).snd ≥ N)) =
 false →
 ∃ (x_2 : Nat),
 (x_2 ≤ l.length ∧ (List.take x_2 l).all (inR N) = true) ∧
 ((PLoop.of (lVal N l (3 : Nat))).ann x).mu x_2 <
 ((PLoop.of (lVal N l (3 : Nat))).ann x).mu x_1 ∧
 ((N = N ∧ l.length = l.length) ∧
 True ∧
 IntKind.i64.wrap ((↑x_1 : Int) + (1 : Int)) = (↑x_2 : Int) ∧
 True ∧
 N = N ∧
 decide (N < (0 : Int)) = decide (N < (0 : Int)) ∧
 decide (N < (0 : Int)) = decide (N < (0 : Int)) ∧
 false = false ∧ True) ∧
 (l.length = l.length ∧
 (∀ (j : Nat),
 j < l.length →
 (nthD ((0 : Int), (0 : Int)) l j).fst =
 (nthD ((0 : Int), (0 : Int)) l j).fst) ∧
 (∀ (j : Nat),
 j < l.length →
 (nthD ((0 : Int), (0 : Int)) l j).snd =
 (nthD ((0 : Int), (0 : Int)) l j).snd) ∧
 True) ∧
 (N = N ∧ l.length = l.length) ∧ True)) ∧
 (decide ((↑x_1 : Int) < (↑l.length : Int)) = false → true = validF N l))) := by kernel_rfl
theorem v27 (N : Int) (l : List Pq) (hl : L9 l) : fnVc (tab [] [(0, .of (lVal N l 3))]) Try.f27 [rlV N 0 l] [arP l] (plainIs (.b (validF N l))) := by
  rw [v27_eq]
  simp only [eq_self, true_and, and_true, implies_true, imp_self, mkN_ps, mkN_rs, mkN_self, mkN_len, PLoop.of, lCnt, lVal, lSet, lOut, lInn, lTbl, AV.len]
  refine ⟨fun h => ?_, fun h => ⟨(), ⟨0, by simp, rfl⟩, fun i hi => ⟨fun hlt => ?_, fun hlt => ?_⟩⟩⟩
  · have : inB N = false := by rw [inB, h]; rfl
    rw [validF, this]; rfl
  · have hi2 := lt_len hlt
    refine ⟨bd hi2, hi2, bd hi2, hi2, fun hc => ?_, fun hc => ?_⟩
    · have : inR N (nthD (0, 0) l i) = false := by rw [inR]; exact congrArg (!·) hc
      rw [validF]
      have h2 : l.all (inR N) = false := by
        rw [List.all_eq_false]
        exact ⟨_, nth_mem hi2, by rw [this]; simp⟩
      rw [h2, Bool.and_false]
    · have : inR N (nthD (0, 0) l i) = true := by rw [inR]; exact congrArg (!·) hc
      exact ⟨i + 1, ⟨hi2, by rw [all_take hi2, hi.2, this]; rfl⟩, by omega, w64_sub (by omega) hl⟩
  · have hi2 := ge_len hlt hi.1
    have h3 := hi.2
    rw [hi2, List.take_length] at h3
    have : inB N = true := by rw [inB, h]; rfl
    rw [validF, h3, this]; rfl
theorem v56_eq (N : Int) (l : List Pq) : (fnVc (tab [] [(0, .of (lSet l 10 2))]) Try.f56 [rlV N 0 l] [arP l] (resMap (setF l))) = (∃ (x : PUnit),
 (∃ (x : Nat),
 (x ≤ l.length ∧ True) ∧
 ((0 : Int) = (↑x : Int) ∧ True) ∧ (∀ (x_1 y : Int), false = setF (List.take x l) x_1 y) ∧ True) ∧
 ∀ (x_1 : Nat),
 x_1 ≤ l.length ∧ True →
 (decide ((↑x_1 : Int) < (↑l.length : Int)) = true →
 ((0 : Int) ≤ (↑x_1 : Int) ∧ (↑x_1 : Int) < (↑l.length : Int)) ∧
 x_1 < l.length ∧
 ∃ (x_2 : Nat),
 (x_2 ≤ l.length ∧ True) ∧
 ((PLoop.of (lSet l (10 : Nat) (2 : Nat))).ann x).mu x_2 <
 ((PLoop.of (lSet l (10 : Nat) (2 : Nat))).ann x).mu x_1 ∧
 ((N = N ∧ l.length = l.length) ∧
 True ∧
 True ∧
 True ∧
 True ∧
 True ∧
 l.length = l.length ∧
 (↑l.length : Int) = (↑l.length : Int) ∧
 IntKind.i64.wrap ((↑x_1 : Int) + (1 : Int)) = (↑x_2 : Int) ∧ True) ∧
 (l.length = l.length ∧
 (∀ (j : Nat),
 j < l.length →
 (nthD ((0 : Int), (0 : Int)) l j).fst = (nthD ((0 : Int), (0 : Int)) l j).fst) ∧
 (∀ (j : Nat),
 j < l.length →
 (nthD ((0 : Int), (0 : Int)) l j).snd = (nthD ((0 : Int), (0 : Int)) l j).snd) ∧
 True) ∧
 (N = N ∧ l.length = l.length) ∧
 (∀ (x y : Int),
 (x == (nthD ((0 : Int), (0 : Int)) l x_1).fst &&
 y == (nthD ((0 : Int), (0 : Int)) l x_1).snd ||
 setF (List.take x_1 l) x y) =
 setF (List.take x_2 l) x y) ∧
 True) ∧
 (decide ((↑x_1 : Int) < (↑l.length : Int)) = false → ∀ (x y : Int), setF (List.take x_1 l) x y = setF l x y)) := by kernel_rfl
theorem v56 (N : Int) (l : List Pq) (hl : L9 l) : fnVc (tab [] [(0, .of (lSet l 10 2))]) Try.f56 [rlV N 0 l] [arP l] (resMap (setF l)) := by
  rw [v56_eq]
  simp only [eq_self, true_and, and_true, implies_true, imp_self, mkN_ps, mkN_rs, mkN_self, mkN_len, PLoop.of, lCnt, lVal, lSet, lOut, lInn, lTbl, AV.len]
  refine ⟨(), ⟨0, by simp, rfl, by simp⟩, fun i hi => ⟨fun hlt => ?_, fun hlt x y => ?_⟩⟩
  · have hi2 := lt_len hlt
    exact ⟨bd hi2, hi2, i + 1, by omega, by omega, w64_sub (by omega) hl, fun x y => (setF_take hi2 x y).symm⟩
  · rw [ge_len hlt hi, List.take_length]
theorem v55_eq (n : Int) (f : Pf) : (fnVc (tabG [] [(0, .of (lOut n f 11)), (2, lInn n f 15)] 2 [.fresh 2 1 40 2]) Try.f55 [.i .i64 n, .mp 0] [.fmapp f] (resIs (relT n (normL n f).length) 40 (normL n f).length (psCols (normL n f)))) = (∃ (x : PUnit),
 (∃ (x : Nat),
 (x ≤ n.toNat ∧ True) ∧
 ((0 : Int) = (↑x : Int) ∧ True) ∧
 (n = n ∧ (0 : Nat) = (allL f n.toNat x).length) ∧
 ((0 : Nat) = (allL f n.toNat x).length ∧
 (allL f n.toNat x).length = (0 : Nat) ∧ (allL f n.toNat x).length = (0 : Nat) ∧ True) ∧
 True) ∧
 ∀ (x_1 : Nat),
 x_1 ≤ n.toNat ∧ True →
 (decide ((↑x_1 : Int) < n) = true →
 ∃ (x_2 : Nat),
 (∃ (x : Nat),
 (x ≤ n.toNat ∧ x_2 < n.toNat) ∧
 ((0 : Int) = (↑x : Int) ∧ True) ∧
 (n = n ∧ (allL f n.toNat x_1).length = (allL f n.toNat x_2 ++ rowL f x_2 x).length) ∧
 ((allL f n.toNat x_1).length = (allL f n.toNat x_2 ++ rowL f x_2 x).length ∧
 (∀ (j : Nat),
 j < (allL f n.toNat x_2 ++ rowL f x_2 x).length →
 (nthD ((0 : Int), (0 : Int)) (allL f n.toNat x_1) j).fst =
 (nthD ((0 : Int), (0 : Int)) (allL f n.toNat x_2 ++ rowL f x_2 x) j).fst) ∧
 (∀ (j : Nat),
 j < (allL f n.toNat x_2 ++ rowL f x_2 x).length →
 (nthD ((0 : Int), (0 : Int)) (allL f n.toNat x_1) j).snd =
 (nthD ((0 : Int), (0 : Int)) (allL f n.toNat x_2 ++ rowL f x_2 x) j).snd) ∧
 True) ∧
 True) ∧
 ∀ (x_3 : Nat),
 x_3 ≤ n.toNat ∧ x_2 < n.toNat →
 (decide ((↑x_3 : Int) < n) = true →
 (f (↑x_1 : Int) (↑x_3 : Int) = true →
 (allL f n.toNat x_2 ++ rowL f x_2 x_3).length =
 (allL f n.toNat x_2 ++ rowL f x_2 x_3).length ∧
 (1 : Nat) = (1 : Nat) ∧
 ((allL f n.toNat x_2 ++ rowL f x_2 x_3).length + (1 : Nat)) * (16 : Nat) ≤
 (140737488355328 : Nat) ∧
 (allL f n.toNat x_2 ++ rowL f x_2 x_3).length + (1 : Nat) ≤
 (9223372036854775807 : Nat) ∧
 ∃ (x : Nat),
 (x ≤ n.toNat ∧ x_2 < n.toNat) ∧
 ((lInn n f (15 : Nat)).ann x_2).mu x < ((lInn n f (15 : Nat)).ann x_2).mu x_3 ∧
 (n = n ∧
 True ∧
 True ∧
 True ∧
 (↑x_1 : Int) = (↑x_1 : Int) ∧
 n = n ∧
 (n = n ∧ True) ∧
 n = n ∧
 (↑x_1 : Int) = (↑x_1 : Int) ∧
 true = true ∧
 (↑x_1 : Int) = (↑x_1 : Int) ∧
 n = n ∧
 IntKind.i64.wrap ((↑x_3 : Int) + (1 : Int)) =
 (↑x : Int) ∧
 True) ∧
 (∀ (x y : Int), f x y = f x y) ∧
 ((0 : Int) = (0 : Int) ∧ True) ∧
 (n = n ∧
 (allL f n.toNat x_2 ++ rowL f x_2 x_3).length + (1 : Nat) =
 (allL f n.toNat x_2 ++ rowL f x_2 x).length) ∧
 ((allL f n.toNat x_2 ++ rowL f x_2 x_3).length + (1 : Nat) =
 (allL f n.toNat x_2 ++ rowL f x_2 x).length ∧
 (∀ (j : Nat),
 j < (allL f n.toNat x_2 ++ rowL f x_2 x).length →
 (bif
 j.blt
 (allL f n.toNat x_2 ++ rowL f x_2 x_3).length then
 (nthD ((0 : Int), (0 : Int))
 (allL f n.toNat x_2 ++ rowL f x_2 x_3) j).fst
 else
 pickI [(↑x_1 : Int)]
 (j - (allL f n.toNat x_2 ++ rowL f x_2 x_3).length)) =
 (nthD ((0 : Int), (0 : Int))
 (allL f n.toNat x_2 ++ rowL f x_2 x) j).fst) ∧
 (∀ (j : Nat),
 j < (allL f n.toNat x_2 ++ rowL f x_2 x).length →
 (bif
 j.blt
 (allL f n.toNat x_2 ++ rowL f x_2 x_3).length then
 (nthD ((0 : Int), (0 : Int))
 (allL f n.toNat x_2 ++ rowL f x_2 x_3) j).snd
 else
 pickI [(↑x_3 : Int)]
 (j -
 (allL f n.toNat x_2 ++ rowL f x_2 x_3).length)) =
 (nthD ((0 : Int), (0 : Int))
 (allL f n.toNat x_2 ++ rowL f x_2 x) j).snd) ∧
 True) ∧
 True) ∧
 (f (↑x_1 : Int) (↑x_3 : Int) = false →
 ∃ (x : Nat),
 (x ≤ n.toNat ∧ x_2 < n.toNat) ∧
 ((lInn n f (15 : Nat)).ann x_2).mu x < ((lInn n f (15 : Nat)).ann x_2).mu x_3 ∧
 (n = n ∧
 True ∧
 True ∧
 True ∧
 (↑x_1 : Int) = (↑x_1 : Int) ∧
 n = n ∧
 (n = n ∧ True) ∧
 n = n ∧
 (↑x_1 : Int) = (↑x_1 : Int) ∧
 true = true ∧
 (↑x_1 : Int) = (↑x_1 : Int) ∧
 n = n ∧
 IntKind.i64.wrap ((↑x_3 : Int) + (1 : Int)) = (↑x : Int) ∧
 True) ∧
 (∀ (x y : Int), f x y = f x y) ∧
 ((0 : Int) = (0 : Int) ∧ True) ∧
 (n = n ∧
 (allL f n.toNat x_2 ++ rowL f x_2 x_3).length =
 (allL f n.toNat x_2 ++ rowL f x_2 x).length) ∧
 ((allL f n.toNat x_2 ++ rowL f x_2 x_3).length =
 (allL f n.toNat x_2 ++ rowL f x_2 x).length ∧
 (∀ (j : Nat),
 j < (allL f n.toNat x_2 ++ rowL f x_2 x).length →
 (nthD ((0 : Int), (0 : Int)) (allL f n.toNat x_2 ++ rowL f x_2 x_3)
 j).fst =
 (nthD ((0 : Int), (0 : Int)) (allL f n.toNat x_2 ++ rowL f x_2 x)
 j).fst) ∧
 (∀ (j : Nat),
 j < (allL f n.toNat x_2 ++ rowL f x_2 x).length →
 (nthD ((0 : Int), (0 : Int))
 (allL f n.toNat x_2 ++ rowL f x_2 x_3) j).snd =
 (nthD ((0 : Int), (0 : Int))
 (allL f n.toNat x_2 ++ rowL f x_2 x) j).snd) ∧
 True) ∧
 True)) ∧
 (decide ((↑x_3 : Int) < n) = false →
 ∃ (x_4 : Nat),
 (x_4 ≤ n.toNat ∧ True) ∧
 ((PLoop.of (lOut n f (11 : Nat))).ann x).mu x_4 <
 ((PLoop.of (lOut n f (11 : Nat))).ann x).mu x_1 ∧
 (n = n ∧
 True ∧
 True ∧
 True ∧
 n = n ∧
 (n = n ∧ True) ∧
 n = n ∧ IntKind.i64.wrap ((↑x_1 : Int) + (1 : Int)) = (↑x_4 : Int) ∧ True) ∧
 (∀ (x y : Int), f x y = f x y) ∧
 ((0 : Int) = (0 : Int) ∧ True) ∧
 (n = n ∧
 (allL f n.toNat x_2 ++ rowL f x_2 x_3).length = (allL f n.toNat x_4).length) ∧
 ((allL f n.toNat x_2 ++ rowL f x_2 x_3).length = (allL f n.toNat x_4).length ∧
 (∀ (j : Nat),
 j < (allL f n.toNat x_4).length →
 (nthD ((0 : Int), (0 : Int)) (allL f n.toNat x_2 ++ rowL f x_2 x_3)
 j).fst =
 (nthD ((0 : Int), (0 : Int)) (allL f n.toNat x_4) j).fst) ∧
 (∀ (j : Nat),
 j < (allL f n.toNat x_4).length →
 (nthD ((0 : Int), (0 : Int)) (allL f n.toNat x_2 ++ rowL f x_2 x_3)
 j).snd =
 (nthD ((0 : Int), (0 : Int)) (allL f n.toNat x_4) j).snd) ∧
 True) ∧
 True)) ∧
 (decide ((↑x_1 : Int) < n) = false →
 (allL f n.toNat x_1).length = (normL n f).length ∧
 ((∀ (j : Nat),
 j < (normL n f).length →
 (nthD ((0 : Int), (0 : Int)) (allL f n.toNat x_1) j).fst =
 (nthD ((0 : Int), (0 : Int)) (normL n f) j).fst) ∧
 (∀ (j : Nat),
 j < (normL n f).length →
 (nthD ((0 : Int), (0 : Int)) (allL f n.toNat x_1) j).snd =
 (nthD ((0 : Int), (0 : Int)) (normL n f) j).snd) ∧
 True) ∧
 n = n ∧ (allL f n.toNat x_1).length = (normL n f).length ∧ True)) := by kernel_rfl
theorem v55 (n : Int) (f : Pf) (hn : 0 ≤ n ∧ n ≤ 64) : fnVc (tabG [] [(0, .of (lOut n f 11)), (2, lInn n f 15)] 2 [.fresh 2 1 40 2]) Try.f55 [.i .i64 n, .mp 0] [.fmapp f] (resIs (relT n (normL n f).length) 40 (normL n f).length (psCols (normL n f))) := by
  rw [v55_eq]
  have hn0 := hn.1
  have hn1 := hn.2
  have hN : n.toNat ≤ 64 := by omega
  have hlen : ∀ a b, a < n.toNat → b ≤ n.toNat → (allL f n.toNat a ++ rowL f a b).length ≤ 8192 := fun a b ha hb => by
    have h1 := allL_len f n.toNat a
    have h2 := rowL_len f a b
    have h3 : a * n.toNat ≤ 64 * 64 := Nat.mul_le_mul (by omega) hN
    rw [List.length_append]; omega
  simp only [eq_self, true_and, and_true, implies_true, imp_self, mkN_ps, mkN_rs, mkN_self, mkN_len, PLoop.of, lCnt, lVal, lSet, lOut, lInn, lTbl, AV.len]
  refine ⟨(), ⟨0, by simp, rfl, ?_⟩, fun a ha => ⟨fun hlt => ⟨a, ⟨0, ?_⟩, fun b hb => ⟨fun hlb => ⟨fun hf => ?_, fun hf => ?_⟩, fun hlb => ?_⟩⟩, fun hlt => ?_⟩⟩
  · simp [allL_zero]
  · have ha2 : a < n.toNat := by have := of_decide_eq_true hlt; omega
    simp [rowL_zero, ha2]
  · have hb2 : b < n.toNat := by have := of_decide_eq_true hlb; omega
    have h1 := hlen a b hb.2 hb.1
    have e : rowL f a (b + 1) = rowL f a b ++ [((a : Int), (b : Int))] := by rw [rowL_succ, if_pos hf]
    have e2 : allL f n.toNat a ++ rowL f a (b + 1) = (allL f n.toNat a ++ rowL f a b) ++ [((a : Int), (b : Int))] := by rw [e, List.append_assoc]
    refine ⟨by omega, by omega, b + 1, ⟨by omega, hb.2⟩, by omega, wrS (n := n.toNat) hb2 (by omega), ?_⟩
    rw [e2]
    have e3 : (allL f n.toNat a ++ rowL f a b ++ [((a : Int), (b : Int))]).length = (allL f n.toNat a ++ rowL f a b).length + 1 := by rw [List.length_append (bs := [((a : Int), (b : Int))])]; rfl
    exact ⟨e3.symm, e3.symm, ap1 (·.1) _ _, ap1 (·.2) _ _⟩
  · have hb2 : b < n.toNat := by have := of_decide_eq_true hlb; omega
    have e : rowL f a (b + 1) = rowL f a b := by rw [rowL_succ, if_neg (by rw [hf]; simp), List.append_nil]
    refine ⟨b + 1, ⟨by omega, hb.2⟩, by omega, wrS (n := n.toNat) hb2 (by omega), ?_⟩
    rw [e]
    simp
  · have hb2 : b = n.toNat := by have := of_decide_eq_false hlb; omega
    have e : allL f n.toNat (a + 1) = allL f n.toNat a ++ rowL f a b := by rw [allL_succ, hb2]
    refine ⟨a + 1, by omega, by omega, wrS (n := n.toNat) hb.2 (by omega), ?_⟩
    rw [e]
    simp
  · have ha2 : a = n.toNat := by have := of_decide_eq_false hlt; omega
    subst ha2
    simp [normL]
theorem ixw {a b : Nat} {N : Int} (ha : (a : Int) < N) (hb : (b : Int) < N) (hN : N ≤ 64) : IntKind.i64.wrap (IntKind.i64.wrap ((a : Int) * N) + (b : Int)) = ((a * N.toNat + b : Nat) : Int) := by
  obtain ⟨n, rfl⟩ := Int.eq_ofNat_of_zero_le (show 0 ≤ N by omega)
  have h1 : a * n ≤ 64 * 64 := Nat.mul_le_mul (by omega) (by omega)
  have h2 : (a : Int) * (n : Int) = ((a * n : Nat) : Int) := by push_cast; rfl
  have h3 : ((a * n : Nat) : Int) ≤ 4096 := by omega
  rw [h2, w64_eq (n := ((a * n : Nat) : Int)) (by omega) (by omega), w64_eq (by omega) (by omega)]
  simp
theorem ixwI {a b : Int} {N : Int} (ha0 : 0 ≤ a) (hb0 : 0 ≤ b) (ha : a < N) (hb : b < N) (hN : N ≤ 64) : IntKind.i64.wrap (IntKind.i64.wrap (a * N) + b) = ((a.toNat * N.toNat + b.toNat : Nat) : Int) := by
  obtain ⟨x, rfl⟩ := Int.eq_ofNat_of_zero_le ha0
  obtain ⟨y, rfl⟩ := Int.eq_ofNat_of_zero_le hb0
  exact ixw ha hb hN
theorem sqw {N : Int} (h0 : 0 ≤ N) (hN : N ≤ 64) : IntKind.i64.wrap (N * N) = ((N.toNat * N.toNat : Nat) : Int) := by
  obtain ⟨n, rfl⟩ := Int.eq_ofNat_of_zero_le h0
  have h1 : n * n ≤ 64 * 64 := Nat.mul_le_mul (by omega) (by omega)
  have h2 : (n : Int) * (n : Int) = ((n * n : Nat) : Int) := by push_cast; rfl
  rw [h2, w64_eq (by omega) (by omega)]
  simp
theorem tblF_at {n : Nat} {h : List Bool} {a b : Nat} : tblF n h a b = nthD false h (a * n + b) := by
  unfold tblF
  have : ((a : Int) * n + b).toNat = a * n + b := by
    have : (a : Int) * n + b = ((a * n + b : Nat) : Int) := by push_cast; rfl
    rw [this]; rfl
  rw [this]
theorem tbl_step {N : Int} {l : List Pq} (hv : validF N l = true) {i : Nat} (hi : i < l.length) : ∀ j, j < N.toNat * N.toNat → (bif Nat.beq j ((nthD (0, 0) l i).1.toNat * N.toNat + (nthD (0, 0) l i).2.toNat) then true else nthD false (tblL N.toNat (setF (l.take i))) j) = nthD false (tblL N.toNat (setF (l.take (i + 1)))) j := fun j hj => by
  obtain ⟨h1, h2, h3⟩ := validF_iff.1 hv
  obtain ⟨q1, q2, q3, q4⟩ := h3 _ (nth_mem hi)
  rw [nthD_tblL hj, nthD_tblL hj, setF_take hi]
  generalize nthD (0, 0) l i = p at q1 q2 q3 q4 ⊢
  obtain ⟨x, y⟩ := p
  simp only at q1 q2 q3 q4 ⊢
  obtain ⟨x, rfl⟩ := Int.eq_ofNat_of_zero_le q1
  obtain ⟨y, rfl⟩ := Int.eq_ofNat_of_zero_le q3
  have hy : y < N.toNat := by omega
  simp only [Int.toNat_natCast]
  by_cases e : j = x * N.toNat + y
  · subst e
    rw [beq_t, cond_true, ix_div hy, ix_mod hy]
    simp
  · rw [beq_f e, cond_false]
    have : ¬ (j / N.toNat = x ∧ j % N.toNat = y) := fun ⟨e1, e2⟩ => e (by
      have := Nat.div_add_mod j N.toNat
      rw [e1, e2, Nat.mul_comm] at this
      exact this.symm)
    have h4 : ((((j / N.toNat : Nat) : Int) == (x : Int)) && (((j % N.toNat : Nat) : Int) == (y : Int))) = false := by
      rw [Bool.eq_false_iff]
      intro h
      simp only [Bool.and_eq_true, beq_iff_eq] at h
      exact this ⟨by omega, by omega⟩
    rw [h4, Bool.false_or]
theorem v51_eq (N : Int) (l : List Pq) : (fnVc (tab [] [(0, .of (lTbl N l 4 3))]) Try.f51 [rlV N 0 l] [arP l] (resIs (.sl 0 (tblL N.toNat (setF l)).length) 4 (tblL N.toNat (setF l)).length (bsCols (tblL N.toNat (setF l))))) = ((0 : Int) ≤ IntKind.i64.wrap (N * N) ∧
 IntKind.i64.wrap (N * N) = IntKind.i64.wrap (N * N) ∧
 (↑(1 : Nat) : Int) * IntKind.i64.wrap (N * N) ≤ (281474976710656 : Int) ∧
 IntKind.i64.wrap (N * N) ≤ (9223372036854775807 : Int) ∧
 ∃ (x : PUnit),
 (∃ (x : Nat),
 (x ≤ l.length ∧ True) ∧
 ((0 : Int) = (↑x : Int) ∧ True) ∧
 ((IntKind.i64.wrap (N * N)).toNat = N.toNat * N.toNat ∧
 (∀ (j : Nat),
 j < N.toNat * N.toNat → false = nthD false (tblL N.toNat (setF (List.take x l))) j) ∧
 True) ∧
 True) ∧
 ∀ (x_1 : Nat),
 x_1 ≤ l.length ∧ True →
 (decide ((↑x_1 : Int) < (↑l.length : Int)) = true →
 ((0 : Int) ≤ (↑x_1 : Int) ∧ (↑x_1 : Int) < (↑l.length : Int)) ∧
 x_1 < l.length ∧
 ((0 : Int) ≤ (↑x_1 : Int) ∧ (↑x_1 : Int) < (↑l.length : Int)) ∧
 x_1 < l.length ∧
 ((0 : Int) ≤
 IntKind.i64.wrap
 (IntKind.i64.wrap ((nthD ((0 : Int), (0 : Int)) l x_1).fst * N) +
 (nthD ((0 : Int), (0 : Int)) l x_1).snd) ∧
 IntKind.i64.wrap
 (IntKind.i64.wrap ((nthD ((0 : Int), (0 : Int)) l x_1).fst * N) +
 (nthD ((0 : Int), (0 : Int)) l x_1).snd) <
 (↑(IntKind.i64.wrap (N * N)).toNat : Int)) ∧
 (IntKind.i64.wrap
 (IntKind.i64.wrap ((nthD ((0 : Int), (0 : Int)) l x_1).fst * N) +
 (nthD ((0 : Int), (0 : Int)) l x_1).snd)).toNat <
 N.toNat * N.toNat ∧
 ∃ (x_2 : Nat),
 (x_2 ≤ l.length ∧ True) ∧
 ((PLoop.of (lTbl N l (4 : Nat) (3 : Nat))).ann x).mu x_2 <
 ((PLoop.of (lTbl N l (4 : Nat) (3 : Nat))).ann x).mu x_1 ∧
 ((N = N ∧ l.length = l.length) ∧
 True ∧
 (0 : Nat) = (0 : Nat) ∧
 (IntKind.i64.wrap (N * N)).toNat = (IntKind.i64.wrap (N * N)).toNat ∧
 IntKind.i64.wrap ((↑x_1 : Int) + (1 : Int)) = (↑x_2 : Int) ∧
 True ∧
 N = N ∧
 True ∧
 N = N ∧
 IntKind.i64.wrap (N * N) = IntKind.i64.wrap (N * N) ∧
 (IntKind.i64.wrap (N * N)).toNat =
 (IntKind.i64.wrap (N * N)).toNat ∧
 True) ∧
 (l.length = l.length ∧
 (∀ (j : Nat),
 j < l.length →
 (nthD ((0 : Int), (0 : Int)) l j).fst =
 (nthD ((0 : Int), (0 : Int)) l j).fst) ∧
 (∀ (j : Nat),
 j < l.length →
 (nthD ((0 : Int), (0 : Int)) l j).snd =
 (nthD ((0 : Int), (0 : Int)) l j).snd) ∧
 True) ∧
 (N = N ∧ l.length = l.length) ∧
 ((0 : Nat) = (0 : Nat) ∧ True ∧ True) ∧
 (N.toNat * N.toNat = N.toNat * N.toNat ∧
 (∀ (j : Nat),
 j < N.toNat * N.toNat →
 (bif
 j.beq
 (IntKind.i64.wrap
 (IntKind.i64.wrap
 ((nthD ((0 : Int), (0 : Int)) l x_1).fst * N) +
 (nthD ((0 : Int), (0 : Int)) l
 x_1).snd)).toNat then
 true
 else nthD false (tblL N.toNat (setF (List.take x_1 l))) j) =
 nthD false (tblL N.toNat (setF (List.take x_2 l))) j) ∧
 True) ∧
 True) ∧
 (decide ((↑x_1 : Int) < (↑l.length : Int)) = false →
 N.toNat * N.toNat = (tblL N.toNat (setF l)).length ∧
 ((∀ (j : Nat),
 j < (tblL N.toNat (setF l)).length →
 nthD false (tblL N.toNat (setF (List.take x_1 l))) j =
 nthD false (tblL N.toNat (setF l)) j) ∧
 True) ∧
 (IntKind.i64.wrap (N * N)).toNat = (tblL N.toNat (setF l)).length)) := by kernel_rfl
theorem v51 (N : Int) (l : List Pq) (hv : validF N l = true) (hl : L9 l) : fnVc (tab [] [(0, .of (lTbl N l 4 3))]) Try.f51 [rlV N 0 l] [arP l] (resIs (.sl 0 (tblL N.toNat (setF l)).length) 4 (tblL N.toNat (setF l)).length (bsCols (tblL N.toNat (setF l)))) := by
  rw [v51_eq]
  obtain ⟨h1, h2, h3⟩ := validF_iff.1 hv
  have hs := sqw h1 h2
  have hb : N.toNat * N.toNat ≤ 4096 := sq_le (by omega)
  simp only [eq_self, true_and, and_true, implies_true, imp_self, mkN_ps, mkN_rs, mkN_self, mkN_len, PLoop.of, lCnt, lVal, lSet, lOut, lInn, lTbl, AV.len, tblL_len, bsCols]
  rw [hs]
  refine ⟨by omega, by omega, by omega, (), ⟨0, by simp, rfl, ?_⟩, fun i hi => ⟨fun hlt => ?_, fun hlt => ?_⟩⟩
  · refine ⟨Int.toNat_natCast _, fun j hj => ?_⟩
    rw [nthD_tblL hj]; rfl
  · have hi2 := lt_len hlt
    obtain ⟨q1, q2, q3, q4⟩ := h3 _ (nth_mem hi2)
    have e := ixwI q1 q3 q2 q4 h2
    have e2 : (nthD (0, 0) l i).1.toNat * N.toNat + (nthD (0, 0) l i).2.toNat < N.toNat * N.toNat := ix_lt (by omega) (by omega)
    rw [e]
    simp only [Int.toNat_natCast]
    exact ⟨bd hi2, hi2, bd hi2, hi2, by omega, e2, i + 1, by omega, by omega, w64_sub (by omega) hl, tbl_step hv hi2⟩
  · have hi2 := ge_len hlt hi
    rw [hi2, List.take_length]
    simp only [Int.toNat_natCast, implies_true, and_true]
end Go.Proofs.Ytiokmglajigngaa
