/-
  A part of the proof (Rw5).
-/
import Derived.Test.YtcbmbnlgilampaaRw4
namespace Go.Proofs.Ytcbmbnlgilampaa
open Go Go.Proofs.Ytcbmbnlgilampaa.Sx
set_option maxRecDepth 100000
set_option linter.unusedSimpArgs false
set_option linter.unusedVariables false

theorem bothF_iff {A B : Int} {a b : List Pq} : bothF A a B b = true ↔ validF A a = true ∧ validF B b = true ∧ A = B := by
  simp only [bothF, Bool.and_eq_true, beq_iff_eq, and_assoc]
theorem valid_app {A : Int} {a b : List Pq} : validF A (a ++ b) = (validF A a && validF A b) := by
  rw [Bool.eq_iff_iff, Bool.and_eq_true, validF_iff, validF_iff, validF_iff]
  constructor
  · rintro ⟨h1, h2, h3⟩
    exact ⟨⟨h1, h2, fun p hp => h3 p (List.mem_append.2 (.inl hp))⟩, h1, h2, fun p hp => h3 p (List.mem_append.2 (.inr hp))⟩
  · rintro ⟨⟨h1, h2, h3⟩, _, _, h4⟩
    exact ⟨h1, h2, fun p hp => (List.mem_append.1 hp).elim (h3 p) (h4 p)⟩
theorem valid_swap {A : Int} {a : List Pq} : validF A (swapL a) = validF A a := by
  rw [Bool.eq_iff_iff, validF_iff, validF_iff]
  constructor
  · rintro ⟨h1, h2, h3⟩
    refine ⟨h1, h2, fun p hp => ?_⟩
    have := h3 (p.2, p.1) (List.mem_map.2 ⟨p, hp, rfl⟩)
    exact ⟨this.2.2.1, this.2.2.2, this.1, this.2.1⟩
  · rintro ⟨h1, h2, h3⟩
    refine ⟨h1, h2, fun p hp => ?_⟩
    obtain ⟨q, hq, rfl⟩ := List.mem_map.1 hp
    have := h3 q hq
    exact ⟨this.2.2.1, this.2.2.2, this.1, this.2.1⟩
theorem apU {a b : List Pq} {i : Nat} (h : i < b.length) (x y : Int) : ((x == (nthD (0, 0) b i).1 && y == (nthD (0, 0) b i).2) || setF (a ++ b.take i) x y) = setF (a ++ b.take (i + 1)) x y := by
  rw [setF_app, setF_app, setF_take h, ← Bool.or_assoc, ← Bool.or_assoc, Bool.or_comm (setF a x y)]
theorem apI {l : List Pq} {i : Nat} (h : i < l.length) (x y : Int) : ((x == (nthD (0, 0) l i).2 && y == (nthD (0, 0) l i).1) || setF (swapL (l.take i)) x y) = setF (swapL (l.take (i + 1))) x y := by
  rw [setF_swap, setF_swap, setF_take h, Bool.and_comm]
theorem swapL_len (l : List Pq) : (swapL l).length = l.length := by simp [swapL]
theorem v29_eq (A : Int) (a : List Pq) (B : Int) (b : List Pq) : (fnVc (tab [kBth [], kSet [], kNor []] [(0, .of (lUni a b 19 5))]) Try.f29 [rlV A 0 a, rlV B 1 b] [arP a, arP b] (resIs (relE (bif bothF A a B b then A else 0) (bif bothF A a B b then 0 else 1) (bifL (bothF A a B b) (normL A (setF (a ++ b)))).length) 38 (bifL (bothF A a B b) (normL A (setF (a ++ b)))).length (psCols (bifL (bothF A a B b) (normL A (setF (a ++ b))))))) = (a.length = a.length ∧
 b.length = b.length ∧
 (mkN (fun (j : Nat) => ((nthD ((0 : Int), (0 : Int)) a j).fst, (nthD ((0 : Int), (0 : Int)) a j).snd))
 a.length).length ≤
 (1099511627776 : Nat) ∧
 (mkN (fun (j : Nat) => ((nthD ((0 : Int), (0 : Int)) b j).fst, (nthD ((0 : Int), (0 : Int)) b j).snd))
 b.length).length ≤
 (1099511627776 : Nat) ∧
 ((!bothF A
 (mkN (fun (j : Nat) => ((nthD ((0 : Int), (0 : Int)) a j).fst, (nthD ((0 : Int), (0 : Int)) a j).snd))
 a.length)
 B
 (mkN (fun (j : Nat) => ((nthD ((0 : Int), (0 : Int)) b j).fst, (nthD ((0 : Int), (0 : Int)) b j).snd))
 b.length)) =
 true →
 (bifL (bothF A a B b) (normL A (setF (a ++ b)))).length = (0 : Nat) ∧
 (((0 : Int) = bif bothF A a B b then A else (0 : Int)) ∧
 (bifL (bothF A a B b) (normL A (setF (a ++ b)))).length = (0 : Nat) ∧ True) ∧
 ((1 : Int) = bif bothF A a B b then (0 : Int) else (1 : Int)) ∧ True) ∧
 ((!bothF A
 (mkN (fun (j : Nat) => ((nthD ((0 : Int), (0 : Int)) a j).fst, (nthD ((0 : Int), (0 : Int)) a j).snd))
 a.length)
 B
 (mkN (fun (j : Nat) => ((nthD ((0 : Int), (0 : Int)) b j).fst, (nthD ((0 : Int), (0 : Int)) b j).snd))
 b.length)) =
 false →
 a.length = a.length ∧
 (mkN (fun (j : Nat) => ((nthD ((0 : Int), (0 : Int)) a j).fst, (nthD ((0 : Int), (0 : Int)) a j).snd))
 a.length).length ≤
 (1099511627776 : Nat) ∧
 ∃ (x : PUnit),
 (∃ (x : Nat),
 (x ≤ b.length ∧ True) ∧
 ((0 : Int) = (↑x : Int) ∧ True) ∧
 (∀ (x_1 y : Int),
 setF
 (mkN
 (fun (j : Nat) =>
 ((nthD ((0 : Int), (0 : Int)) a j).fst, (nthD ((0 : Int), (0 : Int)) a j).snd))
 a.length)
 x_1 y =
 setF (a ++ List.take x b) x_1 y) ∧
 True) ∧
 ∀ (x_1 : Nat),
 x_1 ≤ b.length ∧ True →
 (decide ((↑x_1 : Int) < (↑b.length : Int)) = true →
 ((0 : Int) ≤ (↑x_1 : Int) ∧ (↑x_1 : Int) < (↑b.length : Int)) ∧
 x_1 < b.length ∧
 ∃ (x_2 : Nat),
 (x_2 ≤ b.length ∧ True) ∧
 ((PLoop.of (lUni a b (19 : Nat) (5 : Nat))).ann x).mu x_2 <
 ((PLoop.of (lUni a b (19 : Nat) (5 : Nat))).ann x).mu x_1 ∧
 ((A = A ∧ a.length = a.length) ∧
 (B = B ∧ b.length = b.length) ∧
 True ∧
 True ∧
 True ∧
 (0 : Int) = (0 : Int) ∧
 True ∧
 (A = A ∧ a.length = a.length) ∧
 (B = B ∧ b.length = b.length) ∧
 bothF A
 (mkN
 (fun (j : Nat) =>
 ((nthD ((0 : Int), (0 : Int)) a j).fst,
 (nthD ((0 : Int), (0 : Int)) a j).snd))
 a.length)
 B
 (mkN
 (fun (j : Nat) =>
 ((nthD ((0 : Int), (0 : Int)) b j).fst,
 (nthD ((0 : Int), (0 : Int)) b j).snd))
 b.length) =
 bothF A
 (mkN
 (fun (j : Nat) =>
 ((nthD ((0 : Int), (0 : Int)) a j).fst,
 (nthD ((0 : Int), (0 : Int)) a j).snd))
 a.length)
 B
 (mkN
 (fun (j : Nat) =>
 ((nthD ((0 : Int), (0 : Int)) b j).fst,
 (nthD ((0 : Int), (0 : Int)) b j).snd))
 b.length) ∧
 false = false ∧
 (A = A ∧ a.length = a.length) ∧
 True ∧
 True ∧
 b.length = b.length ∧
 (↑b.length : Int) = (↑b.length : Int) ∧
 IntKind.i64.wrap ((↑x_1 : Int) + (1 : Int)) =
 (↑x_2 : Int) ∧
 True) ∧
 (a.length = a.length ∧
 (∀ (j : Nat),
 j < a.length →
 (nthD ((0 : Int), (0 : Int)) a j).fst =
 (nthD ((0 : Int), (0 : Int)) a j).fst) ∧
 (∀ (j : Nat),
 j < a.length →
 (nthD ((0 : Int), (0 : Int)) a j).snd =
 (nthD ((0 : Int), (0 : Int)) a j).snd) ∧
 True) ∧
 (b.length = b.length ∧
 (∀ (j : Nat),
 j < b.length →
 (nthD ((0 : Int), (0 : Int)) b j).fst =
 (nthD ((0 : Int), (0 : Int)) b j).fst) ∧
 (∀ (j : Nat),
 j < b.length →
 (nthD ((0 : Int), (0 : Int)) b j).snd =
 (nthD ((0 : Int), (0 : Int)) b j).snd) ∧
 True) ∧
 (A = A ∧ a.length = a.length) ∧
 (B = B ∧ b.length = b.length) ∧
 ((0 : Int) = (0 : Int) ∧ True) ∧
 (∀ (x y : Int),
 (x == (nthD ((0 : Int), (0 : Int)) b x_1).fst &&
 y == (nthD ((0 : Int), (0 : Int)) b x_1).snd ||
 setF (a ++ List.take x_1 b) x y) =
 setF (a ++ List.take x_2 b) x y) ∧
 True) ∧
 (decide ((↑x_1 : Int) < (↑b.length : Int)) = false →
 ((0 : Int) ≤ A ∧ A ≤ (64 : Int)) ∧
 (AV.ps (normL A (setF (a ++ List.take x_1 b)))).len =
 (bifL (bothF A a B b) (normL A (setF (a ++ b)))).length ∧
 ((∀ (j : Nat),
 j < (bifL (bothF A a B b) (normL A (setF (a ++ b)))).length →
 (nthD ((0 : Int), (0 : Int)) (normL A (setF (a ++ List.take x_1 b))) j).fst =
 (nthD ((0 : Int), (0 : Int)) (bifL (bothF A a B b) (normL A (setF (a ++ b))))
 j).fst) ∧
 (∀ (j : Nat),
 j < (bifL (bothF A a B b) (normL A (setF (a ++ b)))).length →
 (nthD ((0 : Int), (0 : Int)) (normL A (setF (a ++ List.take x_1 b))) j).snd =
 (nthD ((0 : Int), (0 : Int))
 (bifL (bothF A a B b) (normL A (setF (a ++ b)))) j).snd) ∧
 True) ∧
 ((A = bif bothF A a B b then A else (0 : Int)) ∧
 (AV.ps (normL A (setF (a ++ List.take x_1 b)))).len =
 (bifL (bothF A a B b) (normL A (setF (a ++ b)))).length ∧
 True) ∧
 ((0 : Int) = bif bothF A a B b then (0 : Int) else (1 : Int)) ∧ True))) := by kernel_rfl
theorem v29 (A : Int) (a : List Pq) (B : Int) (b : List Pq) (ha : L9 a) (hb : L9 b) : fnVc (tab [kBth [], kSet [], kNor []] [(0, .of (lUni a b 19 5))]) Try.f29 [rlV A 0 a, rlV B 1 b] [arP a, arP b] (resIs (relE (bif bothF A a B b then A else 0) (bif bothF A a B b then 0 else 1) (bifL (bothF A a B b) (normL A (setF (a ++ b)))).length) 38 (bifL (bothF A a B b) (normL A (setF (a ++ b)))).length (psCols (bifL (bothF A a B b) (normL A (setF (a ++ b)))))) := by
  rw [v29_eq]
  simp only [eq_self, true_and, and_true, implies_true, imp_self, mkN_ps, mkN_rs, mkN_self, mkN_len, PLoop.of, lCnt, lVal, lSet, lUni, lInv, lOut, lInn, lTbl, lIdx, lHas, lSwp, AV.len]
  refine ⟨ha, hb, fun h => ?_, fun h => ⟨ha, (), ⟨0, by simp, rfl, by simp⟩, fun i hi => ⟨fun hlt => ?_, fun hlt => ?_⟩⟩⟩
  · have hv : bothF A a B b = false := by simpa using h
    simp [hv, bifL]
  · have hi2 := lt_len hlt
    exact ⟨bd hi2, hi2, i + 1, by omega, by omega, w64_sub (by omega) hb, fun x y => apU hi2 x y⟩
  · have hv : bothF A a B b = true := by simpa using h
    have hi2 := ge_len hlt hi
    obtain ⟨h1, h2, h3⟩ := bothF_iff.1 hv
    obtain ⟨h4, h5, _⟩ := validF_iff.1 h1
    rw [hi2, List.take_length, hv]
    simp only [bifL, cond_true, eq_self, true_and, and_true, implies_true]
    exact ⟨h4, h5⟩
theorem v30_eq (N : Int) (l : List Pq) : (fnVc (tab [kVal [], kNor []] [(0, .of (lInv l 14 3))]) Try.f30 [rlV N 0 l] [arP l] (resIs (relT (bif validF N l then N else 0) (bifL (validF N l) (normL N (setF (swapL l)))).length) 38 (bifL (validF N l) (normL N (setF (swapL l)))).length (psCols (bifL (validF N l) (normL N (setF (swapL l))))))) = (l.length = l.length ∧
 (mkN (fun (j : Nat) => ((nthD ((0 : Int), (0 : Int)) l j).fst, (nthD ((0 : Int), (0 : Int)) l j).snd))
 l.length).length ≤
 (1099511627776 : Nat) ∧
 ((!validF N
 (mkN (fun (j : Nat) => ((nthD ((0 : Int), (0 : Int)) l j).fst, (nthD ((0 : Int), (0 : Int)) l j).snd))
 l.length)) =
 true →
 (bifL (validF N l) (normL N (setF (swapL l)))).length = (0 : Nat) ∧
 ((0 : Int) = bif validF N l then N else (0 : Int)) ∧
 (bifL (validF N l) (normL N (setF (swapL l)))).length = (0 : Nat) ∧ True) ∧
 ((!validF N
 (mkN (fun (j : Nat) => ((nthD ((0 : Int), (0 : Int)) l j).fst, (nthD ((0 : Int), (0 : Int)) l j).snd))
 l.length)) =
 false →
 ∃ (x : PUnit),
 (∃ (x : Nat),
 (x ≤ l.length ∧ True) ∧
 ((0 : Int) = (↑x : Int) ∧ True) ∧
 (∀ (x_1 y : Int), false = setF (swapL (List.take x l)) x_1 y) ∧ True) ∧
 ∀ (x_1 : Nat),
 x_1 ≤ l.length ∧ True →
 (decide ((↑x_1 : Int) < (↑l.length : Int)) = true →
 ((0 : Int) ≤ (↑x_1 : Int) ∧ (↑x_1 : Int) < (↑l.length : Int)) ∧
 x_1 < l.length ∧
 ∃ (x_2 : Nat),
 (x_2 ≤ l.length ∧ True) ∧
 ((PLoop.of (lInv l (14 : Nat) (3 : Nat))).ann x).mu x_2 <
 ((PLoop.of (lInv l (14 : Nat) (3 : Nat))).ann x).mu x_1 ∧
 ((N = N ∧ l.length = l.length) ∧
 True ∧
 True ∧
 True ∧
 (N = N ∧ l.length = l.length) ∧
 validF N
 (mkN
 (fun (j : Nat) =>
 ((nthD ((0 : Int), (0 : Int)) l j).fst,
 (nthD ((0 : Int), (0 : Int)) l j).snd))
 l.length) =
 validF N
 (mkN
 (fun (j : Nat) =>
 ((nthD ((0 : Int), (0 : Int)) l j).fst,
 (nthD ((0 : Int), (0 : Int)) l j).snd))
 l.length) ∧
 false = false ∧
 True ∧
 True ∧
 l.length = l.length ∧
 (↑l.length : Int) = (↑l.length : Int) ∧
 IntKind.i64.wrap ((↑x_1 : Int) + (1 : Int)) = (↑x_2 : Int) ∧
 True) ∧
 (l.length = l.length ∧
 (∀ (j : Nat),
 j < l.length →
 (nthD ((0 : Int), (0 : Int)) l j).fst =
 (nthD ((0 : Int), (0 : Int)) l j).fst) ∧
 (∀ (j : Nat),
 j < l.length →
 (nthD ((0 : Int), (0 : Int)) l j).snd =
 (nthD ((0 : Int), (0 : Int)) l j).snd) ∧
 True) ∧
 (N = N ∧ l.length = l.length) ∧
 ((0 : Int) = (0 : Int) ∧ True) ∧
 (∀ (x y : Int),
 (x == (nthD ((0 : Int), (0 : Int)) l x_1).snd &&
 y == (nthD ((0 : Int), (0 : Int)) l x_1).fst ||
 setF (swapL (List.take x_1 l)) x y) =
 setF (swapL (List.take x_2 l)) x y) ∧
 True) ∧
 (decide ((↑x_1 : Int) < (↑l.length : Int)) = false →
 ((0 : Int) ≤ N ∧ N ≤ (64 : Int)) ∧
 (AV.ps (normL N (setF (swapL (List.take x_1 l))))).len =
 (bifL (validF N l) (normL N (setF (swapL l)))).length ∧
 ((∀ (j : Nat),
 j < (bifL (validF N l) (normL N (setF (swapL l)))).length →
 (nthD ((0 : Int), (0 : Int)) (normL N (setF (swapL (List.take x_1 l)))) j).fst =
 (nthD ((0 : Int), (0 : Int)) (bifL (validF N l) (normL N (setF (swapL l)))) j).fst) ∧
 (∀ (j : Nat),
 j < (bifL (validF N l) (normL N (setF (swapL l)))).length →
 (nthD ((0 : Int), (0 : Int)) (normL N (setF (swapL (List.take x_1 l)))) j).snd =
 (nthD ((0 : Int), (0 : Int)) (bifL (validF N l) (normL N (setF (swapL l))))
 j).snd) ∧
 True) ∧
 (N = bif validF N l then N else (0 : Int)) ∧
 (AV.ps (normL N (setF (swapL (List.take x_1 l))))).len =
 (bifL (validF N l) (normL N (setF (swapL l)))).length ∧
 True))) := by kernel_rfl
theorem v30 (N : Int) (l : List Pq) (hl : L9 l) : fnVc (tab [kVal [], kNor []] [(0, .of (lInv l 14 3))]) Try.f30 [rlV N 0 l] [arP l] (resIs (relT (bif validF N l then N else 0) (bifL (validF N l) (normL N (setF (swapL l)))).length) 38 (bifL (validF N l) (normL N (setF (swapL l)))).length (psCols (bifL (validF N l) (normL N (setF (swapL l)))))) := by
  rw [v30_eq]
  simp only [eq_self, true_and, and_true, implies_true, imp_self, mkN_ps, mkN_rs, mkN_self, mkN_len, PLoop.of, lCnt, lVal, lSet, lUni, lInv, lOut, lInn, lTbl, lIdx, lHas, lSwp, AV.len]
  refine ⟨hl, fun h => ?_, fun h => ⟨(), ⟨0, by simp, rfl, fun x y => by simp [swapL]⟩, fun i hi => ⟨fun hlt => ?_, fun hlt => ?_⟩⟩⟩
  · have hv : validF N l = false := by simpa using h
    simp [hv, bifL]
  · have hi2 := lt_len hlt
    exact ⟨bd hi2, hi2, i + 1, by omega, by omega, w64_sub (by omega) hl, fun x y => apI hi2 x y⟩
  · have hv : validF N l = true := by simpa using h
    have hi2 := ge_len hlt hi
    obtain ⟨h4, h5, _⟩ := validF_iff.1 hv
    rw [hi2, List.take_length, hv]
    simp only [bifL, cond_true, eq_self, true_and, and_true, implies_true]
    exact ⟨h4, h5⟩
theorem v31_eq (A : Int) (a : List Pq) (B : Int) (b : List Pq) : (fnVc (tabG [kVal' [], kNml' [none, none, none, none, none, none, some (.ps (a ++ b))]] [] 4 [.fresh 5 1 38 2]) Try.f31 [rlV A 0 a, rlV B 1 b] [arP a, arP b] (resIs (relE (bif bothF A a B b then A else 0) (bif bothF A a B b then 0 else 1) (bifL (bothF A a B b) (normL A (setF (a ++ b)))).length) 38 (bifL (bothF A a B b) (normL A (setF (a ++ b)))).length (psCols (bifL (bothF A a B b) (normL A (setF (a ++ b))))))) = (a.length = a.length ∧
 (mkN (fun (j : Nat) => ((nthD ((0 : Int), (0 : Int)) a j).fst, (nthD ((0 : Int), (0 : Int)) a j).snd))
 a.length).length ≤
 (1099511627776 : Nat) ∧
 ((!validF A
 (mkN (fun (j : Nat) => ((nthD ((0 : Int), (0 : Int)) a j).fst, (nthD ((0 : Int), (0 : Int)) a j).snd))
 a.length)) =
 false →
 b.length = b.length) ∧
 ((!validF A
 (mkN (fun (j : Nat) => ((nthD ((0 : Int), (0 : Int)) a j).fst, (nthD ((0 : Int), (0 : Int)) a j).snd))
 a.length)) =
 false →
 (mkN (fun (j : Nat) => ((nthD ((0 : Int), (0 : Int)) b j).fst, (nthD ((0 : Int), (0 : Int)) b j).snd))
 b.length).length ≤
 (1099511627776 : Nat)) ∧
 ((!validF A
 (mkN
 (fun (j : Nat) =>
 ((nthD ((0 : Int), (0 : Int)) a j).fst, (nthD ((0 : Int), (0 : Int)) a j).snd))
 a.length) ||
 !validF B
 (mkN
 (fun (j : Nat) =>
 ((nthD ((0 : Int), (0 : Int)) b j).fst, (nthD ((0 : Int), (0 : Int)) b j).snd))
 b.length) ||
 A != B) =
 true →
 (bifL (bothF A a B b) (normL A (setF (a ++ b)))).length = (0 : Nat) ∧
 (((0 : Int) = bif bothF A a B b then A else (0 : Int)) ∧
 (bifL (bothF A a B b) (normL A (setF (a ++ b)))).length = (0 : Nat) ∧ True) ∧
 ((1 : Int) = bif bothF A a B b then (0 : Int) else (1 : Int)) ∧ True) ∧
 ((!validF A
 (mkN
 (fun (j : Nat) =>
 ((nthD ((0 : Int), (0 : Int)) a j).fst, (nthD ((0 : Int), (0 : Int)) a j).snd))
 a.length) ||
 !validF B
 (mkN
 (fun (j : Nat) =>
 ((nthD ((0 : Int), (0 : Int)) b j).fst, (nthD ((0 : Int), (0 : Int)) b j).snd))
 b.length) ||
 A != B) =
 false →
 (0 : Nat) = (0 : Nat) ∧
 a.length = a.length ∧
 ((0 : Nat) + a.length) * (16 : Nat) ≤ (140737488355328 : Nat) ∧
 (0 : Nat) + a.length ≤ (9223372036854775807 : Nat) ∧
 (0 : Nat) + a.length = (0 : Nat) + a.length ∧
 b.length = b.length ∧
 ((0 : Nat) + a.length + b.length) * (16 : Nat) ≤ (140737488355328 : Nat) ∧
 (0 : Nat) + a.length + b.length ≤ (9223372036854775807 : Nat) ∧
 (0 : Nat) + a.length + b.length = (0 : Nat) + a.length + b.length ∧
 mkN
 (fun (j : Nat) =>
 (bif j.blt ((0 : Nat) + a.length) then (nthD ((0 : Int), (0 : Int)) a j).fst
 else (nthD ((0 : Int), (0 : Int)) b (j - ((0 : Nat) + a.length))).fst,
 bif j.blt ((0 : Nat) + a.length) then (nthD ((0 : Int), (0 : Int)) a j).snd
 else (nthD ((0 : Int), (0 : Int)) b (j - ((0 : Nat) + a.length))).snd))
 ((0 : Nat) + a.length + b.length) =
 a ++ b ∧
 (a ++ b).length ≤ (1099511627776 : Nat) ∧
 (AV.ps (bif validF A (a ++ b) then normL A (setF (a ++ b)) else [])).len =
 (bifL (bothF A a B b) (normL A (setF (a ++ b)))).length ∧
 ((∀ (j : Nat),
 j < (bifL (bothF A a B b) (normL A (setF (a ++ b)))).length →
 (nthD ((0 : Int), (0 : Int))
 (bif validF A (a ++ b) then normL A (setF (a ++ b)) else []) j).fst =
 (nthD ((0 : Int), (0 : Int))
 (bifL (bothF A a B b) (normL A (setF (a ++ b)))) j).fst) ∧
 (∀ (j : Nat),
 j < (bifL (bothF A a B b) (normL A (setF (a ++ b)))).length →
 (nthD ((0 : Int), (0 : Int))
 (bif validF A (a ++ b) then normL A (setF (a ++ b)) else [])
 j).snd =
 (nthD ((0 : Int), (0 : Int))
 (bifL (bothF A a B b) (normL A (setF (a ++ b)))) j).snd) ∧
 True) ∧
 (((bif validF A (a ++ b) then A else (0 : Int)) =
 bif bothF A a B b then A else (0 : Int)) ∧
 (AV.ps (bif validF A (a ++ b) then normL A (setF (a ++ b)) else [])).len =
 (bifL (bothF A a B b) (normL A (setF (a ++ b)))).length ∧
 True) ∧
 ((0 : Int) = bif bothF A a B b then (0 : Int) else (1 : Int)) ∧ True)) := by kernel_rfl
theorem v31 (A : Int) (a : List Pq) (B : Int) (b : List Pq) (ha : L9 a) (hb : L9 b) (hab : L9 (a ++ b)) : fnVc (tabG [kVal' [], kNml' [none, none, none, none, none, none, some (.ps (a ++ b))]] [] 4 [.fresh 5 1 38 2]) Try.f31 [rlV A 0 a, rlV B 1 b] [arP a, arP b] (resIs (relE (bif bothF A a B b then A else 0) (bif bothF A a B b then 0 else 1) (bifL (bothF A a B b) (normL A (setF (a ++ b)))).length) 38 (bifL (bothF A a B b) (normL A (setF (a ++ b)))).length (psCols (bifL (bothF A a B b) (normL A (setF (a ++ b)))))) := by
  rw [v31_eq]
  simp only [eq_self, true_and, and_true, implies_true, imp_self, mkN_ps, mkN_rs, mkN_self, mkN_len, PLoop.of, lCnt, lVal, lSet, lUni, lInv, lOut, lInn, lTbl, lIdx, lHas, lSwp, AV.len]
  refine ⟨ha, fun _ => hb, fun h => ?_, fun h => ?_⟩
  · have hv : bothF A a B b = false := by
      rw [bothF]
      cases ea : validF A a <;> cases eb : validF B b <;> simp_all
    simp [hv, bifL]
  · have hv : bothF A a B b = true := by
      rw [bothF]
      cases ea : validF A a <;> cases eb : validF B b <;> simp_all
    obtain ⟨h1, h2, h3⟩ := bothF_iff.1 hv
    subst h3
    have hl1 : a.length ≤ 1099511627776 := ha
    have hl2 : b.length ≤ 1099511627776 := hb
    have hva : validF A (a ++ b) = true := by rw [valid_app, h1, h2]; rfl
    have e : mkN (fun (j : Nat) => ((bif j.blt (0 + a.length) then (nthD (0, 0) a j).1 else (nthD (0, 0) b (j - (0 + a.length))).1 : Int), (bif j.blt (0 + a.length) then (nthD (0, 0) a j).2 else (nthD (0, 0) b (j - (0 + a.length))).2 : Int))) (0 + a.length + b.length) = a ++ b := by
      rw [Nat.zero_add, ← List.length_append]
      refine Eq.trans ?_ (mkN_self (0, 0) (a ++ b))
      refine mkN_congr fun j _ => ?_
      rw [ap2 (·.1) a b j, ap2 (·.2) a b j]
    rw [e, hv, hva]
    simp only [bifL, cond_true, eq_self, true_and, and_true, implies_true, AV.len]
    exact ⟨by omega, by omega, by omega, by omega, hab⟩
theorem v33_eq (N : Int) (l : List Pq) : (fnVc (tabG [kVal' [], kNml' [none, none, none, none, some (.ps (swapL l))]] [(0, .of (lSwp N l 4))] 4 [.fresh 3 1 38 2]) Try.f33 [rlV N 0 l] [arP l] (resIs (relT (bif validF N l then N else 0) (bifL (validF N l) (normL N (setF (swapL l)))).length) 38 (bifL (validF N l) (normL N (setF (swapL l)))).length (psCols (bifL (validF N l) (normL N (setF (swapL l))))))) = (l.length = l.length ∧
 (mkN (fun (j : Nat) => ((nthD ((0 : Int), (0 : Int)) l j).fst, (nthD ((0 : Int), (0 : Int)) l j).snd))
 l.length).length ≤
 (1099511627776 : Nat) ∧
 ((!validF N
 (mkN (fun (j : Nat) => ((nthD ((0 : Int), (0 : Int)) l j).fst, (nthD ((0 : Int), (0 : Int)) l j).snd))
 l.length)) =
 true →
 (bifL (validF N l) (normL N (setF (swapL l)))).length = (0 : Nat) ∧
 ((0 : Int) = bif validF N l then N else (0 : Int)) ∧
 (bifL (validF N l) (normL N (setF (swapL l)))).length = (0 : Nat) ∧ True) ∧
 ((!validF N
 (mkN (fun (j : Nat) => ((nthD ((0 : Int), (0 : Int)) l j).fst, (nthD ((0 : Int), (0 : Int)) l j).snd))
 l.length)) =
 false →
 ∃ (x : PUnit),
 (∃ (x : Nat),
 (x ≤ l.length ∧ True) ∧
 ((0 : Int) = (↑x : Int) ∧ True) ∧
 (N = N ∧ (0 : Nat) = (swapL (List.take x l)).length) ∧
 ((0 : Nat) = (swapL (List.take x l)).length ∧
 (swapL (List.take x l)).length = (0 : Nat) ∧
 (swapL (List.take x l)).length = (0 : Nat) ∧ True) ∧
 True) ∧
 ∀ (x_1 : Nat),
 x_1 ≤ l.length ∧ True →
 (decide ((↑x_1 : Int) < (↑l.length : Int)) = true →
 ((0 : Int) ≤ (↑x_1 : Int) ∧ (↑x_1 : Int) < (↑l.length : Int)) ∧
 x_1 < l.length ∧
 ((0 : Int) ≤ (↑x_1 : Int) ∧ (↑x_1 : Int) < (↑l.length : Int)) ∧
 x_1 < l.length ∧
 (swapL (List.take x_1 l)).length = (swapL (List.take x_1 l)).length ∧
 (1 : Nat) = (1 : Nat) ∧
 ((swapL (List.take x_1 l)).length + (1 : Nat)) * (16 : Nat) ≤ (140737488355328 : Nat) ∧
 (swapL (List.take x_1 l)).length + (1 : Nat) ≤ (9223372036854775807 : Nat) ∧
 ∃ (x_2 : Nat),
 (x_2 ≤ l.length ∧ True) ∧
 ((PLoop.of (lSwp N l (4 : Nat))).ann x).mu x_2 <
 ((PLoop.of (lSwp N l (4 : Nat))).ann x).mu x_1 ∧
 ((N = N ∧ l.length = l.length) ∧
 True ∧
 True ∧
 True ∧
 IntKind.i64.wrap ((↑x_1 : Int) + (1 : Int)) = (↑x_2 : Int) ∧
 (N = N ∧ l.length = l.length) ∧
 validF N
 (mkN
 (fun (j : Nat) =>
 ((nthD ((0 : Int), (0 : Int)) l j).fst,
 (nthD ((0 : Int), (0 : Int)) l j).snd))
 l.length) =
 validF N
 (mkN
 (fun (j : Nat) =>
 ((nthD ((0 : Int), (0 : Int)) l j).fst,
 (nthD ((0 : Int), (0 : Int)) l j).snd))
 l.length) ∧
 false = false ∧ True ∧ N = N ∧ (N = N ∧ True) ∧ True) ∧
 (l.length = l.length ∧
 (∀ (j : Nat),
 j < l.length →
 (nthD ((0 : Int), (0 : Int)) l j).fst =
 (nthD ((0 : Int), (0 : Int)) l j).fst) ∧
 (∀ (j : Nat),
 j < l.length →
 (nthD ((0 : Int), (0 : Int)) l j).snd =
 (nthD ((0 : Int), (0 : Int)) l j).snd) ∧
 True) ∧
 (N = N ∧ l.length = l.length) ∧
 ((0 : Int) = (0 : Int) ∧ True) ∧
 (N = N ∧
 (swapL (List.take x_1 l)).length + (1 : Nat) =
 (swapL (List.take x_2 l)).length) ∧
 ((swapL (List.take x_1 l)).length + (1 : Nat) =
 (swapL (List.take x_2 l)).length ∧
 (∀ (j : Nat),
 j < (swapL (List.take x_2 l)).length →
 (bif j.blt (swapL (List.take x_1 l)).length then
 (nthD ((0 : Int), (0 : Int)) (swapL (List.take x_1 l))
 j).fst
 else
 pickI [(nthD ((0 : Int), (0 : Int)) l x_1).snd]
 (j - (swapL (List.take x_1 l)).length)) =
 (nthD ((0 : Int), (0 : Int)) (swapL (List.take x_2 l))
 j).fst) ∧
 (∀ (j : Nat),
 j < (swapL (List.take x_2 l)).length →
 (bif j.blt (swapL (List.take x_1 l)).length then
 (nthD ((0 : Int), (0 : Int))
 (swapL (List.take x_1 l)) j).snd
 else
 pickI [(nthD ((0 : Int), (0 : Int)) l x_1).fst]
 (j - (swapL (List.take x_1 l)).length)) =
 (nthD ((0 : Int), (0 : Int)) (swapL (List.take x_2 l))
 j).snd) ∧
 True) ∧
 True) ∧
 (decide ((↑x_1 : Int) < (↑l.length : Int)) = false →
 (swapL (List.take x_1 l)).length = (swapL (List.take x_1 l)).length ∧
 mkN
 (fun (j : Nat) =>
 ((nthD ((0 : Int), (0 : Int)) (swapL (List.take x_1 l)) j).fst,
 (nthD ((0 : Int), (0 : Int)) (swapL (List.take x_1 l)) j).snd))
 (swapL (List.take x_1 l)).length =
 swapL l ∧
 (swapL l).length ≤ (1099511627776 : Nat) ∧
 (AV.ps (bif validF N (swapL l) then normL N (setF (swapL l)) else [])).len =
 (bifL (validF N l) (normL N (setF (swapL l)))).length ∧
 ((∀ (j : Nat),
 j < (bifL (validF N l) (normL N (setF (swapL l)))).length →
 (nthD ((0 : Int), (0 : Int))
 (bif validF N (swapL l) then normL N (setF (swapL l)) else []) j).fst =
 (nthD ((0 : Int), (0 : Int)) (bifL (validF N l) (normL N (setF (swapL l))))
 j).fst) ∧
 (∀ (j : Nat),
 j < (bifL (validF N l) (normL N (setF (swapL l)))).length →
 (nthD ((0 : Int), (0 : Int))
 (bif validF N (swapL l) then normL N (setF (swapL l)) else []) j).snd =
 (nthD ((0 : Int), (0 : Int)) (bifL (validF N l) (normL N (setF (swapL l))))
 j).snd) ∧
 True) ∧
 ((bif validF N (swapL l) then N else (0 : Int)) = bif validF N l then N else (0 : Int)) ∧
 (AV.ps (bif validF N (swapL l) then normL N (setF (swapL l)) else [])).len =
 (bifL (validF N l) (normL N (setF (swapL l)))).length ∧
 True))) := by kernel_rfl
theorem v33 (N : Int) (l : List Pq) (hl : L9 l) : fnVc (tabG [kVal' [], kNml' [none, none, none, none, some (.ps (swapL l))]] [(0, .of (lSwp N l 4))] 4 [.fresh 3 1 38 2]) Try.f33 [rlV N 0 l] [arP l] (resIs (relT (bif validF N l then N else 0) (bifL (validF N l) (normL N (setF (swapL l)))).length) 38 (bifL (validF N l) (normL N (setF (swapL l)))).length (psCols (bifL (validF N l) (normL N (setF (swapL l)))))) := by
  rw [v33_eq]
  simp only [eq_self, true_and, and_true, implies_true, imp_self, mkN_ps, mkN_rs, mkN_self, mkN_len, PLoop.of, lCnt, lVal, lSet, lUni, lInv, lOut, lInn, lTbl, lIdx, lHas, lSwp, AV.len]
  refine ⟨hl, fun h => ?_, fun h => ⟨(), ⟨0, by simp, rfl, by simp [swapL]⟩, fun i hi => ⟨fun hlt => ?_, fun hlt => ?_⟩⟩⟩
  · have hv : validF N l = false := by simpa using h
    simp [hv, bifL]
  · have hi2 := lt_len hlt
    have hl1 : l.length ≤ 1099511627776 := hl
    have hl2 : (swapL (l.take i)).length = i := by rw [swapL_len, List.length_take]; omega
    have e3 := congrArg List.length (swapL_take hi2)
    rw [List.length_append] at e3
    refine ⟨bd hi2, hi2, bd hi2, hi2, by omega, by omega, i + 1, by omega, by omega, w64_sub (by omega) hl, ?_⟩
    rw [swapL_take hi2] at e3 ⊢
    exact ⟨e3.symm, e3.symm, ap1 (·.1) _ _, ap1 (·.2) _ _⟩
  · have hv : validF N l = true := by simpa using h
    have hi2 := ge_len hlt hi
    rw [hi2, List.take_length, valid_swap, hv]
    simp only [bifL, cond_true, eq_self, true_and, and_true, implies_true]
    rw [L9, ← swapL_len] at hl
    exact hl
end Go.Proofs.Ytcbmbnlgilampaa
