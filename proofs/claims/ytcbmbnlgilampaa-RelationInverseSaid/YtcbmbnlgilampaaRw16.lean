/-
  A part of the proof (Rw16).
-/
import Derived.Test.YtcbmbnlgilampaaRw15
namespace Go.Proofs.Ytcbmbnlgilampaa
open Go Go.Proofs.Ytcbmbnlgilampaa.Sx
set_option maxRecDepth 100000
set_option linter.unusedSimpArgs false
set_option linter.unusedVariables false

theorem norm_tbl {N : Int} {f : Pf} : normL N (tblF N.toNat (tblL N.toNat f)) = normL N f := normL_congr fun a b ha hb => tblF_tblL (by omega) (by omega)
theorem eq_takes {α : Type} {a b : List α} (h : a.length = b.length) (h2 : a.take a.length = b.take a.length) : a = b := by
  rw [List.take_length, h, List.take_length] at h2; exact h2
theorem v17_eq (N : Int) (l : List Pq) : (fnVc (tab [kVal [], kCls [], kNor []] []) Try.f17 [rlV N 0 l] [arP l] (resIs (relT (bif validF N l then N else 0) (bifL (validF N l) (normL N (wF (setF l) N.toNat))).length) 38 (bifL (validF N l) (normL N (wF (setF l) N.toNat))).length (psCols (bifL (validF N l) (normL N (wF (setF l) N.toNat)))))) = (l.length = l.length ∧
 (mkN (fun (j : Nat) => ((nthD ((0 : Int), (0 : Int)) l j).fst, (nthD ((0 : Int), (0 : Int)) l j).snd))
 l.length).length ≤
 (1099511627776 : Nat) ∧
 ((!validF N
 (mkN (fun (j : Nat) => ((nthD ((0 : Int), (0 : Int)) l j).fst, (nthD ((0 : Int), (0 : Int)) l j).snd))
 l.length)) =
 true →
 (bifL (validF N l) (normL N (wF (setF l) N.toNat))).length = (0 : Nat) ∧
 ((0 : Int) = bif validF N l then N else (0 : Int)) ∧
 (bifL (validF N l) (normL N (wF (setF l) N.toNat))).length = (0 : Nat) ∧ True) ∧
 ((!validF N
 (mkN (fun (j : Nat) => ((nthD ((0 : Int), (0 : Int)) l j).fst, (nthD ((0 : Int), (0 : Int)) l j).snd))
 l.length)) =
 false →
 l.length = l.length ∧
 validF N
 (mkN (fun (j : Nat) => ((nthD ((0 : Int), (0 : Int)) l j).fst, (nthD ((0 : Int), (0 : Int)) l j).snd))
 l.length) =
 true ∧
 (mkN (fun (j : Nat) => ((nthD ((0 : Int), (0 : Int)) l j).fst, (nthD ((0 : Int), (0 : Int)) l j).snd))
 l.length).length ≤
 (1099511627776 : Nat) ∧
 ((0 : Int) ≤ N ∧ N ≤ (64 : Int)) ∧
 (AV.ps
 (normL N
 (wF
 (setF
 (mkN
 (fun (j : Nat) =>
 ((nthD ((0 : Int), (0 : Int)) l j).fst, (nthD ((0 : Int), (0 : Int)) l j).snd))
 l.length))
 N.toNat))).len =
 (bifL (validF N l) (normL N (wF (setF l) N.toNat))).length ∧
 ((∀ (j : Nat),
 j < (bifL (validF N l) (normL N (wF (setF l) N.toNat))).length →
 (nthD ((0 : Int), (0 : Int))
 (normL N
 (wF
 (setF
 (mkN
 (fun (j : Nat) =>
 ((nthD ((0 : Int), (0 : Int)) l j).fst,
 (nthD ((0 : Int), (0 : Int)) l j).snd))
 l.length))
 N.toNat))
 j).fst =
 (nthD ((0 : Int), (0 : Int)) (bifL (validF N l) (normL N (wF (setF l) N.toNat))) j).fst) ∧
 (∀ (j : Nat),
 j < (bifL (validF N l) (normL N (wF (setF l) N.toNat))).length →
 (nthD ((0 : Int), (0 : Int))
 (normL N
 (wF
 (setF
 (mkN
 (fun (j : Nat) =>
 ((nthD ((0 : Int), (0 : Int)) l j).fst,
 (nthD ((0 : Int), (0 : Int)) l j).snd))
 l.length))
 N.toNat))
 j).snd =
 (nthD ((0 : Int), (0 : Int)) (bifL (validF N l) (normL N (wF (setF l) N.toNat))) j).snd) ∧
 True) ∧
 (N = bif validF N l then N else (0 : Int)) ∧
 (AV.ps
 (normL N
 (wF
 (setF
 (mkN
 (fun (j : Nat) =>
 ((nthD ((0 : Int), (0 : Int)) l j).fst, (nthD ((0 : Int), (0 : Int)) l j).snd))
 l.length))
 N.toNat))).len =
 (bifL (validF N l) (normL N (wF (setF l) N.toNat))).length ∧
 True)) := by kernel_rfl
theorem v17 (N : Int) (l : List Pq) (hl : L9 l) : fnVc (tab [kVal [], kCls [], kNor []] []) Try.f17 [rlV N 0 l] [arP l] (resIs (relT (bif validF N l then N else 0) (bifL (validF N l) (normL N (wF (setF l) N.toNat))).length) 38 (bifL (validF N l) (normL N (wF (setF l) N.toNat))).length (psCols (bifL (validF N l) (normL N (wF (setF l) N.toNat))))) := by
  rw [v17_eq]
  simp only [eq_self, true_and, and_true, implies_true, imp_self, mkN_ps, mkN_rs, mkN_self, mkN_len, PLoop.of, lCnt, AV.len, tblL_len, lWm, lWa, lWb, lAcy, lSam, lIsm]
  refine ⟨hl, fun h => ?_, fun h => ?_⟩
  · have hv : validF N l = false := by simpa using h
    simp [hv, bifL]
  · have hv : validF N l = true := by simpa using h
    obtain ⟨h1, h2, h3⟩ := validF_iff.1 hv
    rw [hv]
    simp only [bifL, cond_true, eq_self, true_and, and_true, implies_true, tblL_len]
    exact ⟨hl, h1, h2⟩
theorem v18_eq (N : Int) (l : List Pq) : (fnVc (tab [kVal' [], kCld [], kLst []] []) Try.f18 [rlV N 0 l] [arP l] (resIs (relT (bif validF N l then N else 0) (bifL (validF N l) (normL N (wF (setF l) N.toNat))).length) 38 (bifL (validF N l) (normL N (wF (setF l) N.toNat))).length (psCols (bifL (validF N l) (normL N (wF (setF l) N.toNat)))))) = (l.length = l.length ∧
 (mkN (fun (j : Nat) => ((nthD ((0 : Int), (0 : Int)) l j).fst, (nthD ((0 : Int), (0 : Int)) l j).snd))
 l.length).length ≤
 (1099511627776 : Nat) ∧
 ((!validF N
 (mkN (fun (j : Nat) => ((nthD ((0 : Int), (0 : Int)) l j).fst, (nthD ((0 : Int), (0 : Int)) l j).snd))
 l.length)) =
 true →
 (bifL (validF N l) (normL N (wF (setF l) N.toNat))).length = (0 : Nat) ∧
 ((0 : Int) = bif validF N l then N else (0 : Int)) ∧
 (bifL (validF N l) (normL N (wF (setF l) N.toNat))).length = (0 : Nat) ∧ True) ∧
 ((!validF N
 (mkN (fun (j : Nat) => ((nthD ((0 : Int), (0 : Int)) l j).fst, (nthD ((0 : Int), (0 : Int)) l j).snd))
 l.length)) =
 false →
 l.length = l.length ∧
 validF N
 (mkN (fun (j : Nat) => ((nthD ((0 : Int), (0 : Int)) l j).fst, (nthD ((0 : Int), (0 : Int)) l j).snd))
 l.length) =
 true ∧
 (mkN (fun (j : Nat) => ((nthD ((0 : Int), (0 : Int)) l j).fst, (nthD ((0 : Int), (0 : Int)) l j).snd))
 l.length).length ≤
 (1099511627776 : Nat) ∧
 (AV.bs
 (tblL N.toNat
 (wF
 (setF
 (mkN
 (fun (j : Nat) =>
 ((nthD ((0 : Int), (0 : Int)) l j).fst, (nthD ((0 : Int), (0 : Int)) l j).snd))
 l.length))
 N.toNat))).len =
 (AV.bs
 (tblL N.toNat
 (wF
 (setF
 (mkN
 (fun (j : Nat) =>
 ((nthD ((0 : Int), (0 : Int)) l j).fst, (nthD ((0 : Int), (0 : Int)) l j).snd))
 l.length))
 N.toNat))).len ∧
 ((0 : Int) ≤ N ∧ N ≤ (64 : Int)) ∧
 (mkN
 (nthD false
 (tblL N.toNat
 (wF
 (setF
 (mkN
 (fun (j : Nat) =>
 ((nthD ((0 : Int), (0 : Int)) l j).fst, (nthD ((0 : Int), (0 : Int)) l j).snd))
 l.length))
 N.toNat)))
 (AV.bs
 (tblL N.toNat
 (wF
 (setF
 (mkN
 (fun (j : Nat) =>
 ((nthD ((0 : Int), (0 : Int)) l j).fst, (nthD ((0 : Int), (0 : Int)) l j).snd))
 l.length))
 N.toNat))).len).length =
 N.toNat * N.toNat ∧
 (AV.ps
 (normL N
 (tblF N.toNat
 (mkN
 (nthD false
 (tblL N.toNat
 (wF
 (setF
 (mkN
 (fun (j : Nat) =>
 ((nthD ((0 : Int), (0 : Int)) l j).fst,
 (nthD ((0 : Int), (0 : Int)) l j).snd))
 l.length))
 N.toNat)))
 (AV.bs
 (tblL N.toNat
 (wF
 (setF
 (mkN
 (fun (j : Nat) =>
 ((nthD ((0 : Int), (0 : Int)) l j).fst,
 (nthD ((0 : Int), (0 : Int)) l j).snd))
 l.length))
 N.toNat))).len)))).len =
 (bifL (validF N l) (normL N (wF (setF l) N.toNat))).length ∧
 ((∀ (j : Nat),
 j < (bifL (validF N l) (normL N (wF (setF l) N.toNat))).length →
 (nthD ((0 : Int), (0 : Int))
 (normL N
 (tblF N.toNat
 (mkN
 (nthD false
 (tblL N.toNat
 (wF
 (setF
 (mkN
 (fun (j : Nat) =>
 ((nthD ((0 : Int), (0 : Int)) l j).fst,
 (nthD ((0 : Int), (0 : Int)) l j).snd))
 l.length))
 N.toNat)))
 (AV.bs
 (tblL N.toNat
 (wF
 (setF
 (mkN
 (fun (j : Nat) =>
 ((nthD ((0 : Int), (0 : Int)) l j).fst,
 (nthD ((0 : Int), (0 : Int)) l j).snd))
 l.length))
 N.toNat))).len)))
 j).fst =
 (nthD ((0 : Int), (0 : Int)) (bifL (validF N l) (normL N (wF (setF l) N.toNat)))
 j).fst) ∧
 (∀ (j : Nat),
 j < (bifL (validF N l) (normL N (wF (setF l) N.toNat))).length →
 (nthD ((0 : Int), (0 : Int))
 (normL N
 (tblF N.toNat
 (mkN
 (nthD false
 (tblL N.toNat
 (wF
 (setF
 (mkN
 (fun (j : Nat) =>
 ((nthD ((0 : Int), (0 : Int)) l j).fst,
 (nthD ((0 : Int), (0 : Int)) l j).snd))
 l.length))
 N.toNat)))
 (AV.bs
 (tblL N.toNat
 (wF
 (setF
 (mkN
 (fun (j : Nat) =>
 ((nthD ((0 : Int), (0 : Int)) l j).fst,
 (nthD ((0 : Int), (0 : Int)) l j).snd))
 l.length))
 N.toNat))).len)))
 j).snd =
 (nthD ((0 : Int), (0 : Int)) (bifL (validF N l) (normL N (wF (setF l) N.toNat)))
 j).snd) ∧
 True) ∧
 (N = bif validF N l then N else (0 : Int)) ∧
 (AV.ps
 (normL N
 (tblF N.toNat
 (mkN
 (nthD false
 (tblL N.toNat
 (wF
 (setF
 (mkN
 (fun (j : Nat) =>
 ((nthD ((0 : Int), (0 : Int)) l j).fst,
 (nthD ((0 : Int), (0 : Int)) l j).snd))
 l.length))
 N.toNat)))
 (AV.bs
 (tblL N.toNat
 (wF
 (setF
 (mkN
 (fun (j : Nat) =>
 ((nthD ((0 : Int), (0 : Int)) l j).fst,
 (nthD ((0 : Int), (0 : Int)) l j).snd))
 l.length))
 N.toNat))).len)))).len =
 (bifL (validF N l) (normL N (wF (setF l) N.toNat))).length ∧
 True)) := by kernel_rfl
theorem v18 (N : Int) (l : List Pq) (hl : L9 l) : fnVc (tab [kVal' [], kCld [], kLst []] []) Try.f18 [rlV N 0 l] [arP l] (resIs (relT (bif validF N l then N else 0) (bifL (validF N l) (normL N (wF (setF l) N.toNat))).length) 38 (bifL (validF N l) (normL N (wF (setF l) N.toNat))).length (psCols (bifL (validF N l) (normL N (wF (setF l) N.toNat))))) := by
  rw [v18_eq]
  simp only [eq_self, true_and, and_true, implies_true, imp_self, mkN_ps, mkN_rs, mkN_self, mkN_len, PLoop.of, lCnt, AV.len, lWm, lWa, lWb, lAcy, lSam, lIsm]
  refine ⟨hl, fun h => ?_, fun h => ?_⟩
  · have hv : validF N l = false := by simpa using h
    simp [hv, bifL]
  · have hv : validF N l = true := by simpa using h
    obtain ⟨h1, h2, h3⟩ := validF_iff.1 hv
    rw [hv]
    rw [norm_tbl]
    simp only [bifL, cond_true, eq_self, true_and, and_true, implies_true, tblL_len]
    exact ⟨hl, h1, h2⟩
theorem v40_eq (A : Int) (a : List Pq) (B : Int) (b : List Pq) : (fnVc (tab [] [(0, .of (lSam a b 5))]) Try.f40 [rlV A 0 a, rlV B 1 b] [arP a, arP b] (plainIs (.b (sameF A a B b)))) = (((A != B || (↑a.length : Int) != (↑b.length : Int)) = true → false = sameF A a B b) ∧
 ((A != B || (↑a.length : Int) != (↑b.length : Int)) = false →
 ∃ (x : PUnit),
 (∃ (x : Nat), (x ≤ a.length ∧ List.take x a = List.take x b) ∧ ((0 : Int) = (↑x : Int) ∧ True) ∧ True) ∧
 ∀ (x_1 : Nat),
 x_1 ≤ a.length ∧ List.take x_1 a = List.take x_1 b →
 (decide ((↑x_1 : Int) < (↑a.length : Int)) = true →
 ((0 : Int) ≤ (↑x_1 : Int) ∧ (↑x_1 : Int) < (↑a.length : Int)) ∧
 x_1 < a.length ∧
 ((0 : Int) ≤ (↑x_1 : Int) ∧ (↑x_1 : Int) < (↑b.length : Int)) ∧
 x_1 < b.length ∧
 ((!((nthD ((0 : Int), (0 : Int)) a x_1).fst == (nthD ((0 : Int), (0 : Int)) b x_1).fst &&
 (nthD ((0 : Int), (0 : Int)) a x_1).snd == (nthD ((0 : Int), (0 : Int)) b x_1).snd)) =
 true →
 false = sameF A a B b) ∧
 ((!((nthD ((0 : Int), (0 : Int)) a x_1).fst == (nthD ((0 : Int), (0 : Int)) b x_1).fst &&
 (nthD ((0 : Int), (0 : Int)) a x_1).snd == (nthD ((0 : Int), (0 : Int)) b x_1).snd)) =
 false →
 ∃ (x_2 : Nat),
 (x_2 ≤ a.length ∧ List.take x_2 a = List.take x_2 b) ∧
 ((PLoop.of (lSam a b (5 : Nat))).ann x).mu x_2 <
 ((PLoop.of (lSam a b (5 : Nat))).ann x).mu x_1 ∧
 ((A = A ∧ a.length = a.length) ∧
 (B = B ∧ b.length = b.length) ∧
 True ∧
 True ∧
 IntKind.i64.wrap ((↑x_1 : Int) + (1 : Int)) = (↑x_2 : Int) ∧
 True ∧
 A = A ∧
 True ∧
 B = B ∧
 (A != B) = (A != B) ∧
 (A != B) = (A != B) ∧ false = false ∧ True) ∧
 (a.length = a.length ∧
 (∀ (j : Nat),
 j < a.length →
 (nthD ((0 : Int), (0 : Int)) a j).fst =
 (nthD ((0 : Int), (0 : Int)) a j).fst) ∧
 (∀ (j : Nat),
 j < a.length →
 (nthD ((0 : Int), (0 : Int)) a j).snd =
 (nthD ((0 : Int), (0 : Int)) a j).snd) ∧
 True) ∧
 (b.length = b.length ∧
 (∀ (j : Nat),
 j < b.length →
 (nthD ((0 : Int), (0 : Int)) b j).fst =
 (nthD ((0 : Int), (0 : Int)) b j).fst) ∧
 (∀ (j : Nat),
 j < b.length →
 (nthD ((0 : Int), (0 : Int)) b j).snd =
 (nthD ((0 : Int), (0 : Int)) b j).snd) ∧
 True) ∧
 (A = A ∧ a.length = a.length) ∧ (B = B ∧ b.length = b.length) ∧ True)) ∧
 (decide ((↑x_1 : Int) < (↑a.length : Int)) = false → true = sameF A a B b))) := by kernel_rfl
theorem v40 (A : Int) (a : List Pq) (B : Int) (b : List Pq) (ha : L9 a) : fnVc (tab [] [(0, .of (lSam a b 5))]) Try.f40 [rlV A 0 a, rlV B 1 b] [arP a, arP b] (plainIs (.b (sameF A a B b))) := by
  rw [v40_eq]
  simp only [eq_self, true_and, and_true, implies_true, imp_self, mkN_ps, mkN_rs, mkN_self, mkN_len, PLoop.of, lCnt, AV.len, tblL_len, lWm, lWa, lWb, lAcy, lSam, lIsm]
  refine ⟨fun h => ?_, fun h => ⟨(), ⟨0, by simp, rfl⟩, fun i hi => ⟨fun hlt => ?_, fun hlt => ?_⟩⟩⟩
  · rw [eq_comm, sameF, Bool.and_eq_false_imp]
    intro h1; have h1 := of_decide_eq_true h1; subst h1; rw [decide_eq_false_iff_not]
    rintro rfl
    simp at h
  · have hi2 := lt_len hlt
    have hlen : a.length = b.length := by simp at h; omega
    refine ⟨bd hi2, hi2, by omega, by omega, fun hc => ?_, fun hc => ?_⟩
    · rw [eq_comm, sameF, Bool.and_eq_false_imp]
      intro h1; have h1 := of_decide_eq_true h1; subst h1; rw [decide_eq_false_iff_not]
      rintro rfl
      simp at hc
    · refine ⟨i + 1, ⟨by omega, ?_⟩, by omega, w64_sub (by omega) ha⟩
      rw [take_succ' (0, 0) hi2, take_succ' (0, 0) (show i < b.length by omega), hi.2]
      congr 2
      simp at hc; exact Prod.ext hc.1 hc.2
  · have hi2 := ge_len hlt hi.1
    have hlen : a.length = b.length := by simp at h; omega
    have h2 := hi.2
    rw [hi2] at h2
    have := eq_takes hlen h2
    simp at h; rw [this, h.1]; simp [sameF]
theorem v13_eq (a b : List Int) : (fnVc (tab [] [(0, .of (lIsm a b 5))]) Try.f13 [.sl 0 a.length, .sl 1 b.length] [arI a, arI b] (plainIs (.b (decide (a = b))))) = ((((↑a.length : Int) != (↑b.length : Int)) = true → false = decide (a = b)) ∧
 (((↑a.length : Int) != (↑b.length : Int)) = false →
 ∃ (x : PUnit),
 (∃ (x : Nat), (x ≤ a.length ∧ List.take x a = List.take x b) ∧ ((0 : Int) = (↑x : Int) ∧ True) ∧ True) ∧
 ∀ (x_1 : Nat),
 x_1 ≤ a.length ∧ List.take x_1 a = List.take x_1 b →
 (decide ((↑x_1 : Int) < (↑a.length : Int)) = true →
 ((0 : Int) ≤ (↑x_1 : Int) ∧ (↑x_1 : Int) < (↑a.length : Int)) ∧
 x_1 < a.length ∧
 ((0 : Int) ≤ (↑x_1 : Int) ∧ (↑x_1 : Int) < (↑b.length : Int)) ∧
 x_1 < b.length ∧
 ((nthD (0 : Int) a x_1 != nthD (0 : Int) b x_1) = true → false = decide (a = b)) ∧
 ((nthD (0 : Int) a x_1 != nthD (0 : Int) b x_1) = false →
 ∃ (x_2 : Nat),
 (x_2 ≤ a.length ∧ List.take x_2 a = List.take x_2 b) ∧
 ((PLoop.of (lIsm a b (5 : Nat))).ann x).mu x_2 <
 ((PLoop.of (lIsm a b (5 : Nat))).ann x).mu x_1 ∧
 (a.length = a.length ∧
 b.length = b.length ∧
 IntKind.i64.wrap ((↑x_1 : Int) + (1 : Int)) = (↑x_2 : Int) ∧
 a.length = a.length ∧
 (↑a.length : Int) = (↑a.length : Int) ∧
 b.length = b.length ∧
 (↑b.length : Int) = (↑b.length : Int) ∧ false = false ∧ True) ∧
 (a.length = a.length ∧
 (∀ (j : Nat), j < a.length → nthD (0 : Int) a j = nthD (0 : Int) a j) ∧ True) ∧
 (b.length = b.length ∧
 (∀ (j : Nat), j < b.length → nthD (0 : Int) b j = nthD (0 : Int) b j) ∧
 True) ∧
 True)) ∧
 (decide ((↑x_1 : Int) < (↑a.length : Int)) = false → true = decide (a = b)))) := by kernel_rfl
theorem v13 (a b : List Int) (ha : L9 a) : fnVc (tab [] [(0, .of (lIsm a b 5))]) Try.f13 [.sl 0 a.length, .sl 1 b.length] [arI a, arI b] (plainIs (.b (decide (a = b)))) := by
  rw [v13_eq]
  simp only [eq_self, true_and, and_true, implies_true, imp_self, mkN_ps, mkN_rs, mkN_self, mkN_len, PLoop.of, lCnt, AV.len, tblL_len, lWm, lWa, lWb, lAcy, lSam, lIsm]
  refine ⟨fun h => ?_, fun h => ⟨(), ⟨0, by simp, rfl⟩, fun i hi => ⟨fun hlt => ?_, fun hlt => ?_⟩⟩⟩
  · rw [eq_comm, decide_eq_false_iff_not]
    skip
    rintro rfl
    simp at h
  · have hi2 := lt_len hlt
    have hlen : a.length = b.length := by simp at h; omega
    refine ⟨bd hi2, hi2, by omega, by omega, fun hc => ?_, fun hc => ?_⟩
    · rw [eq_comm, decide_eq_false_iff_not]
      skip
      rintro rfl
      simp at hc
    · refine ⟨i + 1, ⟨by omega, ?_⟩, by omega, w64_sub (by omega) ha⟩
      rw [take_succ' 0 hi2, take_succ' 0 (show i < b.length by omega), hi.2]
      congr 2
      simpa using hc
  · have hi2 := ge_len hlt hi.1
    have hlen : a.length = b.length := by simp at h; omega
    have h2 := hi.2
    rw [hi2] at h2
    have := eq_takes hlen h2
    rw [this]; simp
theorem v16_eq (A : Int) (a : List Pq) (B : Int) (b : List Pq) : (fnVc (tab [kSam' []] []) Try.f16 [rlV A 0 a, rlV B 1 b] [arP a, arP b] (plainIs (.b (sameF A a B b)))) = (a.length = a.length ∧
 b.length = b.length ∧
 (mkN (fun (j : Nat) => ((nthD ((0 : Int), (0 : Int)) a j).fst, (nthD ((0 : Int), (0 : Int)) a j).snd))
 a.length).length ≤
 (1099511627776 : Nat) ∧
 (mkN (fun (j : Nat) => ((nthD ((0 : Int), (0 : Int)) b j).fst, (nthD ((0 : Int), (0 : Int)) b j).snd))
 b.length).length ≤
 (1099511627776 : Nat) ∧
 sameF A
 (mkN (fun (j : Nat) => ((nthD ((0 : Int), (0 : Int)) a j).fst, (nthD ((0 : Int), (0 : Int)) a j).snd))
 a.length)
 B
 (mkN (fun (j : Nat) => ((nthD ((0 : Int), (0 : Int)) b j).fst, (nthD ((0 : Int), (0 : Int)) b j).snd))
 b.length) =
 sameF A a B b) := by kernel_rfl
theorem v16 (A : Int) (a : List Pq) (B : Int) (b : List Pq) (ha : L9 a) (hb : L9 b) : fnVc (tab [kSam' []] []) Try.f16 [rlV A 0 a, rlV B 1 b] [arP a, arP b] (plainIs (.b (sameF A a B b))) := by
  rw [v16_eq]
  simp only [eq_self, true_and, and_true, implies_true, imp_self, mkN_ps, mkN_rs, mkN_self, mkN_len, PLoop.of, lCnt, AV.len, tblL_len, lWm, lWa, lWb, lAcy, lSam, lIsm]
  exact ⟨ha, hb⟩
theorem fo39 : fnOk Try.prog 39 := ⟨Try.f39, Try.func39, by kernel_rfl, by kernel_rfl⟩
theorem fo14 : fnOk Try.prog 14 := ⟨Try.f14, Try.func14, by kernel_rfl, by kernel_rfl⟩
theorem fo15 : fnOk Try.prog 15 := ⟨Try.f15, Try.func15, by kernel_rfl, by kernel_rfl⟩
theorem fo17 : fnOk Try.prog 17 := ⟨Try.f17, Try.func17, by kernel_rfl, by kernel_rfl⟩
theorem fo18 : fnOk Try.prog 18 := ⟨Try.f18, Try.func18, by kernel_rfl, by kernel_rfl⟩
theorem fo40 : fnOk Try.prog 40 := ⟨Try.f40, Try.func40, by kernel_rfl, by kernel_rfl⟩
theorem fo16 : fnOk Try.prog 16 := ⟨Try.f16, Try.func16, by kernel_rfl, by kernel_rfl⟩
theorem fo13 : fnOk Try.prog 13 := ⟨Try.f13, Try.func13, by kernel_rfl, by kernel_rfl⟩
def t39 : List AV → Tab
  | [.r N l] => tab [kTbl [none, none, none, some (.bs (tblL N.toNat (setF l)))]] [(0, .of (lWm N.toNat (setF l) 5 3)), (2, lWa N.toNat (setF l) 6 3), (4, lWb N.toNat (setF l) 7 3)]
  | _ => tab [] []
theorem c39 : CallOk Try.prog [] 39 (genF EL [] [.r] sCld) := by
  refine okT (fn := Try.f39) Try.func39 fo39 t39 (fun av => ?_) (fun av => ?_) (fun av pre rv h => ?_) (fun av pre rv h hp => ?_)
  · unfold t39; split <;> first | exact tabOk (mOne (n36 _) mNil) | exact tabOk mNil
  · unfold t39; split <;> exact ⟨rfl, rfl⟩
  · unfold sCld at h; split at h <;> cases h
    exact ⟨rfl, fun t a e => by cases e <;> exact List.cons_ne_nil _ _⟩
  · unfold sCld at h; split at h <;> cases h
    exact v39 _ _ (hp _ (.head _)) (hp _ (.tail _ (.head _)))
theorem n39 (nm : List (Option AV)) : CallOk Try.prog [] 39 (genF EL nm [.r] sCld) := genNm c39
def t14 : List AV → Tab
  | [.r N l] => tab [kVal [], kCls []] [(0, .of (lAcy N.toNat (wF (setF l) N.toNat) 12))]
  | _ => tab [] []
theorem c14 : CallOk Try.prog [] 14 (genF EL [] [.r] sAcy) := by
  refine okT (fn := Try.f14) Try.func14 fo14 t14 (fun av => ?_) (fun av => ?_) (fun av pre rv h => ?_) (fun av pre rv h hp => ?_)
  · unfold t14; split <;> first | exact tabOk (mOne (n21 _) (mOne (n38 _) mNil)) | exact tabOk mNil
  · unfold t14; split <;> exact ⟨rfl, rfl⟩
  · unfold sAcy at h; split at h <;> cases h
    exact ⟨rfl, fun t a e => by cases e <;> exact List.cons_ne_nil _ _⟩
  · unfold sAcy at h; split at h <;> cases h
    exact v14 _ _ (hp _ (.head _))
theorem n14 (nm : List (Option AV)) : CallOk Try.prog [] 14 (genF EL nm [.r] sAcy) := genNm c14
def t15 : List AV → Tab
  | [.r N l] => tab [kVal' [], kCld []] [(0, .of (lAcy N.toNat (wF (setF l) N.toNat) 4))]
  | _ => tab [] []
theorem c15 : CallOk Try.prog [] 15 (genF EL [] [.r] sAcy) := by
  refine okT (fn := Try.f15) Try.func15 fo15 t15 (fun av => ?_) (fun av => ?_) (fun av pre rv h => ?_) (fun av pre rv h hp => ?_)
  · unfold t15; split <;> first | exact tabOk (mOne (n22 _) (mOne (n39 _) mNil)) | exact tabOk mNil
  · unfold t15; split <;> exact ⟨rfl, rfl⟩
  · unfold sAcy at h; split at h <;> cases h
    exact ⟨rfl, fun t a e => by cases e <;> exact List.cons_ne_nil _ _⟩
  · unfold sAcy at h; split at h <;> cases h
    exact v15 _ _ (hp _ (.head _))
theorem n15 (nm : List (Option AV)) : CallOk Try.prog [] 15 (genF EL nm [.r] sAcy) := genNm c15
def t17 : List AV → Tab
  | [.r N l] => tab [kVal [], kCls [], kNor []] []
  | _ => tab [] []
theorem c17 : CallOk Try.prog [] 17 (genF EL [] [.r] sClo) := by
  refine okT (fn := Try.f17) Try.func17 fo17 t17 (fun av => ?_) (fun av => ?_) (fun av pre rv h => ?_) (fun av pre rv h hp => ?_)
  · unfold t17; split <;> first | exact tabOk (mOne (n21 _) (mOne (n38 _) (mOne (n41 _) mNil))) | exact tabOk mNil
  · unfold t17; split <;> exact ⟨rfl, rfl⟩
  · unfold sClo at h; split at h <;> cases h
    exact ⟨rfl, fun t a e => by cases e <;> exact List.cons_ne_nil _ _⟩
  · unfold sClo at h; split at h <;> cases h
    exact v17 _ _ (hp _ (.head _))
theorem n17 (nm : List (Option AV)) : CallOk Try.prog [] 17 (genF EL nm [.r] sClo) := genNm c17
def t18 : List AV → Tab
  | [.r N l] => tab [kVal' [], kCld [], kLst []] []
  | _ => tab [] []
theorem c18 : CallOk Try.prog [] 18 (genF EL [] [.r] sClo) := by
  refine okT (fn := Try.f18) Try.func18 fo18 t18 (fun av => ?_) (fun av => ?_) (fun av pre rv h => ?_) (fun av pre rv h hp => ?_)
  · unfold t18; split <;> first | exact tabOk (mOne (n22 _) (mOne (n39 _) (mOne (n42 _) mNil))) | exact tabOk mNil
  · unfold t18; split <;> exact ⟨rfl, rfl⟩
  · unfold sClo at h; split at h <;> cases h
    exact ⟨rfl, fun t a e => by cases e <;> exact List.cons_ne_nil _ _⟩
  · unfold sClo at h; split at h <;> cases h
    exact v18 _ _ (hp _ (.head _))
theorem n18 (nm : List (Option AV)) : CallOk Try.prog [] 18 (genF EL nm [.r] sClo) := genNm c18
def t40 : List AV → Tab
  | [.r A a, .r B b] => tab [] [(0, .of (lSam a b 5))]
  | _ => tab [] []
theorem c40 : CallOk Try.prog [] 40 (genF EL [] [.r, .r] sSam) := by
  refine okT (fn := Try.f40) Try.func40 fo40 t40 (fun av => ?_) (fun av => ?_) (fun av pre rv h => ?_) (fun av pre rv h hp => ?_)
  · unfold t40; split <;> first | exact tabOk mNil | exact tabOk mNil
  · unfold t40; split <;> exact ⟨rfl, rfl⟩
  · unfold sSam at h; split at h <;> cases h
    exact ⟨rfl, fun t a e => by cases e <;> exact List.cons_ne_nil _ _⟩
  · unfold sSam at h; split at h <;> cases h
    exact v40 _ _ _ _ (hp _ (.head _))
theorem n40 (nm : List (Option AV)) : CallOk Try.prog [] 40 (genF EL nm [.r, .r] sSam) := genNm c40
def t16 : List AV → Tab
  | [.r A a, .r B b] => tab [kSam' []] []
  | _ => tab [] []
theorem c16 : CallOk Try.prog [] 16 (genF EL [] [.r, .r] sSam) := by
  refine okT (fn := Try.f16) Try.func16 fo16 t16 (fun av => ?_) (fun av => ?_) (fun av pre rv h => ?_) (fun av pre rv h hp => ?_)
  · unfold t16; split <;> first | exact tabOk (mOne (n40 _) mNil) | exact tabOk mNil
  · unfold t16; split <;> exact ⟨rfl, rfl⟩
  · unfold sSam at h; split at h <;> cases h
    exact ⟨rfl, fun t a e => by cases e <;> exact List.cons_ne_nil _ _⟩
  · unfold sSam at h; split at h <;> cases h
    exact v16 _ _ _ _ (hp _ (.head _)) (hp _ (.tail _ (.head _)))
theorem n16 (nm : List (Option AV)) : CallOk Try.prog [] 16 (genF EL nm [.r, .r] sSam) := genNm c16
def t13 : List AV → Tab
  | [.is a, .is b] => tab [] [(0, .of (lIsm a b 5))]
  | _ => tab [] []
theorem c13 : CallOk Try.prog [] 13 (genF EL [] [.is, .is] sInt) := by
  refine okT (fn := Try.f13) Try.func13 fo13 t13 (fun av => ?_) (fun av => ?_) (fun av pre rv h => ?_) (fun av pre rv h hp => ?_)
  · unfold t13; split <;> first | exact tabOk mNil | exact tabOk mNil
  · unfold t13; split <;> exact ⟨rfl, rfl⟩
  · unfold sInt at h; split at h <;> cases h
    exact ⟨rfl, fun t a e => by cases e <;> exact List.cons_ne_nil _ _⟩
  · unfold sInt at h; split at h <;> cases h
    exact v13 _ _ (hp _ (.head _))
theorem n13 (nm : List (Option AV)) : CallOk Try.prog [] 13 (genF EL nm [.is, .is] sInt) := genNm c13
end Go.Proofs.Ytcbmbnlgilampaa
