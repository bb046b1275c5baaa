/-
  The linext layer: the law LinextCount, walked.
-/
import Derived.Test.YtiokmglajigngaaU39
import Derived.Test.YtiokmglajigngaaU21
namespace Go.Proofs.Ytiokmglajigngaa
open Go Go.Proofs.Ytiokmglajigngaa.Sx
set_option maxRecDepth 100000
set_option linter.unusedSimpArgs false
set_option linter.unusedVariables false
theorem v5_eq (N : Int) (l : List Pq) : (fnVc (tab [kFew [], kCnt [], kDws [], kCnR [], kDwR [], kAwk []] []) Try.f5 [rlV N 0 l] [arP l] (plainIs .tt)) = (l.length = l.length ∧
 ((!(decide (N ≤ (8 : Int)) &&
 decide
 ((↑(mkN (fun (j : Nat) => ((nthD ((0 : Int), (0 : Int)) l j).fst, (nthD ((0 : Int), (0 : Int)) l j).snd))
 l.length).length :
 Int) ≤
 (60 : Int)))) =
 true →
 true = true) ∧
 ((!(decide (N ≤ (8 : Int)) &&
 decide
 ((↑(mkN (fun (j : Nat) => ((nthD ((0 : Int), (0 : Int)) l j).fst, (nthD ((0 : Int), (0 : Int)) l j).snd))
 l.length).length :
 Int) ≤
 (60 : Int)))) =
 false →
 l.length = l.length ∧
 (mkN (fun (j : Nat) => ((nthD ((0 : Int), (0 : Int)) l j).fst, (nthD ((0 : Int), (0 : Int)) l j).snd))
 l.length).length ≤
 (1099511627776 : Nat) ∧
 l.length = l.length ∧
 (mkN (fun (j : Nat) => ((nthD ((0 : Int), (0 : Int)) l j).fst, (nthD ((0 : Int), (0 : Int)) l j).snd))
 l.length).length ≤
 (1099511627776 : Nat) ∧
 N ≤ (9 : Int) ∧
 l.length = l.length ∧
 (mkN (fun (j : Nat) => ((nthD ((0 : Int), (0 : Int)) l j).fst, (nthD ((0 : Int), (0 : Int)) l j).snd))
 l.length).length ≤
 (1099511627776 : Nat) ∧
 l.length = l.length ∧
 (mkN
 (fun (j : Nat) =>
 ((nthD ((0 : Int), (0 : Int)) l j).fst, (nthD ((0 : Int), (0 : Int)) l j).snd))
 l.length).length ≤
 (1099511627776 : Nat) ∧
 N ≤ (9 : Int) ∧
 ((↑(dwnV N
 (mkN
 (fun (j : Nat) =>
 ((nthD ((0 : Int), (0 : Int)) l j).fst,
 (nthD ((0 : Int), (0 : Int)) l j).snd))
 l.length)) :
 Int) ==
 (↑(dwnV N
 (mkN
 (fun (j : Nat) =>
 ((nthD ((0 : Int), (0 : Int)) l j).fst,
 (nthD ((0 : Int), (0 : Int)) l j).snd))
 l.length)) :
 Int) &&
 dwnE N
 (mkN
 (fun (j : Nat) =>
 ((nthD ((0 : Int), (0 : Int)) l j).fst,
 (nthD ((0 : Int), (0 : Int)) l j).snd))
 l.length) ==
 dwnE N
 (mkN
 (fun (j : Nat) =>
 ((nthD ((0 : Int), (0 : Int)) l j).fst,
 (nthD ((0 : Int), (0 : Int)) l j).snd))
 l.length) &&
 (↑(cntV N
 (mkN
 (fun (j : Nat) =>
 ((nthD ((0 : Int), (0 : Int)) l j).fst,
 (nthD ((0 : Int), (0 : Int)) l j).snd))
 l.length)) :
 Int) ==
 (↑(cntV N
 (mkN
 (fun (j : Nat) =>
 ((nthD ((0 : Int), (0 : Int)) l j).fst,
 (nthD ((0 : Int), (0 : Int)) l j).snd))
 l.length)) :
 Int) &&
 cntE N
 (mkN
 (fun (j : Nat) =>
 ((nthD ((0 : Int), (0 : Int)) l j).fst, (nthD ((0 : Int), (0 : Int)) l j).snd))
 l.length) ==
 cntE N
 (mkN
 (fun (j : Nat) =>
 ((nthD ((0 : Int), (0 : Int)) l j).fst, (nthD ((0 : Int), (0 : Int)) l j).snd))
 l.length)) =
 true)) := by kernel_rfl
theorem v5 (N : Int) (l : List Pq)  : fnVc (tab [kFew [], kCnt [], kDws [], kCnR [], kDwR [], kAwk []] []) Try.f5 [rlV N 0 l] [arP l] (plainIs .tt) := by
  rw [v5_eq]
  simp only [eq_self, true_and, and_true, implies_true, imp_self, mkN_ps, mkN_self, mkN_len, PLoop.of, lCnt, Nat.zero_add, AV.len]
  intro h
  have h : (decide (N ≤ 8) && decide ((l.length : Int) ≤ 60)) = true := by simpa using h
  rw [Bool.and_eq_true] at h
  have h1 := of_decide_eq_true h.1
  have h2 := of_decide_eq_true h.2
  refine ⟨by omega, by omega, by omega, by omega, by omega, by omega, ?_⟩
  simp

end Go.Proofs.Ytiokmglajigngaa
