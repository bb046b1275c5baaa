/-
  A part of the proof (U22).
-/
import Derived.Test.YtiokmglajigngaaU21
namespace Go.Proofs.Ytiokmglajigngaa
open Go Go.Proofs.Ytiokmglajigngaa.Sx
set_option maxRecDepth 100000
set_option linter.unusedSimpArgs false
set_option linter.unusedVariables false

theorem fst_len {N : Int} {l : List Pq} : (fstL N l).length ≤ 64 := by
  rw [fstL]
  cases h : okP N l
  · exact Nat.zero_le _
  · have hv : validF N l = true := by rw [okP, Bool.and_eq_true] at h; exact h.1
    have := (validF_iff.1 hv).2.1
    have h2 := (rfL_ok h N.toNat (Nat.le_refl _)).1
    rw [cond_true, h2]; omega
theorem v3_eq (N : Int) (l : List Pq) (o : List Int) : (fnVc (tab [kFew [], kAwk [], kFst [], kFst' [], kIs [], kIs' [], kInt []] []) Try.f3 [rlV N 0 l, .sl 1 o.length] [arP l, arI o] (plainIs .tt)) = (l.length = l.length ∧
 ((!(decide (N ≤ (12 : Int)) &&
 decide
 ((↑(mkN
 (fun (j : Nat) =>
 ((nthD ((0 : Int), (0 : Int)) l j).fst, (nthD ((0 : Int), (0 : Int)) l j).snd))
 l.length).length :
 Int) ≤
 (60 : Int))) ||
 decide ((↑o.length : Int) > (30 : Int))) =
 true →
 true = true) ∧
 ((!(decide (N ≤ (12 : Int)) &&
 decide
 ((↑(mkN
 (fun (j : Nat) =>
 ((nthD ((0 : Int), (0 : Int)) l j).fst, (nthD ((0 : Int), (0 : Int)) l j).snd))
 l.length).length :
 Int) ≤
 (60 : Int))) ||
 decide ((↑o.length : Int) > (30 : Int))) =
 false →
 l.length = l.length ∧
 (mkN (fun (j : Nat) => ((nthD ((0 : Int), (0 : Int)) l j).fst, (nthD ((0 : Int), (0 : Int)) l j).snd))
 l.length).length ≤
 (1099511627776 : Nat) ∧
 l.length = l.length ∧
 (mkN (fun (j : Nat) => ((nthD ((0 : Int), (0 : Int)) l j).fst, (nthD ((0 : Int), (0 : Int)) l j).snd))
 l.length).length ≤
 (1099511627776 : Nat) ∧
 l.length = l.length ∧
 o.length = o.length ∧
 (mkN (fun (j : Nat) => ((nthD ((0 : Int), (0 : Int)) l j).fst, (nthD ((0 : Int), (0 : Int)) l j).snd))
 l.length).length ≤
 (1099511627776 : Nat) ∧
 (mkN (nthD (0 : Int) o) o.length).length ≤ (1099511627776 : Nat) ∧
 l.length = l.length ∧
 o.length = o.length ∧
 (mkN
 (fun (j : Nat) =>
 ((nthD ((0 : Int), (0 : Int)) l j).fst, (nthD ((0 : Int), (0 : Int)) l j).snd))
 l.length).length ≤
 (1099511627776 : Nat) ∧
 (mkN (nthD (0 : Int) o) o.length).length ≤ (1099511627776 : Nat) ∧
 ((isX N
 (mkN
 (fun (j : Nat) =>
 ((nthD ((0 : Int), (0 : Int)) l j).fst,
 (nthD ((0 : Int), (0 : Int)) l j).snd))
 l.length)
 (mkN (nthD (0 : Int) o) o.length) ==
 isX N
 (mkN
 (fun (j : Nat) =>
 ((nthD ((0 : Int), (0 : Int)) l j).fst,
 (nthD ((0 : Int), (0 : Int)) l j).snd))
 l.length)
 (mkN (nthD (0 : Int) o) o.length)) =
 true →
 (AV.is
 (fstL N
 (mkN
 (fun (j : Nat) =>
 ((nthD ((0 : Int), (0 : Int)) l j).fst,
 (nthD ((0 : Int), (0 : Int)) l j).snd))
 l.length))).len =
 (AV.is
 (fstL N
 (mkN
 (fun (j : Nat) =>
 ((nthD ((0 : Int), (0 : Int)) l j).fst,
 (nthD ((0 : Int), (0 : Int)) l j).snd))
 l.length))).len) ∧
 ((isX N
 (mkN
 (fun (j : Nat) =>
 ((nthD ((0 : Int), (0 : Int)) l j).fst,
 (nthD ((0 : Int), (0 : Int)) l j).snd))
 l.length)
 (mkN (nthD (0 : Int) o) o.length) ==
 isX N
 (mkN
 (fun (j : Nat) =>
 ((nthD ((0 : Int), (0 : Int)) l j).fst,
 (nthD ((0 : Int), (0 : Int)) l j).snd))
 l.length)
 (mkN (nthD (0 : Int) o) o.length)) =
 true →
 (AV.is
 (fstL N
 (mkN
 (fun (j : Nat) =>
 ((nthD ((0 : Int), (0 : Int)) l j).fst,
 (nthD ((0 : Int), (0 : Int)) l j).snd))
 l.length))).len =
 (AV.is
 (fstL N
 (mkN
 (fun (j : Nat) =>
 ((nthD ((0 : Int), (0 : Int)) l j).fst,
 (nthD ((0 : Int), (0 : Int)) l j).snd))
 l.length))).len) ∧
 ((isX N
 (mkN
 (fun (j : Nat) =>
 ((nthD ((0 : Int), (0 : Int)) l j).fst,
 (nthD ((0 : Int), (0 : Int)) l j).snd))
 l.length)
 (mkN (nthD (0 : Int) o) o.length) ==
 isX N
 (mkN
 (fun (j : Nat) =>
 ((nthD ((0 : Int), (0 : Int)) l j).fst,
 (nthD ((0 : Int), (0 : Int)) l j).snd))
 l.length)
 (mkN (nthD (0 : Int) o) o.length)) =
 true →
 (mkN
 (nthD (0 : Int)
 (fstL N
 (mkN
 (fun (j : Nat) =>
 ((nthD ((0 : Int), (0 : Int)) l j).fst,
 (nthD ((0 : Int), (0 : Int)) l j).snd))
 l.length)))
 (AV.is
 (fstL N
 (mkN
 (fun (j : Nat) =>
 ((nthD ((0 : Int), (0 : Int)) l j).fst,
 (nthD ((0 : Int), (0 : Int)) l j).snd))
 l.length))).len).length ≤
 (1099511627776 : Nat)) ∧
 ((isX N
 (mkN
 (fun (j : Nat) =>
 ((nthD ((0 : Int), (0 : Int)) l j).fst,
 (nthD ((0 : Int), (0 : Int)) l j).snd))
 l.length)
 (mkN (nthD (0 : Int) o) o.length) ==
 isX N
 (mkN
 (fun (j : Nat) =>
 ((nthD ((0 : Int), (0 : Int)) l j).fst,
 (nthD ((0 : Int), (0 : Int)) l j).snd))
 l.length)
 (mkN (nthD (0 : Int) o) o.length)) =
 true →
 (mkN
 (nthD (0 : Int)
 (fstL N
 (mkN
 (fun (j : Nat) =>
 ((nthD ((0 : Int), (0 : Int)) l j).fst,
 (nthD ((0 : Int), (0 : Int)) l j).snd))
 l.length)))
 (AV.is
 (fstL N
 (mkN
 (fun (j : Nat) =>
 ((nthD ((0 : Int), (0 : Int)) l j).fst,
 (nthD ((0 : Int), (0 : Int)) l j).snd))
 l.length))).len).length ≤
 (1099511627776 : Nat)) ∧
 (isX N
 (mkN
 (fun (j : Nat) =>
 ((nthD ((0 : Int), (0 : Int)) l j).fst,
 (nthD ((0 : Int), (0 : Int)) l j).snd))
 l.length)
 (mkN (nthD (0 : Int) o) o.length) ==
 isX N
 (mkN
 (fun (j : Nat) =>
 ((nthD ((0 : Int), (0 : Int)) l j).fst,
 (nthD ((0 : Int), (0 : Int)) l j).snd))
 l.length)
 (mkN (nthD (0 : Int) o) o.length) &&
 decide
 (mkN
 (nthD (0 : Int)
 (fstL N
 (mkN
 (fun (j : Nat) =>
 ((nthD ((0 : Int), (0 : Int)) l j).fst,
 (nthD ((0 : Int), (0 : Int)) l j).snd))
 l.length)))
 (AV.is
 (fstL N
 (mkN
 (fun (j : Nat) =>
 ((nthD ((0 : Int), (0 : Int)) l j).fst,
 (nthD ((0 : Int), (0 : Int)) l j).snd))
 l.length))).len =
 mkN
 (nthD (0 : Int)
 (fstL N
 (mkN
 (fun (j : Nat) =>
 ((nthD ((0 : Int), (0 : Int)) l j).fst,
 (nthD ((0 : Int), (0 : Int)) l j).snd))
 l.length)))
 (AV.is
 (fstL N
 (mkN
 (fun (j : Nat) =>
 ((nthD ((0 : Int), (0 : Int)) l j).fst,
 (nthD ((0 : Int), (0 : Int)) l j).snd))
 l.length))).len) &&
 errP N
 (mkN
 (fun (j : Nat) =>
 ((nthD ((0 : Int), (0 : Int)) l j).fst,
 (nthD ((0 : Int), (0 : Int)) l j).snd))
 l.length) ==
 errP N
 (mkN
 (fun (j : Nat) =>
 ((nthD ((0 : Int), (0 : Int)) l j).fst,
 (nthD ((0 : Int), (0 : Int)) l j).snd))
 l.length)) =
 true)) := by kernel_rfl
theorem v3 (N : Int) (l : List Pq) (o : List Int)  : fnVc (tab [kFew [], kAwk [], kFst [], kFst' [], kIs [], kIs' [], kInt []] []) Try.f3 [rlV N 0 l, .sl 1 o.length] [arP l, arI o] (plainIs .tt) := by
  rw [v3_eq]
  simp only [eq_self, true_and, and_true, implies_true, imp_self, mkN_ps, mkN_rs, mkN_self, mkN_len, PLoop.of, lCnt, AV.len]
  refine fun h => ?_
  rw [Bool.or_eq_false_iff] at h
  have h1 : (decide (N ≤ 12) && decide ((l.length : Int) ≤ 60)) = true := by simpa using h.1
  rw [Bool.and_eq_true] at h1
  have hl : l.length ≤ 60 := by have := of_decide_eq_true h1.2; omega
  have ho : o.length ≤ 30 := by have := of_decide_eq_false h.2; omega
  have hf := fst_len (N := N) (l := l)
  exact ⟨by omega, by omega, by omega, by omega, by omega, by omega, fun _ => by omega, fun _ => by omega, by simp⟩

end Go.Proofs.Ytiokmglajigngaa
