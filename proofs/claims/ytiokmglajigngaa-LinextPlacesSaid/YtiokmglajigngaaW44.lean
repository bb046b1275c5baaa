/-
  The linext layer: the reference's relation that forces a prefix, walked.
-/
import Derived.Test.YtiokmglajigngaaW41
namespace Go.Proofs.Ytiokmglajigngaa
open Go Go.Proofs.Ytiokmglajigngaa.Sx
set_option maxRecDepth 100000
set_option linter.unusedSimpArgs false
set_option linter.unusedVariables false
theorem and3 {p : Prop} (h : p) : p ∧ p ∧ p := ⟨h, h, h⟩
theorem aftR_len {pre : List Int} {i : Nat} : ∀ k, (aftR pre i k).length ≤ k := by
  intro k
  induction k with
  | zero => exact Nat.le_refl _
  | succ k ih =>
    rw [aftR, List.length_append]
    cases behB pre i k <;> simp <;> omega
theorem aftL_len {N : Int} {l : List Pq} {pre : List Int} (hN : N ≤ 64) : ∀ i, (aftL N l pre i).length ≤ l.length + i * 64 := by
  intro i
  induction i with
  | zero => simp [aftL]
  | succ i ih =>
    rw [aftL, List.length_append]
    have := aftR_len (pre := pre) (i := i) N.toNat
    omega
theorem v46_eq (N : Int) (l : List Pq) (pre : List Int) : (fnVc (tab [kPos [none, some (.is pre)]] [(0, .of (lAf0 N l pre)), (2, lAf2 N l pre)]) Try.f46 [rlV N 0 l, .sl 1 pre.length] [arP l, arI pre] (resIs (.agg [.i .i64 N, .sl 0 (aftP N l pre).length]) 40 (aftP N l pre).length (psCols (aftP N l pre)))) = (((0 : Nat) = (0 : Nat) ∧
 l.length = l.length ∧
 ((0 : Nat) + l.length) * (16 : Nat) ≤ (140737488355328 : Nat) ∧
 (0 : Nat) + l.length ≤ (9223372036854775807 : Nat) ∧
 ∃ (x : PUnit),
 (∃ (x : Nat),
 x ≤ pre.length ∧
 ((0 : Int) = (↑x : Int) ∧ True) ∧
 ((0 : Nat) + l.length = (aftL N l pre x).length ∧
 (∀ (j : Nat),
 j < (aftL N l pre x).length →
 (nthD ((0 : Int), (0 : Int)) l j).fst =
 (nthD ((0 : Int), (0 : Int)) (aftL N l pre x) j).fst) ∧
 (∀ (j : Nat),
 j < (aftL N l pre x).length →
 (nthD ((0 : Int), (0 : Int)) l j).snd =
 (nthD ((0 : Int), (0 : Int)) (aftL N l pre x) j).snd) ∧
 True) ∧
 (N = N ∧ (0 : Nat) + l.length = (aftL N l pre x).length) ∧ True) ∧
 ∀ (x_1 : Nat),
 x_1 ≤ pre.length →
 (decide ((↑x_1 : Int) < (↑pre.length : Int)) = true →
 ∃ (x_2 : Nat),
 (∃ (x : Nat),
 (x ≤ N.toNat ∧ x_2 < pre.length) ∧
 ((0 : Int) = (↑x : Int) ∧ True) ∧
 ((aftL N l pre x_1).length = (aftL N l pre x_2 ++ aftR pre x_2 x).length ∧
 (∀ (j : Nat),
 j < (aftL N l pre x_2 ++ aftR pre x_2 x).length →
 (nthD ((0 : Int), (0 : Int)) (aftL N l pre x_1) j).fst =
 (nthD ((0 : Int), (0 : Int)) (aftL N l pre x_2 ++ aftR pre x_2 x) j).fst) ∧
 (∀ (j : Nat),
 j < (aftL N l pre x_2 ++ aftR pre x_2 x).length →
 (nthD ((0 : Int), (0 : Int)) (aftL N l pre x_1) j).snd =
 (nthD ((0 : Int), (0 : Int)) (aftL N l pre x_2 ++ aftR pre x_2 x)
 j).snd) ∧
 True) ∧
 (N = N ∧ (aftL N l pre x_1).length = (aftL N l pre x_2 ++ aftR pre x_2 x).length) ∧
 True) ∧
 ∀ (x_3 : Nat),
 x_3 ≤ N.toNat ∧ x_2 < pre.length →
 (decide ((↑x_3 : Int) < N) = true →
 pre.length = pre.length ∧
 mkN (nthD (0 : Int) pre) pre.length = pre ∧
 pre.length ≤ (1099511627776 : Nat) ∧
 ((decide (posI (↑x_3 : Int) pre (0 : Int) < (0 : Int)) ||
 decide (posI (↑x_3 : Int) pre (0 : Int) > (↑x_1 : Int))) =
 true →
 ((0 : Int) ≤ (↑x_1 : Int) ∧ (↑x_1 : Int) < (↑pre.length : Int)) ∧
 x_1 < pre.length ∧
 (aftL N l pre x_2 ++ aftR pre x_2 x_3).length =
 (aftL N l pre x_2 ++ aftR pre x_2 x_3).length ∧
 (1 : Nat) = (1 : Nat) ∧
 ((aftL N l pre x_2 ++ aftR pre x_2 x_3).length + (1 : Nat)) *
 (16 : Nat) ≤
 (140737488355328 : Nat) ∧
 (aftL N l pre x_2 ++ aftR pre x_2 x_3).length + (1 : Nat) ≤
 (9223372036854775807 : Nat) ∧
 ∃ (x : Nat),
 (x ≤ N.toNat ∧ x_2 < pre.length) ∧
 ((lAf2 N l pre).ann x_2).mu x <
 ((lAf2 N l pre).ann x_2).mu x_3 ∧
 ((N = N ∧ l.length = l.length) ∧
 pre.length = pre.length ∧
 True ∧
 True ∧
 True ∧
 (↑x_1 : Int) = (↑x_1 : Int) ∧
 IntKind.i64.wrap
 ((↑x_3 : Int) + (1 : Int)) =
 (↑x : Int) ∧
 True ∧
 N = N ∧
 True ∧
 l.length = l.length ∧
 (↑x_1 : Int) = (↑x_1 : Int) ∧
 pre.length = pre.length ∧
 (↑pre.length : Int) =
 (↑pre.length : Int) ∧
 true = true ∧ True) ∧
 (l.length = l.length ∧
 (∀ (j : Nat),
 j < l.length →
 (nthD ((0 : Int), (0 : Int)) l j).fst =
 (nthD ((0 : Int), (0 : Int)) l j).fst) ∧
 (∀ (j : Nat),
 j < l.length →
 (nthD ((0 : Int), (0 : Int)) l j).snd =
 (nthD ((0 : Int), (0 : Int)) l j).snd) ∧
 True) ∧
 (pre.length = pre.length ∧
 (∀ (j : Nat),
 j < pre.length →
 nthD (0 : Int) pre j =
 nthD (0 : Int) pre j) ∧
 True) ∧
 (N = N ∧ l.length = l.length) ∧
 ((0 : Int) = (0 : Int) ∧ True) ∧
 ((aftL N l pre x_2 ++ aftR pre x_2 x_3).length +
 (1 : Nat) =
 (aftL N l pre x_2 ++
 aftR pre x_2 x).length ∧
 (∀ (j : Nat),
 j <
 (aftL N l pre x_2 ++
 aftR pre x_2 x).length →
 (bif
 j.blt
 (aftL N l pre x_2 ++
 aftR pre x_2
 x_3).length then
 (nthD ((0 : Int), (0 : Int))
 (aftL N l pre x_2 ++
 aftR pre x_2 x_3)
 j).fst
 else
 pickI [nthD (0 : Int) pre x_1]
 (j -
 (aftL N l pre x_2 ++
 aftR pre x_2
 x_3).length)) =
 (nthD ((0 : Int), (0 : Int))
 (aftL N l pre x_2 ++
 aftR pre x_2 x)
 j).fst) ∧
 (∀ (j : Nat),
 j <
 (aftL N l pre x_2 ++
 aftR pre x_2 x).length →
 (bif
 j.blt
 (aftL N l pre x_2 ++
 aftR pre x_2
 x_3).length then
 (nthD ((0 : Int), (0 : Int))
 (aftL N l pre x_2 ++
 aftR pre x_2 x_3)
 j).snd
 else
 pickI [(↑x_3 : Int)]
 (j -
 (aftL N l pre x_2 ++
 aftR pre x_2
 x_3).length)) =
 (nthD ((0 : Int), (0 : Int))
 (aftL N l pre x_2 ++
 aftR pre x_2 x)
 j).snd) ∧
 True) ∧
 (N = N ∧
 (aftL N l pre x_2 ++
 aftR pre x_2 x_3).length +
 (1 : Nat) =
 (aftL N l pre x_2 ++
 aftR pre x_2 x).length) ∧
 True) ∧
 ((decide (posI (↑x_3 : Int) pre (0 : Int) < (0 : Int)) ||
 decide (posI (↑x_3 : Int) pre (0 : Int) > (↑x_1 : Int))) =
 false →
 ∃ (x : Nat),
 (x ≤ N.toNat ∧ x_2 < pre.length) ∧
 ((lAf2 N l pre).ann x_2).mu x < ((lAf2 N l pre).ann x_2).mu x_3 ∧
 ((N = N ∧ l.length = l.length) ∧
 pre.length = pre.length ∧
 True ∧
 True ∧
 True ∧
 (↑x_1 : Int) = (↑x_1 : Int) ∧
 IntKind.i64.wrap ((↑x_3 : Int) + (1 : Int)) =
 (↑x : Int) ∧
 True ∧
 N = N ∧
 True ∧
 l.length = l.length ∧
 (↑x_1 : Int) = (↑x_1 : Int) ∧
 pre.length = pre.length ∧
 (↑pre.length : Int) =
 (↑pre.length : Int) ∧
 true = true ∧ True) ∧
 (l.length = l.length ∧
 (∀ (j : Nat),
 j < l.length →
 (nthD ((0 : Int), (0 : Int)) l j).fst =
 (nthD ((0 : Int), (0 : Int)) l j).fst) ∧
 (∀ (j : Nat),
 j < l.length →
 (nthD ((0 : Int), (0 : Int)) l j).snd =
 (nthD ((0 : Int), (0 : Int)) l j).snd) ∧
 True) ∧
 (pre.length = pre.length ∧
 (∀ (j : Nat),
 j < pre.length →
 nthD (0 : Int) pre j = nthD (0 : Int) pre j) ∧
 True) ∧
 (N = N ∧ l.length = l.length) ∧
 ((0 : Int) = (0 : Int) ∧ True) ∧
 ((aftL N l pre x_2 ++ aftR pre x_2 x_3).length =
 (aftL N l pre x_2 ++ aftR pre x_2 x).length ∧
 (∀ (j : Nat),
 j < (aftL N l pre x_2 ++ aftR pre x_2 x).length →
 (nthD ((0 : Int), (0 : Int))
 (aftL N l pre x_2 ++ aftR pre x_2 x_3)
 j).fst =
 (nthD ((0 : Int), (0 : Int))
 (aftL N l pre x_2 ++ aftR pre x_2 x)
 j).fst) ∧
 (∀ (j : Nat),
 j < (aftL N l pre x_2 ++ aftR pre x_2 x).length →
 (nthD ((0 : Int), (0 : Int))
 (aftL N l pre x_2 ++ aftR pre x_2 x_3)
 j).snd =
 (nthD ((0 : Int), (0 : Int))
 (aftL N l pre x_2 ++ aftR pre x_2 x)
 j).snd) ∧
 True) ∧
 (N = N ∧
 (aftL N l pre x_2 ++ aftR pre x_2 x_3).length =
 (aftL N l pre x_2 ++ aftR pre x_2 x).length) ∧
 True)) ∧
 (decide ((↑x_3 : Int) < N) = false →
 ∃ (x_4 : Nat),
 x_4 ≤ pre.length ∧
 ((PLoop.of (lAf0 N l pre)).ann x).mu x_4 <
 ((PLoop.of (lAf0 N l pre)).ann x).mu x_1 ∧
 ((N = N ∧ l.length = l.length) ∧
 pre.length = pre.length ∧
 True ∧
 True ∧
 True ∧
 IntKind.i64.wrap ((↑x_1 : Int) + (1 : Int)) = (↑x_4 : Int) ∧
 True ∧ N = N ∧ True ∧ l.length = l.length ∧ True) ∧
 (l.length = l.length ∧
 (∀ (j : Nat),
 j < l.length →
 (nthD ((0 : Int), (0 : Int)) l j).fst =
 (nthD ((0 : Int), (0 : Int)) l j).fst) ∧
 (∀ (j : Nat),
 j < l.length →
 (nthD ((0 : Int), (0 : Int)) l j).snd =
 (nthD ((0 : Int), (0 : Int)) l j).snd) ∧
 True) ∧
 (pre.length = pre.length ∧
 (∀ (j : Nat),
 j < pre.length → nthD (0 : Int) pre j = nthD (0 : Int) pre j) ∧
 True) ∧
 (N = N ∧ l.length = l.length) ∧
 ((0 : Int) = (0 : Int) ∧ True) ∧
 ((aftL N l pre x_2 ++ aftR pre x_2 x_3).length =
 (aftL N l pre x_4).length ∧
 (∀ (j : Nat),
 j < (aftL N l pre x_4).length →
 (nthD ((0 : Int), (0 : Int))
 (aftL N l pre x_2 ++ aftR pre x_2 x_3) j).fst =
 (nthD ((0 : Int), (0 : Int)) (aftL N l pre x_4) j).fst) ∧
 (∀ (j : Nat),
 j < (aftL N l pre x_4).length →
 (nthD ((0 : Int), (0 : Int))
 (aftL N l pre x_2 ++ aftR pre x_2 x_3) j).snd =
 (nthD ((0 : Int), (0 : Int)) (aftL N l pre x_4)
 j).snd) ∧
 True) ∧
 (N = N ∧
 (aftL N l pre x_2 ++ aftR pre x_2 x_3).length =
 (aftL N l pre x_4).length) ∧
 True)) ∧
 (decide ((↑x_1 : Int) < (↑pre.length : Int)) = false →
 (aftL N l pre x_1).length = (aftP N l pre).length ∧
 ((∀ (j : Nat),
 j < (aftP N l pre).length →
 (nthD ((0 : Int), (0 : Int)) (aftL N l pre x_1) j).fst =
 (nthD ((0 : Int), (0 : Int)) (aftP N l pre) j).fst) ∧
 (∀ (j : Nat),
 j < (aftP N l pre).length →
 (nthD ((0 : Int), (0 : Int)) (aftL N l pre x_1) j).snd =
 (nthD ((0 : Int), (0 : Int)) (aftP N l pre) j).snd) ∧
 True) ∧
 N = N ∧ (aftL N l pre x_1).length = (aftP N l pre).length ∧ True)) ∧
 ((0 : Nat) = (0 : Nat) ∧
 l.length = l.length ∧
 ((0 : Nat) + l.length) * (16 : Nat) ≤ (140737488355328 : Nat) ∧
 (0 : Nat) + l.length ≤ (9223372036854775807 : Nat) ∧
 ∃ (x : PUnit),
 (∃ (x : Nat),
 x ≤ pre.length ∧
 ((0 : Int) = (↑x : Int) ∧ True) ∧
 ((0 : Nat) + l.length = (aftL N l pre x).length ∧
 (∀ (j : Nat),
 j < (aftL N l pre x).length →
 (nthD ((0 : Int), (0 : Int)) l j).fst =
 (nthD ((0 : Int), (0 : Int)) (aftL N l pre x) j).fst) ∧
 (∀ (j : Nat),
 j < (aftL N l pre x).length →
 (nthD ((0 : Int), (0 : Int)) l j).snd =
 (nthD ((0 : Int), (0 : Int)) (aftL N l pre x) j).snd) ∧
 True) ∧
 (N = N ∧ (0 : Nat) + l.length = (aftL N l pre x).length) ∧ True) ∧
 ∀ (x_1 : Nat),
 x_1 ≤ pre.length →
 (decide ((↑x_1 : Int) < (↑pre.length : Int)) = true →
 ∃ (x_2 : Nat),
 (∃ (x : Nat),
 (x ≤ N.toNat ∧ x_2 < pre.length) ∧
 ((0 : Int) = (↑x : Int) ∧ True) ∧
 ((aftL N l pre x_1).length = (aftL N l pre x_2 ++ aftR pre x_2 x).length ∧
 (∀ (j : Nat),
 j < (aftL N l pre x_2 ++ aftR pre x_2 x).length →
 (nthD ((0 : Int), (0 : Int)) (aftL N l pre x_1) j).fst =
 (nthD ((0 : Int), (0 : Int)) (aftL N l pre x_2 ++ aftR pre x_2 x)
 j).fst) ∧
 (∀ (j : Nat),
 j < (aftL N l pre x_2 ++ aftR pre x_2 x).length →
 (nthD ((0 : Int), (0 : Int)) (aftL N l pre x_1) j).snd =
 (nthD ((0 : Int), (0 : Int)) (aftL N l pre x_2 ++ aftR pre x_2 x)
 j).snd) ∧
 True) ∧
 (N = N ∧ (aftL N l pre x_1).length = (aftL N l pre x_2 ++ aftR pre x_2 x).length) ∧
 True) ∧
 ∀ (x_3 : Nat),
 x_3 ≤ N.toNat ∧ x_2 < pre.length →
 (decide ((↑x_3 : Int) < N) = true →
 pre.length = pre.length ∧
 mkN (nthD (0 : Int) pre) pre.length = pre ∧
 pre.length ≤ (1099511627776 : Nat) ∧
 ((decide (posI (↑x_3 : Int) pre (0 : Int) < (0 : Int)) ||
 decide (posI (↑x_3 : Int) pre (0 : Int) > (↑x_1 : Int))) =
 true →
 ((0 : Int) ≤ (↑x_1 : Int) ∧ (↑x_1 : Int) < (↑pre.length : Int)) ∧
 x_1 < pre.length ∧
 (aftL N l pre x_2 ++ aftR pre x_2 x_3).length =
 (aftL N l pre x_2 ++ aftR pre x_2 x_3).length ∧
 (1 : Nat) = (1 : Nat) ∧
 ((aftL N l pre x_2 ++ aftR pre x_2 x_3).length + (1 : Nat)) *
 (16 : Nat) ≤
 (140737488355328 : Nat) ∧
 (aftL N l pre x_2 ++ aftR pre x_2 x_3).length + (1 : Nat) ≤
 (9223372036854775807 : Nat) ∧
 ∃ (x : Nat),
 (x ≤ N.toNat ∧ x_2 < pre.length) ∧
 ((lAf2 N l pre).ann x_2).mu x <
 ((lAf2 N l pre).ann x_2).mu x_3 ∧
 ((N = N ∧ l.length = l.length) ∧
 pre.length = pre.length ∧
 True ∧
 True ∧
 True ∧
 (↑x_1 : Int) = (↑x_1 : Int) ∧
 IntKind.i64.wrap
 ((↑x_3 : Int) + (1 : Int)) =
 (↑x : Int) ∧
 True ∧
 N = N ∧
 True ∧
 l.length = l.length ∧
 (↑x_1 : Int) = (↑x_1 : Int) ∧
 pre.length = pre.length ∧
 (↑pre.length : Int) =
 (↑pre.length : Int) ∧
 true = true ∧ True) ∧
 (l.length = l.length ∧
 (∀ (j : Nat),
 j < l.length →
 (nthD ((0 : Int), (0 : Int)) l j).fst =
 (nthD ((0 : Int), (0 : Int)) l j).fst) ∧
 (∀ (j : Nat),
 j < l.length →
 (nthD ((0 : Int), (0 : Int)) l j).snd =
 (nthD ((0 : Int), (0 : Int)) l j).snd) ∧
 True) ∧
 (pre.length = pre.length ∧
 (∀ (j : Nat),
 j < pre.length →
 nthD (0 : Int) pre j =
 nthD (0 : Int) pre j) ∧
 True) ∧
 (N = N ∧ l.length = l.length) ∧
 ((0 : Int) = (0 : Int) ∧ True) ∧
 ((aftL N l pre x_2 ++
 aftR pre x_2 x_3).length +
 (1 : Nat) =
 (aftL N l pre x_2 ++
 aftR pre x_2 x).length ∧
 (∀ (j : Nat),
 j <
 (aftL N l pre x_2 ++
 aftR pre x_2 x).length →
 (bif
 j.blt
 (aftL N l pre x_2 ++
 aftR pre x_2
 x_3).length then
 (nthD ((0 : Int), (0 : Int))
 (aftL N l pre x_2 ++
 aftR pre x_2 x_3)
 j).fst
 else
 pickI [nthD (0 : Int) pre x_1]
 (j -
 (aftL N l pre x_2 ++
 aftR pre x_2
 x_3).length)) =
 (nthD ((0 : Int), (0 : Int))
 (aftL N l pre x_2 ++
 aftR pre x_2 x)
 j).fst) ∧
 (∀ (j : Nat),
 j <
 (aftL N l pre x_2 ++
 aftR pre x_2 x).length →
 (bif
 j.blt
 (aftL N l pre x_2 ++
 aftR pre x_2
 x_3).length then
 (nthD ((0 : Int), (0 : Int))
 (aftL N l pre x_2 ++
 aftR pre x_2 x_3)
 j).snd
 else
 pickI [(↑x_3 : Int)]
 (j -
 (aftL N l pre x_2 ++
 aftR pre x_2
 x_3).length)) =
 (nthD ((0 : Int), (0 : Int))
 (aftL N l pre x_2 ++
 aftR pre x_2 x)
 j).snd) ∧
 True) ∧
 (N = N ∧
 (aftL N l pre x_2 ++
 aftR pre x_2 x_3).length +
 (1 : Nat) =
 (aftL N l pre x_2 ++
 aftR pre x_2 x).length) ∧
 True) ∧
 ((decide (posI (↑x_3 : Int) pre (0 : Int) < (0 : Int)) ||
 decide (posI (↑x_3 : Int) pre (0 : Int) > (↑x_1 : Int))) =
 false →
 ∃ (x : Nat),
 (x ≤ N.toNat ∧ x_2 < pre.length) ∧
 ((lAf2 N l pre).ann x_2).mu x < ((lAf2 N l pre).ann x_2).mu x_3 ∧
 ((N = N ∧ l.length = l.length) ∧
 pre.length = pre.length ∧
 True ∧
 True ∧
 True ∧
 (↑x_1 : Int) = (↑x_1 : Int) ∧
 IntKind.i64.wrap ((↑x_3 : Int) + (1 : Int)) =
 (↑x : Int) ∧
 True ∧
 N = N ∧
 True ∧
 l.length = l.length ∧
 (↑x_1 : Int) = (↑x_1 : Int) ∧
 pre.length = pre.length ∧
 (↑pre.length : Int) =
 (↑pre.length : Int) ∧
 true = true ∧ True) ∧
 (l.length = l.length ∧
 (∀ (j : Nat),
 j < l.length →
 (nthD ((0 : Int), (0 : Int)) l j).fst =
 (nthD ((0 : Int), (0 : Int)) l j).fst) ∧
 (∀ (j : Nat),
 j < l.length →
 (nthD ((0 : Int), (0 : Int)) l j).snd =
 (nthD ((0 : Int), (0 : Int)) l j).snd) ∧
 True) ∧
 (pre.length = pre.length ∧
 (∀ (j : Nat),
 j < pre.length →
 nthD (0 : Int) pre j = nthD (0 : Int) pre j) ∧
 True) ∧
 (N = N ∧ l.length = l.length) ∧
 ((0 : Int) = (0 : Int) ∧ True) ∧
 ((aftL N l pre x_2 ++ aftR pre x_2 x_3).length =
 (aftL N l pre x_2 ++ aftR pre x_2 x).length ∧
 (∀ (j : Nat),
 j < (aftL N l pre x_2 ++ aftR pre x_2 x).length →
 (nthD ((0 : Int), (0 : Int))
 (aftL N l pre x_2 ++ aftR pre x_2 x_3)
 j).fst =
 (nthD ((0 : Int), (0 : Int))
 (aftL N l pre x_2 ++ aftR pre x_2 x)
 j).fst) ∧
 (∀ (j : Nat),
 j <
 (aftL N l pre x_2 ++
 aftR pre x_2 x).length →
 (nthD ((0 : Int), (0 : Int))
 (aftL N l pre x_2 ++ aftR pre x_2 x_3)
 j).snd =
 (nthD ((0 : Int), (0 : Int))
 (aftL N l pre x_2 ++ aftR pre x_2 x)
 j).snd) ∧
 True) ∧
 (N = N ∧
 (aftL N l pre x_2 ++ aftR pre x_2 x_3).length =
 (aftL N l pre x_2 ++ aftR pre x_2 x).length) ∧
 True)) ∧
 (decide ((↑x_3 : Int) < N) = false →
 ∃ (x_4 : Nat),
 x_4 ≤ pre.length ∧
 ((PLoop.of (lAf0 N l pre)).ann x).mu x_4 <
 ((PLoop.of (lAf0 N l pre)).ann x).mu x_1 ∧
 ((N = N ∧ l.length = l.length) ∧
 pre.length = pre.length ∧
 True ∧
 True ∧
 True ∧
 IntKind.i64.wrap ((↑x_1 : Int) + (1 : Int)) = (↑x_4 : Int) ∧
 True ∧ N = N ∧ True ∧ l.length = l.length ∧ True) ∧
 (l.length = l.length ∧
 (∀ (j : Nat),
 j < l.length →
 (nthD ((0 : Int), (0 : Int)) l j).fst =
 (nthD ((0 : Int), (0 : Int)) l j).fst) ∧
 (∀ (j : Nat),
 j < l.length →
 (nthD ((0 : Int), (0 : Int)) l j).snd =
 (nthD ((0 : Int), (0 : Int)) l j).snd) ∧
 True) ∧
 (pre.length = pre.length ∧
 (∀ (j : Nat),
 j < pre.length → nthD (0 : Int) pre j = nthD (0 : Int) pre j) ∧
 True) ∧
 (N = N ∧ l.length = l.length) ∧
 ((0 : Int) = (0 : Int) ∧ True) ∧
 ((aftL N l pre x_2 ++ aftR pre x_2 x_3).length =
 (aftL N l pre x_4).length ∧
 (∀ (j : Nat),
 j < (aftL N l pre x_4).length →
 (nthD ((0 : Int), (0 : Int))
 (aftL N l pre x_2 ++ aftR pre x_2 x_3) j).fst =
 (nthD ((0 : Int), (0 : Int)) (aftL N l pre x_4)
 j).fst) ∧
 (∀ (j : Nat),
 j < (aftL N l pre x_4).length →
 (nthD ((0 : Int), (0 : Int))
 (aftL N l pre x_2 ++ aftR pre x_2 x_3) j).snd =
 (nthD ((0 : Int), (0 : Int)) (aftL N l pre x_4)
 j).snd) ∧
 True) ∧
 (N = N ∧
 (aftL N l pre x_2 ++ aftR pre x_2 x_3).length =
 (aftL N l pre x_4).length) ∧
 True)) ∧
 (decide ((↑x_1 : Int) < (↑pre.length : Int)) = false →
 (aftL N l pre x_1).length = (aftP N l pre).length ∧
 ((∀ (j : Nat),
 j < (aftP N l pre).length →
 (nthD ((0 : Int), (0 : Int)) (aftL N l pre x_1) j).fst =
 (nthD ((0 : Int), (0 : Int)) (aftP N l pre) j).fst) ∧
 (∀ (j : Nat),
 j < (aftP N l pre).length →
 (nthD ((0 : Int), (0 : Int)) (aftL N l pre x_1) j).snd =
 (nthD ((0 : Int), (0 : Int)) (aftP N l pre) j).snd) ∧
 True) ∧
 N = N ∧ (aftL N l pre x_1).length = (aftP N l pre).length ∧ True)) ∧
 (0 : Nat) = (0 : Nat) ∧
 l.length = l.length ∧
 ((0 : Nat) + l.length) * (16 : Nat) ≤ (140737488355328 : Nat) ∧
 (0 : Nat) + l.length ≤ (9223372036854775807 : Nat) ∧
 ∃ (x : PUnit),
 (∃ (x : Nat),
 x ≤ pre.length ∧
 ((0 : Int) = (↑x : Int) ∧ True) ∧
 ((0 : Nat) + l.length = (aftL N l pre x).length ∧
 (∀ (j : Nat),
 j < (aftL N l pre x).length →
 (nthD ((0 : Int), (0 : Int)) l j).fst =
 (nthD ((0 : Int), (0 : Int)) (aftL N l pre x) j).fst) ∧
 (∀ (j : Nat),
 j < (aftL N l pre x).length →
 (nthD ((0 : Int), (0 : Int)) l j).snd =
 (nthD ((0 : Int), (0 : Int)) (aftL N l pre x) j).snd) ∧
 True) ∧
 (N = N ∧ (0 : Nat) + l.length = (aftL N l pre x).length) ∧ True) ∧
 ∀ (x_1 : Nat),
 x_1 ≤ pre.length →
 (decide ((↑x_1 : Int) < (↑pre.length : Int)) = true →
 ∃ (x_2 : Nat),
 (∃ (x : Nat),
 (x ≤ N.toNat ∧ x_2 < pre.length) ∧
 ((0 : Int) = (↑x : Int) ∧ True) ∧
 ((aftL N l pre x_1).length = (aftL N l pre x_2 ++ aftR pre x_2 x).length ∧
 (∀ (j : Nat),
 j < (aftL N l pre x_2 ++ aftR pre x_2 x).length →
 (nthD ((0 : Int), (0 : Int)) (aftL N l pre x_1) j).fst =
 (nthD ((0 : Int), (0 : Int)) (aftL N l pre x_2 ++ aftR pre x_2 x)
 j).fst) ∧
 (∀ (j : Nat),
 j < (aftL N l pre x_2 ++ aftR pre x_2 x).length →
 (nthD ((0 : Int), (0 : Int)) (aftL N l pre x_1) j).snd =
 (nthD ((0 : Int), (0 : Int)) (aftL N l pre x_2 ++ aftR pre x_2 x)
 j).snd) ∧
 True) ∧
 (N = N ∧ (aftL N l pre x_1).length = (aftL N l pre x_2 ++ aftR pre x_2 x).length) ∧
 True) ∧
 ∀ (x_3 : Nat),
 x_3 ≤ N.toNat ∧ x_2 < pre.length →
 (decide ((↑x_3 : Int) < N) = true →
 pre.length = pre.length ∧
 mkN (nthD (0 : Int) pre) pre.length = pre ∧
 pre.length ≤ (1099511627776 : Nat) ∧
 ((decide (posI (↑x_3 : Int) pre (0 : Int) < (0 : Int)) ||
 decide (posI (↑x_3 : Int) pre (0 : Int) > (↑x_1 : Int))) =
 true →
 ((0 : Int) ≤ (↑x_1 : Int) ∧ (↑x_1 : Int) < (↑pre.length : Int)) ∧
 x_1 < pre.length ∧
 (aftL N l pre x_2 ++ aftR pre x_2 x_3).length =
 (aftL N l pre x_2 ++ aftR pre x_2 x_3).length ∧
 (1 : Nat) = (1 : Nat) ∧
 ((aftL N l pre x_2 ++ aftR pre x_2 x_3).length + (1 : Nat)) *
 (16 : Nat) ≤
 (140737488355328 : Nat) ∧
 (aftL N l pre x_2 ++ aftR pre x_2 x_3).length + (1 : Nat) ≤
 (9223372036854775807 : Nat) ∧
 ∃ (x : Nat),
 (x ≤ N.toNat ∧ x_2 < pre.length) ∧
 ((lAf2 N l pre).ann x_2).mu x <
 ((lAf2 N l pre).ann x_2).mu x_3 ∧
 ((N = N ∧ l.length = l.length) ∧
 pre.length = pre.length ∧
 True ∧
 True ∧
 True ∧
 (↑x_1 : Int) = (↑x_1 : Int) ∧
 IntKind.i64.wrap
 ((↑x_3 : Int) + (1 : Int)) =
 (↑x : Int) ∧
 True ∧
 N = N ∧
 True ∧
 l.length = l.length ∧
 (↑x_1 : Int) = (↑x_1 : Int) ∧
 pre.length = pre.length ∧
 (↑pre.length : Int) =
 (↑pre.length : Int) ∧
 true = true ∧ True) ∧
 (l.length = l.length ∧
 (∀ (j : Nat),
 j < l.length →
 (nthD ((0 : Int), (0 : Int)) l j).fst =
 (nthD ((0 : Int), (0 : Int)) l j).fst) ∧
 (∀ (j : Nat),
 j < l.length →
 (nthD ((0 : Int), (0 : Int)) l j).snd =
 (nthD ((0 : Int), (0 : Int)) l j).snd) ∧
 True) ∧
 (pre.length = pre.length ∧
 (∀ (j : Nat),
 j < pre.length →
 nthD (0 : Int) pre j =
 nthD (0 : Int) pre j) ∧
 True) ∧
 (N = N ∧ l.length = l.length) ∧
 ((0 : Int) = (0 : Int) ∧ True) ∧
 ((aftL N l pre x_2 ++
 aftR pre x_2 x_3).length +
 (1 : Nat) =
 (aftL N l pre x_2 ++
 aftR pre x_2 x).length ∧
 (∀ (j : Nat),
 j <
 (aftL N l pre x_2 ++
 aftR pre x_2 x).length →
 (bif
 j.blt
 (aftL N l pre x_2 ++
 aftR pre x_2
 x_3).length then
 (nthD ((0 : Int), (0 : Int))
 (aftL N l pre x_2 ++
 aftR pre x_2 x_3)
 j).fst
 else
 pickI [nthD (0 : Int) pre x_1]
 (j -
 (aftL N l pre x_2 ++
 aftR pre x_2
 x_3).length)) =
 (nthD ((0 : Int), (0 : Int))
 (aftL N l pre x_2 ++
 aftR pre x_2 x)
 j).fst) ∧
 (∀ (j : Nat),
 j <
 (aftL N l pre x_2 ++
 aftR pre x_2 x).length →
 (bif
 j.blt
 (aftL N l pre x_2 ++
 aftR pre x_2
 x_3).length then
 (nthD ((0 : Int), (0 : Int))
 (aftL N l pre x_2 ++
 aftR pre x_2 x_3)
 j).snd
 else
 pickI [(↑x_3 : Int)]
 (j -
 (aftL N l pre x_2 ++
 aftR pre x_2
 x_3).length)) =
 (nthD ((0 : Int), (0 : Int))
 (aftL N l pre x_2 ++
 aftR pre x_2 x)
 j).snd) ∧
 True) ∧
 (N = N ∧
 (aftL N l pre x_2 ++
 aftR pre x_2 x_3).length +
 (1 : Nat) =
 (aftL N l pre x_2 ++
 aftR pre x_2 x).length) ∧
 True) ∧
 ((decide (posI (↑x_3 : Int) pre (0 : Int) < (0 : Int)) ||
 decide (posI (↑x_3 : Int) pre (0 : Int) > (↑x_1 : Int))) =
 false →
 ∃ (x : Nat),
 (x ≤ N.toNat ∧ x_2 < pre.length) ∧
 ((lAf2 N l pre).ann x_2).mu x < ((lAf2 N l pre).ann x_2).mu x_3 ∧
 ((N = N ∧ l.length = l.length) ∧
 pre.length = pre.length ∧
 True ∧
 True ∧
 True ∧
 (↑x_1 : Int) = (↑x_1 : Int) ∧
 IntKind.i64.wrap ((↑x_3 : Int) + (1 : Int)) =
 (↑x : Int) ∧
 True ∧
 N = N ∧
 True ∧
 l.length = l.length ∧
 (↑x_1 : Int) = (↑x_1 : Int) ∧
 pre.length = pre.length ∧
 (↑pre.length : Int) =
 (↑pre.length : Int) ∧
 true = true ∧ True) ∧
 (l.length = l.length ∧
 (∀ (j : Nat),
 j < l.length →
 (nthD ((0 : Int), (0 : Int)) l j).fst =
 (nthD ((0 : Int), (0 : Int)) l j).fst) ∧
 (∀ (j : Nat),
 j < l.length →
 (nthD ((0 : Int), (0 : Int)) l j).snd =
 (nthD ((0 : Int), (0 : Int)) l j).snd) ∧
 True) ∧
 (pre.length = pre.length ∧
 (∀ (j : Nat),
 j < pre.length →
 nthD (0 : Int) pre j = nthD (0 : Int) pre j) ∧
 True) ∧
 (N = N ∧ l.length = l.length) ∧
 ((0 : Int) = (0 : Int) ∧ True) ∧
 ((aftL N l pre x_2 ++ aftR pre x_2 x_3).length =
 (aftL N l pre x_2 ++ aftR pre x_2 x).length ∧
 (∀ (j : Nat),
 j < (aftL N l pre x_2 ++ aftR pre x_2 x).length →
 (nthD ((0 : Int), (0 : Int))
 (aftL N l pre x_2 ++ aftR pre x_2 x_3)
 j).fst =
 (nthD ((0 : Int), (0 : Int))
 (aftL N l pre x_2 ++ aftR pre x_2 x)
 j).fst) ∧
 (∀ (j : Nat),
 j <
 (aftL N l pre x_2 ++
 aftR pre x_2 x).length →
 (nthD ((0 : Int), (0 : Int))
 (aftL N l pre x_2 ++ aftR pre x_2 x_3)
 j).snd =
 (nthD ((0 : Int), (0 : Int))
 (aftL N l pre x_2 ++ aftR pre x_2 x)
 j).snd) ∧
 True) ∧
 (N = N ∧
 (aftL N l pre x_2 ++ aftR pre x_2 x_3).length =
 (aftL N l pre x_2 ++ aftR pre x_2 x).length) ∧
 True)) ∧
 (decide ((↑x_3 : Int) < N) = false →
 ∃ (x_4 : Nat),
 x_4 ≤ pre.length ∧
 ((PLoop.of (lAf0 N l pre)).ann x).mu x_4 <
 ((PLoop.of (lAf0 N l pre)).ann x).mu x_1 ∧
 ((N = N ∧ l.length = l.length) ∧
 pre.length = pre.length ∧
 True ∧
 True ∧
 True ∧
 IntKind.i64.wrap ((↑x_1 : Int) + (1 : Int)) = (↑x_4 : Int) ∧
 True ∧ N = N ∧ True ∧ l.length = l.length ∧ True) ∧
 (l.length = l.length ∧
 (∀ (j : Nat),
 j < l.length →
 (nthD ((0 : Int), (0 : Int)) l j).fst =
 (nthD ((0 : Int), (0 : Int)) l j).fst) ∧
 (∀ (j : Nat),
 j < l.length →
 (nthD ((0 : Int), (0 : Int)) l j).snd =
 (nthD ((0 : Int), (0 : Int)) l j).snd) ∧
 True) ∧
 (pre.length = pre.length ∧
 (∀ (j : Nat),
 j < pre.length → nthD (0 : Int) pre j = nthD (0 : Int) pre j) ∧
 True) ∧
 (N = N ∧ l.length = l.length) ∧
 ((0 : Int) = (0 : Int) ∧ True) ∧
 ((aftL N l pre x_2 ++ aftR pre x_2 x_3).length =
 (aftL N l pre x_4).length ∧
 (∀ (j : Nat),
 j < (aftL N l pre x_4).length →
 (nthD ((0 : Int), (0 : Int))
 (aftL N l pre x_2 ++ aftR pre x_2 x_3) j).fst =
 (nthD ((0 : Int), (0 : Int)) (aftL N l pre x_4)
 j).fst) ∧
 (∀ (j : Nat),
 j < (aftL N l pre x_4).length →
 (nthD ((0 : Int), (0 : Int))
 (aftL N l pre x_2 ++ aftR pre x_2 x_3) j).snd =
 (nthD ((0 : Int), (0 : Int)) (aftL N l pre x_4)
 j).snd) ∧
 True) ∧
 (N = N ∧
 (aftL N l pre x_2 ++ aftR pre x_2 x_3).length =
 (aftL N l pre x_4).length) ∧
 True)) ∧
 (decide ((↑x_1 : Int) < (↑pre.length : Int)) = false →
 (aftL N l pre x_1).length = (aftP N l pre).length ∧
 ((∀ (j : Nat),
 j < (aftP N l pre).length →
 (nthD ((0 : Int), (0 : Int)) (aftL N l pre x_1) j).fst =
 (nthD ((0 : Int), (0 : Int)) (aftP N l pre) j).fst) ∧
 (∀ (j : Nat),
 j < (aftP N l pre).length →
 (nthD ((0 : Int), (0 : Int)) (aftL N l pre x_1) j).snd =
 (nthD ((0 : Int), (0 : Int)) (aftP N l pre) j).snd) ∧
 True) ∧
 N = N ∧ (aftL N l pre x_1).length = (aftP N l pre).length ∧ True)) := by kernel_rfl
theorem v46 (N : Int) (l : List Pq) (pre : List Int) (hl : l.length ≤ 1000000) (hp : pre.length ≤ 64) (hN : 0 ≤ N ∧ N ≤ 64) : fnVc (tab [kPos [none, some (.is pre)]] [(0, .of (lAf0 N l pre)), (2, lAf2 N l pre)]) Try.f46 [rlV N 0 l, .sl 1 pre.length] [arP l, arI pre] (resIs (.agg [.i .i64 N, .sl 0 (aftP N l pre).length]) 40 (aftP N l pre).length (psCols (aftP N l pre))) := by
  rw [v46_eq]
  simp only [eq_self, true_and, and_true, implies_true, imp_self, mkN_ps, mkN_self, mkN_len, PLoop.of, lCnt, Nat.zero_add, AV.len]
  refine and3 ?_
  refine ⟨by omega, by omega, (), ⟨0, Nat.zero_le _, rfl, ⟨rfl, fun _ _ => rfl, fun _ _ => rfl⟩, rfl⟩, fun i hi => ⟨fun hlt => ?_, fun hge => ?_⟩⟩
  · have hi2 : i < pre.length := lt_len hlt
    have hL := aftL_len (l := l) (pre := pre) hN.2 i
    have e0 : aftL N l pre i ++ aftR pre i 0 = aftL N l pre i := by rw [aftR, List.append_nil]
    refine ⟨i, ⟨0, ⟨Nat.zero_le _, hi2⟩, rfl, by rw [e0]; exact ⟨⟨rfl, fun _ _ => rfl, fun _ _ => rfl⟩, rfl⟩⟩, fun k hk => ⟨fun hlk => ?_, fun hgk => ?_⟩⟩
    · have hk2 : k < N.toNat := by have := of_decide_eq_true hlk; omega
      have hR := aftR_len (pre := pre) (i := i) k
      have hAB : (aftL N l pre i ++ aftR pre i k).length ≤ 1004160 := by rw [List.length_append]; omega
      refine ⟨by omega, fun hb => ⟨bd hi2, hi2, by omega, by omega, k + 1, ⟨hk2, hi2⟩, ?_, wrS (n := 64) (by omega) (by omega), ?_⟩, fun hb => ⟨k + 1, ⟨hk2, hi2⟩, ?_, wrS (n := 64) (by omega) (by omega), ?_⟩⟩
      · show N.toNat - (k + 1) < N.toNat - k; omega
      · have key : aftL N l pre i ++ aftR pre i (k + 1) = (aftL N l pre i ++ aftR pre i k) ++ [(nthD 0 pre i, (k : Int))] := by rw [aftR, show behB pre i k = true from hb, cond_true, List.append_assoc]
        rw [key]
        have hal : (aftL N l pre i ++ aftR pre i k).length + 1 = ((aftL N l pre i ++ aftR pre i k) ++ [(nthD 0 pre i, (k : Int))]).length := by rw [List.length_append (bs := [(nthD 0 pre i, (k : Int))])]; rfl
        exact ⟨⟨hal, fun j hj => ap1 (fun p => p.1) _ (nthD 0 pre i, (k : Int)) j hj, fun j hj => ap1 (fun p => p.2) _ (nthD 0 pre i, (k : Int)) j hj⟩, hal⟩
      · show N.toNat - (k + 1) < N.toNat - k; omega
      · have key : aftL N l pre i ++ aftR pre i (k + 1) = aftL N l pre i ++ aftR pre i k := by rw [aftR, show behB pre i k = false from hb, cond_false, List.append_nil]
        rw [key]; exact ⟨⟨rfl, fun _ _ => rfl, fun _ _ => rfl⟩, rfl⟩
    · have hkN : k = N.toNat := by have := of_decide_eq_false hgk; omega
      subst hkN
      refine ⟨i + 1, hi2, (by show pre.length - (i + 1) < pre.length - i; omega), wrS (n := 64) (by omega) (by omega), ?_⟩
      rw [aftL]; exact ⟨⟨rfl, fun _ _ => rfl, fun _ _ => rfl⟩, rfl⟩
  · have hi2 : i = pre.length := ge_len hge hi
    subst hi2
    rw [aftP]; exact ⟨rfl, ⟨fun _ _ => rfl, fun _ _ => rfl⟩, rfl⟩
theorem fo46 : fnOk Try.prog 46 := ⟨Try.f46, Try.func46, by kernel_rfl, by kernel_rfl⟩
def t46 : List AV → Tab
  | [.r N l, .is pre] => tab [kPos [none, some (.is pre)]] [(0, .of (lAf0 N l pre)), (2, lAf2 N l pre)]
  | _ => tab [] []
theorem c46 : CallOk Try.prog [] 46 (genF EL [] [.r, .is] sAft) := by
  refine okT (fn := Try.f46) Try.func46 fo46 t46 (fun av => ?_) (fun av => ?_) (fun av pre rv h => ?_) (fun av pre rv h hp => ?_)
  · unfold t46; split <;> first | exact tabOk (mOne (n38 _) mNil) | exact tabOk mNil
  · unfold t46; split <;> exact ⟨rfl, rfl⟩
  · unfold sAft at h; split at h <;> cases h
    exact ⟨rfl, fun t a e => by cases e <;> exact List.cons_ne_nil _ _⟩
  · unfold sAft at h; split at h <;> cases h
    exact v46 _ _ _ (hp _ (.head _)) (hp _ (.tail _ (.head _))) (hp _ (.tail _ (.tail _ (.head _))))
theorem n46 (nm : List (Option AV)) : CallOk Try.prog [] 46 (genF EL nm [.r, .is] sAft) := genNm c46
end Go.Proofs.Ytiokmglajigngaa
namespace Go.Proofs.Ytiokmglajigngaa
open Go Go.Proofs.Ytiokmglajigngaa.Sx
/-- A prefix of extensions, one element after another. -/
inductive Gp (N : Int) (l : List Pq) : List Int → Prop
  | nil : Gp N l []
  | snoc {P : List Int} {x : Nat} : Gp N l P → x < N.toNat → okN l P x = true → Gp N l (P ++ [(x : Int)])
theorem Gp.dn {N : Int} {l : List Pq} (h : Rl N l) {x : List Int} (g : Gp N l x) : Dn N (befP N l) x := by
  induction g with
  | nil => exact dn_nil
  | snoc _ hx ho ih => exact h.snoc ih hx ho
theorem Gp.nod {N : Int} {l : List Pq} {x : List Int} (g : Gp N l x) : x.Nodup := by
  induction g with
  | nil => exact List.nodup_nil
  | snoc _ _ ho ih => exact nodup_snoc ih (okN_iff.1 ho).1
theorem Gp.rng {N : Int} {l : List Pq} {x : List Int} (g : Gp N l x) : ∀ y ∈ x, 0 ≤ y ∧ y < N := by
  induction g with
  | nil => exact fun y h => by cases h
  | snoc _ hx _ ih =>
    intro y hy
    rcases List.mem_append.1 hy with h | h
    · exact ih y h
    · rw [List.mem_singleton.1 h]; omega
theorem Gp.len {N : Int} {l : List Pq} {x : List Int} (g : Gp N l x) : x.length ≤ N.toNat := by
  have h1 := len_sub x ((List.range N.toNat).map (fun i : Nat => (i : Int))) g.nod fun y hy => by
    have := g.rng y hy
    exact List.mem_map.2 ⟨y.toNat, List.mem_range.2 (by omega), by omega⟩
  simpa using h1
theorem Gp.at {N : Int} {l : List Pq} {x : List Int} (g : Gp N l x) : ∀ j, j < x.length → Gp N l (x.take j) ∧ okN l (x.take j) (nthD 0 x j) = true := by
  induction g with
  | nil => intro j hj; cases hj
  | @snoc P y g hy ho ih =>
    intro j hj
    rw [List.length_append, List.length_singleton] at hj
    by_cases h : j < P.length
    · obtain ⟨a, b⟩ := ih j h
      rw [List.take_append_of_le_length (by omega), nthD_lt _ h]; exact ⟨a, b⟩
    · have e : j = P.length := by omega
      subst e
      rw [List.take_left, nthD_at]; exact ⟨g, ho⟩
theorem posI_not {n : Int} {l : List Int} (h : n ∉ l) : posI n l 0 < 0 := by
  have h1 := posI_lt (n := n) l 0 (Int.le_refl _)
  rw [show hasI l n = false by rw [Bool.eq_false_iff]; exact fun e => h (hasI_iff.1 e)] at h1
  simpa using h1
theorem posI_has {n : Int} {l : List Int} (h : n ∈ l) : 0 ≤ posI n l 0 := by
  have h1 := posI_lt (n := n) l 0 (Int.le_refl _)
  rw [hasI_iff.2 h] at h1
  simpa using h1
theorem posI_ge {n : Int} : ∀ (l : List Int) (i : Int), 0 ≤ i → -1 ≤ posI n l i ∧ posI n l i < i + l.length := by
  intro l
  induction l with
  | nil => intro i hi; simp [posI]; omega
  | cons x r ih =>
    intro i hi
    have := ih (i + 1) (by omega)
    rw [posI, List.length_cons]
    cases (x == n)
    · rw [cond_false]; omega
    · rw [cond_true]; omega
theorem Gp.pos {N : Int} {l : List Pq} {x : List Int} (g : Gp N l x) {j : Nat} (hj : j < x.length) : posI (nthD 0 x j) x 0 = (j : Int) := by
  have := posI_at x 0 j hj (okN_iff.1 (g.at j hj).2).1 rfl
  omega
theorem Gp.idx {N : Int} {l : List Pq} {x : List Int} (g : Gp N l x) {y : Int} (hy : y ∈ x) : ∃ j, j < x.length ∧ nthD 0 x j = y ∧ posI y x 0 = (j : Int) := by
  obtain ⟨j, hj, e⟩ := List.mem_iff_getElem.1 hy
  rw [← nthD_get 0 _ _ hj] at e
  exact ⟨j, hj, e, by rw [← e]; exact g.pos hj⟩
/-- In a prefix a pair's first number comes first. -/
theorem Gp.lt {N : Int} {l : List Pq} {x : List Int} (g : Gp N l x) {a b : Int} (hm : (a, b) ∈ l) (hb : b ∈ x) : a ∈ x ∧ posI a x 0 < posI b x 0 := by
  obtain ⟨j, hj, e, hp⟩ := g.idx hb
  have h1 := (okN_iff.1 (g.at j hj).2).2 a (by rw [e]; exact hm)
  obtain ⟨i, hi, e2⟩ := List.mem_iff_getElem.1 h1
  have hi2 : i < j := by rw [List.length_take] at hi; omega
  rw [List.getElem_take, ← nthD_get 0 _ _ (by omega)] at e2
  have := g.pos (show i < x.length by omega)
  rw [e2] at this
  exact ⟨List.mem_of_mem_take h1, by omega⟩
theorem mem_aftR {pre : List Int} {i : Nat} {p : Pq} : ∀ n, p ∈ aftR pre i n ↔ ∃ k : Nat, k < n ∧ behB pre i k = true ∧ p = (nthD 0 pre i, (k : Int)) := by
  intro n
  induction n with
  | zero => exact ⟨fun h => (by cases h), fun ⟨k, h, _⟩ => absurd h (Nat.not_lt_zero _)⟩
  | succ n ih =>
    rw [aftR, List.mem_append, ih]
    constructor
    · rintro (⟨k, a, b, c⟩ | h)
      · exact ⟨k, by omega, b, c⟩
      · cases hb : behB pre i n
        · rw [hb, cond_false] at h; cases h
        · rw [hb, cond_true] at h; exact ⟨n, by omega, hb, List.mem_singleton.1 h⟩
    · rintro ⟨k, a, b, c⟩
      by_cases h : k < n
      · exact .inl ⟨k, h, b, c⟩
      · have e : k = n := by omega
        subst e; rw [b, cond_true, c]; exact .inr (.head _)
theorem mem_aftL {N : Int} {l : List Pq} {pre : List Int} {p : Pq} : ∀ n, p ∈ aftL N l pre n ↔ p ∈ l ∨ ∃ i : Nat, i < n ∧ ∃ k : Nat, k < N.toNat ∧ behB pre i k = true ∧ p = (nthD 0 pre i, (k : Int)) := by
  intro n
  induction n with
  | zero => exact ⟨fun h => .inl h, fun h => by rcases h with h | ⟨i, h, _⟩; exact h; exact absurd h (Nat.not_lt_zero _)⟩
  | succ n ih =>
    rw [aftL, List.mem_append, ih, mem_aftR]
    constructor
    · rintro ((h | ⟨i, a, b⟩) | ⟨k, b⟩)
      · exact .inl h
      · exact .inr ⟨i, by omega, b⟩
      · exact .inr ⟨n, by omega, k, b⟩
    · rintro (h | ⟨i, a, b⟩)
      · exact .inl (.inl h)
      · by_cases h : i < n
        · exact .inl (.inr ⟨i, h, b⟩)
        · have e : i = n := by omega
          subst e; exact .inr b
theorem mem_aft {N : Int} {l : List Pq} {x : List Int} {p : Pq} : p ∈ aftP N l x ↔ p ∈ l ∨ ∃ i : Nat, i < x.length ∧ ∃ k : Nat, k < N.toNat ∧ behB x i k = true ∧ p = (nthD 0 x i, (k : Int)) := mem_aftL _
theorem behB_iff {x : List Int} {i k : Nat} : behB x i k = true ↔ (k : Int) ∉ x ∨ (i : Int) < posI k x 0 := by
  rw [behB, Bool.or_eq_true, decide_eq_true_eq, decide_eq_true_eq]
  constructor
  · rintro (h | h)
    · exact .inl fun hm => by have := posI_has hm; omega
    · exact .inr h
  · rintro (h | h)
    · exact .inl (posI_not h)
    · exact .inr h
theorem aft_valid {N : Int} {l : List Pq} {x : List Int} (hv : validF N l = true) (g : Gp N l x) : validF N (aftP N l x) = true := by
  obtain ⟨h1, h2, h3⟩ := validF_iff.1 hv
  refine validF_iff.2 ⟨h1, h2, fun p hp => ?_⟩
  rcases mem_aft.1 hp with h | ⟨i, hi, k, hk, _, rfl⟩
  · exact h3 p h
  · have := g.rng _ (nthD_mem 0 hi)
    exact ⟨this.1, this.2, by show (0 : Int) ≤ k; omega, by show (k : Int) < N; omega⟩
theorem acy_ord {N : Int} {l : List Pq} {f : Int → Int} (hv : validF N l = true) (h : ∀ a b, (a, b) ∈ l → f a < f b) : okP N l = true := by
  rw [okP, hv, Bool.true_and, acy, acyF, List.all_eq_true]
  have hlt : ∀ (n : Nat) (a b : Int), wF (setF l) n a b = true → f a < f b := by
    intro n
    induction n with
    | zero => intro a b h2; exact h a b (setF_iff.1 h2)
    | succ n ih =>
      intro a b h
      have h : (wF (setF l) n a b || wF (setF l) n a n && wF (setF l) n n b) = true := h
      rw [Bool.or_eq_true, Bool.and_eq_true] at h
      rcases h with h | ⟨h1, h2⟩
      · exact ih a b h
      · have := ih _ _ h1; have := ih _ _ h2; omega
  intro a _
  cases h : wF (setF l) N.toNat a a
  · rfl
  · have := hlt _ _ _ h; omega
/-- The order in which the forced relation goes up. -/
def ordF (x E : List Int) (a : Int) : Int := if a ∈ x then posI a x 0 else 1000 + posI a E 0
theorem aft_ok {N : Int} {l : List Pq} {x : List Int} (h : Rl N l) (g : Gp N l x) : okP N (aftP N l x) = true := by
  obtain ⟨e, hN, hN2, hn, hv⟩ := befP_ok h.ok
  have hE := isX_iff.1 (nt_isX h (cmp_pos0 h))
  refine acy_ord (f := ordF x (ntS (befP N l) 0 N.toNat).1) (aft_valid hv g) fun a b hm => ?_
  have hl := g.len
  rcases mem_aft.1 hm with hm | ⟨i, hi, k, hk, hb, e⟩
  · by_cases hb : b ∈ x
    · obtain ⟨ha, hlt⟩ := g.lt hm hb
      simp only [ordF, if_pos ha, if_pos hb]; exact hlt
    · have hp := hE.2.2.2 (a, b) hm
      simp only at hp
      have h1 := posI_ge (n := b) (ntS (befP N l) 0 N.toNat).1 0 (Int.le_refl _)
      by_cases ha : a ∈ x
      · have h2 := posI_ge (n := a) x 0 (Int.le_refl _)
        simp only [ordF, if_pos ha, if_neg hb]; omega
      · simp only [ordF, if_neg ha, if_neg hb]; omega
  · simp only [Prod.mk.injEq] at e
    obtain ⟨rfl, rfl⟩ := e
    have ha := nthD_mem 0 hi
    have hp := g.pos hi
    by_cases hbx : (k : Int) ∈ x
    · rcases behB_iff.1 hb with hb | hb
      · exact absurd hbx hb
      · simp only [ordF, if_pos ha, if_pos hbx]; omega
    · have h1 := posI_ge (n := (k : Int)) (ntS (befP N l) 0 N.toNat).1 0 (Int.le_refl _)
      simp only [ordF, if_pos ha, if_neg hbx]; omega
theorem filter_one {f : Nat → Bool} {y : Nat} : ∀ n, (∀ i, i < n → (f i = true ↔ i = y)) → (List.range n).filter f = if y < n then [y] else [] := by
  intro n
  induction n with
  | zero => intro _; rfl
  | succ n ih =>
    intro h
    rw [List.range_succ, List.filter_append, ih fun i hi => h i (by omega)]
    have hn := h n (by omega)
    by_cases hy : n = y
    · have : f n = true := hn.2 hy
      subst hy
      rw [if_neg (by omega), if_pos (by omega), List.filter_cons_of_pos this]; rfl
    · have : ¬ f n = true := fun e => hy (hn.1 e)
      rw [List.filter_cons_of_neg this, List.filter_nil, List.append_nil]
      by_cases hlt : y < n
      · rw [if_pos hlt, if_pos (by omega)]
      · rw [if_neg hlt, if_neg (by omega)]
theorem aft_next {N : Int} {l : List Pq} {x : List Int} (g : Gp N l x) {j : Nat} (hj : j < x.length) : nxtL N (aftP N l x) (x.take j) = [nthD 0 x j] := by
  have hr := g.rng _ (nthD_mem 0 hj)
  obtain ⟨y, hy⟩ := Int.eq_ofNat_of_zero_le hr.1
  have hat := okN_iff.1 (g.at j hj).2
  have hpj := g.pos hj
  rw [nxtL, nxtK, filter_one (y := y) N.toNat fun n hn => ?_, if_pos (by omega), hy]; rfl
  rw [okN_iff]
  constructor
  · rintro ⟨h1, h2⟩
    refine Classical.byContradiction fun hne => hat.1 (h2 _ (mem_aft.2 (.inr ⟨j, hj, n, hn, behB_iff.2 ?_, rfl⟩)))
    by_cases hm : (n : Int) ∈ x
    · obtain ⟨i, hi, e, hp⟩ := g.idx hm
      refine .inr ?_
      rw [hp]
      have : ¬ i ≤ j := fun hle => by
        rcases Nat.lt_or_ge i j with h | h
        · refine h1 ?_
          rw [← e, nthD_get 0 _ _ hi, List.mem_take_iff_getElem]
          exact ⟨i, by omega, rfl⟩
        · have e3 : i = j := by omega
          subst e3; rw [e] at hy; omega
      omega
    · exact .inl hm
  · intro e
    subst e
    rw [← hy]
    refine ⟨hat.1, fun a ha => ?_⟩
    rcases mem_aft.1 ha with ha | ⟨i, hi, k, hk, hb, e⟩
    · exact hat.2 a ha
    · simp only [Prod.mk.injEq] at e
      obtain ⟨rfl, e2⟩ := e
      rcases behB_iff.1 hb with hb | hb
      · exact absurd (by rw [← e2]; exact nthD_mem 0 hj) hb
      · rw [← e2, hpj] at hb
        rw [nthD_get 0 _ _ hi, List.mem_take_iff_getElem]
        exact ⟨i, by omega, rfl⟩
theorem aft_begin {N : Int} {l : List Pq} {x : List Int} (g : Gp N l x) : ∀ j, j ≤ x.length → extP N (aftP N l x) [] = extP N (aftP N l x) (x.take j) := by
  intro j
  induction j with
  | zero => intro _; rfl
  | succ j ih =>
    intro hj
    have hl := g.len
    rw [ih (by omega), extP_step (P := x.take j) (by rw [List.length_take]; omega), aft_next g (by omega), take_succ' 0 (by omega), List.flatMap_singleton]
theorem aft_same {N : Int} {l : List Pq} {x : List Int} : ∀ (k : Nat) (Q : List Int), extN N (aftP N l x) k (x ++ Q) = extN N l k (x ++ Q) := by
  intro k
  induction k with
  | zero => intro Q; rfl
  | succ k ih =>
    intro Q
    have e : nxtL N (aftP N l x) (x ++ Q) = nxtL N l (x ++ Q) := by
      rw [nxtL, nxtL, nxtK, nxtK]
      congr 1
      refine List.filter_congr fun n _ => ?_
      rw [Bool.eq_iff_iff, okN_iff, okN_iff]
      refine and_congr_right fun _ => ⟨fun h a ha => h a (mem_aft.2 (.inl ha)), fun h a ha => ?_⟩
      rcases mem_aft.1 ha with ha | ⟨i, hi, k, hk, hb, e⟩
      · exact h a ha
      · simp only [Prod.mk.injEq] at e
        rw [e.1]; exact List.mem_append_left _ (nthD_mem 0 hi)
    rw [extN, extN, e]
    congr 1
    funext y
    rw [List.append_assoc]; exact ih _
/-- The forced relation's count is the number of completions. -/
theorem pre_cnt {N : Int} {l : List Pq} {x : List Int} (h : Rl N l) (h9 : N ≤ 9) (g : Gp N l x) : preC N l x = cmp (befP N l) (maskM x) := by
  have hl := g.len
  have ho := aft_ok h g
  obtain ⟨_, _, hB, _, _⟩ := befP_ok ho
  have hc : okC (befP N (aftP N l x)) = true := okC_small (by omega)
  have hR : Rl N (aftP N l x) := ⟨ho, okD_small (by omega)⟩
  rw [preC, cntV, ho, hc, Bool.and_true, cond_true, ← ext_len0 hR, aft_begin g x.length (Nat.le_refl _), List.take_length, ← ext_len h (N.toNat - x.length) x (g.dn h) (by omega), extP, extP]
  have := aft_same (N := N) (l := l) (x := x) (N.toNat - x.length) []
  rw [List.append_nil] at this
  rw [this]
/-- The sum over the first ones that can follow. -/
theorem sum_next {N : Int} {l : List Pq} {P : List Int} (h : Rl N l) (h9 : N ≤ 9) (g : Gp N l P) : ∀ y, y ≤ N.toNat → sumC N l P (nxtK l P y).length = sumF (befP N l) (maskM P) (cmp (befP N l)) y := by
  intro y
  induction y with
  | zero => intro _; rfl
  | succ y ih =>
    intro hy
    rw [sumF, ← ih (by omega), h.fr (g.dn h) (by omega), nxtK_step]
    cases ho : okN l P y
    · rw [cond_false, cond_false, List.append_nil]; rfl
    · rw [cond_true, cond_true, List.length_append, List.length_singleton, sumC, ← mask_snoc, ← pre_cnt h h9 (.snoc g (by omega) ho)]
      congr 3
      have hlen : ∀ z, y + 1 ≤ z → ∃ t, nxtK l P z = nxtK l P (y + 1) ++ t := fun z hz => by
        induction hz with
        | refl => exact ⟨[], (List.append_nil _).symm⟩
        | step _ ih2 =>
          obtain ⟨t, ht⟩ := ih2
          exact ⟨t ++ _, by rw [nxtK_step, ht, List.append_assoc]⟩
      obtain ⟨t, ht⟩ := hlen N.toNat hy
      rw [nxtL, ht, nxtK_step, ho, cond_true, nthD_lt _ (by simp), nthD_at]
end Go.Proofs.Ytiokmglajigngaa
namespace Go.Proofs.Ytiokmglajigngaa
open Go Go.Proofs.Ytiokmglajigngaa.Sx
/-- The first i elements, as a loop sees them. -/
def tkO (o : List Int) (i : Nat) : List Int := mkN (fun j => nthD 0 o j) i
theorem tkO_eq {o : List Int} {i : Nat} (h : i ≤ o.length) : tkO o i = o.take i := by
  apply List.ext_getElem
  · rw [tkO, mkN_len, List.length_take]; omega
  · intro j h1 h2
    rw [tkO, mkN_len] at h1
    rw [← nthD_get 0 _ _ (by rw [tkO, mkN_len]; exact h1), tkO, nthD_mkN _ _ h1, List.getElem_take, nthD_get 0 _ _ (by omega)]
def sRkR : Sp := fun | [.r N l, .is o] => some ([l.length ≤ 1000000, L9 o, N ≤ 9], .pl (.tup [.i .i64 (rkV N l o : Int), .i .i64 (rkE N l o)])) | _ => none
def sNtR : Sp := fun | [.r N l, .i r] => some ([l.length ≤ 1000000, N ≤ 9], .sl (fun k => .tup [.sl 0 k, .i .i64 (ntE N l r)]) (.is (ntL N l r))) | _ => none
def kRkR (nm : List (Option AV)) : Nat × (List MBlk → List SV → Option AR) := (30, genF EL nm [.r, .is] sRkR)
def kNtR (nm : List (Option AV)) : Nat × (List MBlk → List SV → Option AR) := (32, genF EL nm [.r, .i] sNtR)
def lRr0 (B : List Int) (o : List Int) : LAnn := ⟨Nat, fun i => i ≤ o.length, fun i => [(10, .i .i64 (i : Int)), (9, .i .i64 (rkT B o i : Int))], fun _ => [], fun i => o.length - i, [], []⟩
def lRr2 (N : Int) (l : List Pq) (B : List Int) (o : List Int) : PLoop := ⟨Nat, fun i => ⟨Nat, fun k => k ≤ (nxtL N l (tkO o i)).length ∧ i < o.length ∧ ∀ j, j < k → nthD 0 (nxtL N l (tkO o i)) j < nthD 0 o i, fun k => [(12, .i .i64 (k : Int)), (9, .i .i64 ((rkT B o i + sumC N l (tkO o i) k : Nat) : Int))], fun _ => [], fun k => (nxtL N l (tkO o i)).length - k, [], []⟩⟩
theorem nxtK_pre {l : List Pq} {P : List Int} {y z : Nat} (h : y ≤ z) : ∃ t, nxtK l P z = nxtK l P y ++ t ∧ ∀ x ∈ t, (y : Int) ≤ x := by
  induction h with
  | refl => exact ⟨[], (List.append_nil _).symm, fun x h => by cases h⟩
  | @step m hm ih =>
    obtain ⟨t, ht, h2⟩ := ih
    refine ⟨t ++ bif okN l P m then [(m : Int)] else [], by rw [nxtK_step, ht, List.append_assoc], fun x hx => ?_⟩
    rcases List.mem_append.1 hx with hx | hx
    · exact h2 x hx
    · cases ho : okN l P m
      · rw [ho, cond_false] at hx; cases hx
      · rw [ho, cond_true] at hx; rw [List.mem_singleton.1 hx]; have : y ≤ m := hm; omega
theorem nx_lt {N : Int} {l : List Pq} {P : List Int} {y k : Nat} (hy : y ≤ N.toNat) (hk : k < (nxtL N l P).length) : nthD 0 (nxtL N l P) k < (y : Int) ↔ k < (nxtK l P y).length := by
  obtain ⟨t, ht, h2⟩ := nxtK_pre (l := l) (P := P) hy
  rw [nxtL] at hk ⊢
  rw [ht] at hk ⊢
  constructor
  · intro h
    refine Classical.byContradiction fun hc => ?_
    rw [List.length_append] at hk
    rw [nthD_ge _ (by omega)] at h
    have := h2 _ (nthD_mem 0 (show k - (nxtK l P y).length < t.length by omega))
    omega
  · intro h
    rw [nthD_lt _ h]
    obtain ⟨i, hi, e, _⟩ := mem_nxtK.1 (nthD_mem 0 h)
    rw [e]; omega
theorem nx_at {N : Int} {l : List Pq} {P : List Int} {k : Nat} (hk : k < (nxtL N l P).length) : ∃ z : Nat, nthD 0 (nxtL N l P) k = (z : Int) ∧ z < N.toNat ∧ okN l P z = true ∧ (nxtK l P z).length = k := by
  obtain ⟨z, hz, e, ho⟩ := mem_nxtK.1 (nthD_mem 0 hk)
  change z < N.toNat at hz
  change nthD 0 (nxtL N l P) k = (z : Int) at e
  change okN l P (nthD 0 (nxtL N l P) k) = true at ho
  refine ⟨z, e, hz, by rw [e] at ho; exact ho, ?_⟩
  have h1 := nx_lt (y := z) (by omega) hk
  have h2 := nx_lt (y := z + 1) hz hk
  rw [e] at h1 h2 ho
  rw [nxtK_step, ho, cond_true, List.length_append, List.length_singleton] at h2
  have h3 := h2.1 (by omega)
  have h4 : ¬ k < (nxtK l P z).length := fun h => by have := h1.2 h; omega
  omega
theorem isX_gp {N : Int} {l : List Pq} {o : List Int} (h : isX N l o = true) : ∀ k, k ≤ o.length → Gp N l (o.take k) := by
  intro k
  induction k with
  | zero => intro _; exact .nil
  | succ k ih =>
    intro hk
    obtain ⟨h1, h2⟩ := isX_step h (show k < o.length by omega)
    obtain ⟨y, hy⟩ := Int.eq_ofNat_of_zero_le h1.1
    rw [take_succ' 0 (by omega), hy]
    exact .snoc (ih (by omega)) (by omega) (by rw [← hy]; exact h2)
/-- One more that can follow. -/
theorem sumC_at {N : Int} {l : List Pq} {P : List Int} (h : Rl N l) (h9 : N ≤ 9) (g : Gp N l P) {k : Nat} (hk : k < (nxtL N l P).length) : ∃ z : Nat, nthD 0 (nxtL N l P) k = (z : Int) ∧ z < N.toNat ∧ okN l P z = true ∧ sumC N l P k = sumF (befP N l) (maskM P) (cmp (befP N l)) z ∧ sumC N l P (k + 1) = sumF (befP N l) (maskM P) (cmp (befP N l)) (z + 1) := by
  obtain ⟨z, h1, h2, h3, h4⟩ := nx_at hk
  refine ⟨z, h1, h2, h3, by rw [← h4, sum_next h h9 g z (by omega)], ?_⟩
  rw [← sum_next h h9 g (z + 1) h2, nxtK_step, h3, cond_true, List.length_append, List.length_singleton, h4]
theorem sumC_all {N : Int} {l : List Pq} {P : List Int} (h : Rl N l) (h9 : N ≤ 9) (g : Gp N l P) {k y : Nat} (hy : y ≤ N.toNat) (hk : k ≤ (nxtL N l P).length) (hlt : ∀ j, j < k → nthD 0 (nxtL N l P) j < (y : Int)) (hge : k < (nxtL N l P).length → (y : Int) ≤ nthD 0 (nxtL N l P) k) : sumC N l P k = sumF (befP N l) (maskM P) (cmp (befP N l)) y := by
  have hle : (nxtK l P y).length ≤ (nxtL N l P).length := by
    obtain ⟨t, ht, _⟩ := nxtK_pre (l := l) (P := P) hy
    rw [nxtL, ht, List.length_append]; omega
  have e : k = (nxtK l P y).length := by
    have h1 : k ≤ (nxtK l P y).length := by
      rcases Nat.eq_zero_or_pos k with h0 | h0
      · omega
      · have := (nx_lt hy (show k - 1 < _ by omega)).1 (hlt (k - 1) (by omega)); omega
    rcases Nat.lt_or_ge k (nxtL N l P).length with h2 | h2
    · have h3 : ¬ k < (nxtK l P y).length := fun h4 => by have := (nx_lt hy h2).2 h4; have := hge h2; omega
      omega
    · omega
  rw [e, sum_next h h9 g y hy]
theorem Rl.of9 {N : Int} {l : List Pq} (h : okP N l = true) (h9 : N ≤ 9) : Rl N l := by
  obtain ⟨_, _, hn, _, _⟩ := befP_ok h
  exact ⟨h, okD_small (by omega)⟩
end Go.Proofs.Ytiokmglajigngaa
