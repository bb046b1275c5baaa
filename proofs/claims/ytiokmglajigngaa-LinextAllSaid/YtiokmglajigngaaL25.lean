/-
  A part of the proof (L25).
-/
import Derived.Test.YtiokmglajigngaaL24
namespace Go.Proofs.Ytiokmglajigngaa
open Go Go.Proofs.Ytiokmglajigngaa.Sx
set_option maxRecDepth 100000
set_option linter.unusedSimpArgs false
set_option linter.unusedVariables false

/-! ### Ranks -/
theorem few_t {N n : Int} {l : List Pq} (h : (!(decide (N ≤ n) && decide ((l.length : Int) ≤ 60))) = false) : N ≤ n ∧ l.length ≤ 60 := by
  have h : (decide (N ≤ n) && decide ((l.length : Int) ≤ 60)) = true := by simpa using h
  rw [Bool.and_eq_true] at h
  have h1 := of_decide_eq_true h.1
  have h2 := of_decide_eq_true h.2
  omega
theorem ok_t {N : Int} {l : List Pq} (h1 : (!validF N l) = false) (h2 : (!(validF N l && acyF N.toNat (wF (setF l) N.toNat))) = false) : okP N l = true := by
  have h2 : (validF N l && acyF N.toNat (wF (setF l) N.toNat)) = true := by simpa using h2
  exact h2
theorem bne_ff {a b : Int} (h : a = b) : (a != b) = false := by subst h; simp
theorem Rl.small {N : Int} {l : List Pq} (h : okP N l = true) (hN : N ≤ 9) : Rl N l ∧ okC (befP N l) = true := by
  obtain ⟨_, h1, _, _, _⟩ := befP_ok h
  have hc := okC_small (B := befP N l) (by omega)
  exact ⟨⟨h, (okC_iff.1 hc).1⟩, hc⟩
theorem ext_lenN {N : Int} {l : List Pq} (h : Rl N l) {r : Nat} (hr : r < cmp (befP N l) 0) : (nthD [] (extP N l []) r).length = N.toNat := by
  rw [ext_get h hr]; exact (h.nt hr (Nat.le_refl _)).len
theorem v10_eq (N : Int) (l : List Pq) (A : List (List Int)) (S : List Int) : (fnVc (tab [kFew [], kVal' [], kAcy' [], kAwk [], kCnt [], kAll [none, none, some (.rs A)], kFst [none, none, none, some (.is S)], kNth [], kRnk [], kIs [], kInt []] [(0, .of (lRw (cntV N l)))]) Try.f10 [rlV N 0 l] [arP l] (plainIs .tt)) = (l.length = l.length ∧
 ((!(decide (N ≤ (6 : Int)) &&
 decide
 ((↑(mkN (fun (j : Nat) => ((nthD ((0 : Int), (0 : Int)) l j).fst, (nthD ((0 : Int), (0 : Int)) l j).snd))
 l.length).length :
 Int) ≤
 (60 : Int)))) =
 false →
 l.length = l.length) ∧
 ((!(decide (N ≤ (6 : Int)) &&
 decide
 ((↑(mkN
 (fun (j : Nat) =>
 ((nthD ((0 : Int), (0 : Int)) l j).fst, (nthD ((0 : Int), (0 : Int)) l j).snd))
 l.length).length :
 Int) ≤
 (60 : Int)))) =
 false →
 (mkN (fun (j : Nat) => ((nthD ((0 : Int), (0 : Int)) l j).fst, (nthD ((0 : Int), (0 : Int)) l j).snd))
 l.length).length ≤
 (1099511627776 : Nat)) ∧
 ((!(decide (N ≤ (6 : Int)) &&
 decide
 ((↑(mkN
 (fun (j : Nat) =>
 ((nthD ((0 : Int), (0 : Int)) l j).fst, (nthD ((0 : Int), (0 : Int)) l j).snd))
 l.length).length :
 Int) ≤
 (60 : Int))) ||
 !validF N
 (mkN (fun (j : Nat) => ((nthD ((0 : Int), (0 : Int)) l j).fst, (nthD ((0 : Int), (0 : Int)) l j).snd))
 l.length)) =
 false →
 l.length = l.length) ∧
 ((!(decide (N ≤ (6 : Int)) &&
 decide
 ((↑(mkN
 (fun (j : Nat) =>
 ((nthD ((0 : Int), (0 : Int)) l j).fst, (nthD ((0 : Int), (0 : Int)) l j).snd))
 l.length).length :
 Int) ≤
 (60 : Int))) ||
 !validF N
 (mkN
 (fun (j : Nat) => ((nthD ((0 : Int), (0 : Int)) l j).fst, (nthD ((0 : Int), (0 : Int)) l j).snd))
 l.length)) =
 false →
 (mkN (fun (j : Nat) => ((nthD ((0 : Int), (0 : Int)) l j).fst, (nthD ((0 : Int), (0 : Int)) l j).snd))
 l.length).length ≤
 (1099511627776 : Nat)) ∧
 ((!(decide (N ≤ (6 : Int)) &&
 decide
 ((↑(mkN
 (fun (j : Nat) =>
 ((nthD ((0 : Int), (0 : Int)) l j).fst, (nthD ((0 : Int), (0 : Int)) l j).snd))
 l.length).length :
 Int) ≤
 (60 : Int))) ||
 !validF N
 (mkN
 (fun (j : Nat) =>
 ((nthD ((0 : Int), (0 : Int)) l j).fst, (nthD ((0 : Int), (0 : Int)) l j).snd))
 l.length) ||
 !(validF N
 (mkN
 (fun (j : Nat) =>
 ((nthD ((0 : Int), (0 : Int)) l j).fst, (nthD ((0 : Int), (0 : Int)) l j).snd))
 l.length) &&
 acyF N.toNat
 (wF
 (setF
 (mkN
 (fun (j : Nat) =>
 ((nthD ((0 : Int), (0 : Int)) l j).fst, (nthD ((0 : Int), (0 : Int)) l j).snd))
 l.length))
 N.toNat))) =
 true →
 true = true) ∧
 ((!(decide (N ≤ (6 : Int)) &&
 decide
 ((↑(mkN
 (fun (j : Nat) =>
 ((nthD ((0 : Int), (0 : Int)) l j).fst, (nthD ((0 : Int), (0 : Int)) l j).snd))
 l.length).length :
 Int) ≤
 (60 : Int))) ||
 !validF N
 (mkN
 (fun (j : Nat) =>
 ((nthD ((0 : Int), (0 : Int)) l j).fst, (nthD ((0 : Int), (0 : Int)) l j).snd))
 l.length) ||
 !(validF N
 (mkN
 (fun (j : Nat) =>
 ((nthD ((0 : Int), (0 : Int)) l j).fst, (nthD ((0 : Int), (0 : Int)) l j).snd))
 l.length) &&
 acyF N.toNat
 (wF
 (setF
 (mkN
 (fun (j : Nat) =>
 ((nthD ((0 : Int), (0 : Int)) l j).fst, (nthD ((0 : Int), (0 : Int)) l j).snd))
 l.length))
 N.toNat))) =
 false →
 l.length = l.length ∧
 (mkN (fun (j : Nat) => ((nthD ((0 : Int), (0 : Int)) l j).fst, (nthD ((0 : Int), (0 : Int)) l j).snd))
 l.length).length ≤
 (1099511627776 : Nat) ∧
 l.length = l.length ∧
 (mkN
 (fun (j : Nat) =>
 ((nthD ((0 : Int), (0 : Int)) l j).fst, (nthD ((0 : Int), (0 : Int)) l j).snd))
 l.length).length ≤
 (1099511627776 : Nat) ∧
 alL N
 (mkN
 (fun (j : Nat) =>
 ((nthD ((0 : Int), (0 : Int)) l j).fst, (nthD ((0 : Int), (0 : Int)) l j).snd))
 l.length)
 (1048576 : Int) =
 A ∧
 l.length = l.length ∧
 (mkN
 (fun (j : Nat) =>
 ((nthD ((0 : Int), (0 : Int)) l j).fst, (nthD ((0 : Int), (0 : Int)) l j).snd))
 l.length).length ≤
 (1099511627776 : Nat) ∧
 fstL N
 (mkN
 (fun (j : Nat) =>
 ((nthD ((0 : Int), (0 : Int)) l j).fst, (nthD ((0 : Int), (0 : Int)) l j).snd))
 l.length) =
 S ∧
 ((cntE N
 (mkN
 (fun (j : Nat) =>
 ((nthD ((0 : Int), (0 : Int)) l j).fst,
 (nthD ((0 : Int), (0 : Int)) l j).snd))
 l.length) !=
 (0 : Int) ||
 alE N
 (mkN
 (fun (j : Nat) =>
 ((nthD ((0 : Int), (0 : Int)) l j).fst,
 (nthD ((0 : Int), (0 : Int)) l j).snd))
 l.length)
 (1048576 : Int) !=
 (0 : Int) ||
 errP N
 (mkN
 (fun (j : Nat) =>
 ((nthD ((0 : Int), (0 : Int)) l j).fst,
 (nthD ((0 : Int), (0 : Int)) l j).snd))
 l.length) !=
 (0 : Int) ||
 (↑(AV.rs A).len : Int) !=
 (↑(cntV N
 (mkN
 (fun (j : Nat) =>
 ((nthD ((0 : Int), (0 : Int)) l j).fst,
 (nthD ((0 : Int), (0 : Int)) l j).snd))
 l.length)) :
 Int) ||
 decide
 ((↑(cntV N
 (mkN
 (fun (j : Nat) =>
 ((nthD ((0 : Int), (0 : Int)) l j).fst,
 (nthD ((0 : Int), (0 : Int)) l j).snd))
 l.length)) :
 Int) <
 (1 : Int))) =
 false →
 (0 : Int) ≤ (0 : Int) ∧ (0 : Int) < (↑(AV.rs A).len : Int)) ∧
 ((cntE N
 (mkN
 (fun (j : Nat) =>
 ((nthD ((0 : Int), (0 : Int)) l j).fst,
 (nthD ((0 : Int), (0 : Int)) l j).snd))
 l.length) !=
 (0 : Int) ||
 alE N
 (mkN
 (fun (j : Nat) =>
 ((nthD ((0 : Int), (0 : Int)) l j).fst,
 (nthD ((0 : Int), (0 : Int)) l j).snd))
 l.length)
 (1048576 : Int) !=
 (0 : Int) ||
 errP N
 (mkN
 (fun (j : Nat) =>
 ((nthD ((0 : Int), (0 : Int)) l j).fst,
 (nthD ((0 : Int), (0 : Int)) l j).snd))
 l.length) !=
 (0 : Int) ||
 (↑(AV.rs A).len : Int) !=
 (↑(cntV N
 (mkN
 (fun (j : Nat) =>
 ((nthD ((0 : Int), (0 : Int)) l j).fst,
 (nthD ((0 : Int), (0 : Int)) l j).snd))
 l.length)) :
 Int) ||
 decide
 ((↑(cntV N
 (mkN
 (fun (j : Nat) =>
 ((nthD ((0 : Int), (0 : Int)) l j).fst,
 (nthD ((0 : Int), (0 : Int)) l j).snd))
 l.length)) :
 Int) <
 (1 : Int))) =
 false →
 Int.toNat (0 : Int) < (AV.rs A).len) ∧
 ((cntE N
 (mkN
 (fun (j : Nat) =>
 ((nthD ((0 : Int), (0 : Int)) l j).fst,
 (nthD ((0 : Int), (0 : Int)) l j).snd))
 l.length) !=
 (0 : Int) ||
 alE N
 (mkN
 (fun (j : Nat) =>
 ((nthD ((0 : Int), (0 : Int)) l j).fst,
 (nthD ((0 : Int), (0 : Int)) l j).snd))
 l.length)
 (1048576 : Int) !=
 (0 : Int) ||
 errP N
 (mkN
 (fun (j : Nat) =>
 ((nthD ((0 : Int), (0 : Int)) l j).fst,
 (nthD ((0 : Int), (0 : Int)) l j).snd))
 l.length) !=
 (0 : Int) ||
 (↑(AV.rs A).len : Int) !=
 (↑(cntV N
 (mkN
 (fun (j : Nat) =>
 ((nthD ((0 : Int), (0 : Int)) l j).fst,
 (nthD ((0 : Int), (0 : Int)) l j).snd))
 l.length)) :
 Int) ||
 decide
 ((↑(cntV N
 (mkN
 (fun (j : Nat) =>
 ((nthD ((0 : Int), (0 : Int)) l j).fst,
 (nthD ((0 : Int), (0 : Int)) l j).snd))
 l.length)) :
 Int) <
 (1 : Int))) =
 false →
 (nthD [] A (Int.toNat (0 : Int))).length =
 (nthD [] A (Int.toNat (0 : Int))).length) ∧
 ((cntE N
 (mkN
 (fun (j : Nat) =>
 ((nthD ((0 : Int), (0 : Int)) l j).fst,
 (nthD ((0 : Int), (0 : Int)) l j).snd))
 l.length) !=
 (0 : Int) ||
 alE N
 (mkN
 (fun (j : Nat) =>
 ((nthD ((0 : Int), (0 : Int)) l j).fst,
 (nthD ((0 : Int), (0 : Int)) l j).snd))
 l.length)
 (1048576 : Int) !=
 (0 : Int) ||
 errP N
 (mkN
 (fun (j : Nat) =>
 ((nthD ((0 : Int), (0 : Int)) l j).fst,
 (nthD ((0 : Int), (0 : Int)) l j).snd))
 l.length) !=
 (0 : Int) ||
 (↑(AV.rs A).len : Int) !=
 (↑(cntV N
 (mkN
 (fun (j : Nat) =>
 ((nthD ((0 : Int), (0 : Int)) l j).fst,
 (nthD ((0 : Int), (0 : Int)) l j).snd))
 l.length)) :
 Int) ||
 decide
 ((↑(cntV N
 (mkN
 (fun (j : Nat) =>
 ((nthD ((0 : Int), (0 : Int)) l j).fst,
 (nthD ((0 : Int), (0 : Int)) l j).snd))
 l.length)) :
 Int) <
 (1 : Int))) =
 false →
 (AV.is S).len = (AV.is S).len) ∧
 ((cntE N
 (mkN
 (fun (j : Nat) =>
 ((nthD ((0 : Int), (0 : Int)) l j).fst,
 (nthD ((0 : Int), (0 : Int)) l j).snd))
 l.length) !=
 (0 : Int) ||
 alE N
 (mkN
 (fun (j : Nat) =>
 ((nthD ((0 : Int), (0 : Int)) l j).fst,
 (nthD ((0 : Int), (0 : Int)) l j).snd))
 l.length)
 (1048576 : Int) !=
 (0 : Int) ||
 errP N
 (mkN
 (fun (j : Nat) =>
 ((nthD ((0 : Int), (0 : Int)) l j).fst,
 (nthD ((0 : Int), (0 : Int)) l j).snd))
 l.length) !=
 (0 : Int) ||
 (↑(AV.rs A).len : Int) !=
 (↑(cntV N
 (mkN
 (fun (j : Nat) =>
 ((nthD ((0 : Int), (0 : Int)) l j).fst,
 (nthD ((0 : Int), (0 : Int)) l j).snd))
 l.length)) :
 Int) ||
 decide
 ((↑(cntV N
 (mkN
 (fun (j : Nat) =>
 ((nthD ((0 : Int), (0 : Int)) l j).fst,
 (nthD ((0 : Int), (0 : Int)) l j).snd))
 l.length)) :
 Int) <
 (1 : Int))) =
 false →
 (mkN (fun (i : Nat) => nthD (0 : Int) (nthD [] A (Int.toNat (0 : Int))) i)
 (nthD [] A (Int.toNat (0 : Int))).length).length ≤
 (1099511627776 : Nat)) ∧
 ((cntE N
 (mkN
 (fun (j : Nat) =>
 ((nthD ((0 : Int), (0 : Int)) l j).fst,
 (nthD ((0 : Int), (0 : Int)) l j).snd))
 l.length) !=
 (0 : Int) ||
 alE N
 (mkN
 (fun (j : Nat) =>
 ((nthD ((0 : Int), (0 : Int)) l j).fst,
 (nthD ((0 : Int), (0 : Int)) l j).snd))
 l.length)
 (1048576 : Int) !=
 (0 : Int) ||
 errP N
 (mkN
 (fun (j : Nat) =>
 ((nthD ((0 : Int), (0 : Int)) l j).fst,
 (nthD ((0 : Int), (0 : Int)) l j).snd))
 l.length) !=
 (0 : Int) ||
 (↑(AV.rs A).len : Int) !=
 (↑(cntV N
 (mkN
 (fun (j : Nat) =>
 ((nthD ((0 : Int), (0 : Int)) l j).fst,
 (nthD ((0 : Int), (0 : Int)) l j).snd))
 l.length)) :
 Int) ||
 decide
 ((↑(cntV N
 (mkN
 (fun (j : Nat) =>
 ((nthD ((0 : Int), (0 : Int)) l j).fst,
 (nthD ((0 : Int), (0 : Int)) l j).snd))
 l.length)) :
 Int) <
 (1 : Int))) =
 false →
 (mkN (nthD (0 : Int) S) (AV.is S).len).length ≤ (1099511627776 : Nat)) ∧
 ((cntE N
 (mkN
 (fun (j : Nat) =>
 ((nthD ((0 : Int), (0 : Int)) l j).fst,
 (nthD ((0 : Int), (0 : Int)) l j).snd))
 l.length) !=
 (0 : Int) ||
 alE N
 (mkN
 (fun (j : Nat) =>
 ((nthD ((0 : Int), (0 : Int)) l j).fst,
 (nthD ((0 : Int), (0 : Int)) l j).snd))
 l.length)
 (1048576 : Int) !=
 (0 : Int) ||
 errP N
 (mkN
 (fun (j : Nat) =>
 ((nthD ((0 : Int), (0 : Int)) l j).fst,
 (nthD ((0 : Int), (0 : Int)) l j).snd))
 l.length) !=
 (0 : Int) ||
 (↑(AV.rs A).len : Int) !=
 (↑(cntV N
 (mkN
 (fun (j : Nat) =>
 ((nthD ((0 : Int), (0 : Int)) l j).fst,
 (nthD ((0 : Int), (0 : Int)) l j).snd))
 l.length)) :
 Int) ||
 decide
 ((↑(cntV N
 (mkN
 (fun (j : Nat) =>
 ((nthD ((0 : Int), (0 : Int)) l j).fst,
 (nthD ((0 : Int), (0 : Int)) l j).snd))
 l.length)) :
 Int) <
 (1 : Int)) ||
 !decide
 (mkN
 (fun (i : Nat) =>
 nthD (0 : Int) (nthD [] A (Int.toNat (0 : Int))) i)
 (nthD [] A (Int.toNat (0 : Int))).length =
 mkN (nthD (0 : Int) S) (AV.is S).len)) =
 true →
 false = true) ∧
 ((cntE N
 (mkN
 (fun (j : Nat) =>
 ((nthD ((0 : Int), (0 : Int)) l j).fst,
 (nthD ((0 : Int), (0 : Int)) l j).snd))
 l.length) !=
 (0 : Int) ||
 alE N
 (mkN
 (fun (j : Nat) =>
 ((nthD ((0 : Int), (0 : Int)) l j).fst,
 (nthD ((0 : Int), (0 : Int)) l j).snd))
 l.length)
 (1048576 : Int) !=
 (0 : Int) ||
 errP N
 (mkN
 (fun (j : Nat) =>
 ((nthD ((0 : Int), (0 : Int)) l j).fst,
 (nthD ((0 : Int), (0 : Int)) l j).snd))
 l.length) !=
 (0 : Int) ||
 (↑(AV.rs A).len : Int) !=
 (↑(cntV N
 (mkN
 (fun (j : Nat) =>
 ((nthD ((0 : Int), (0 : Int)) l j).fst,
 (nthD ((0 : Int), (0 : Int)) l j).snd))
 l.length)) :
 Int) ||
 decide
 ((↑(cntV N
 (mkN
 (fun (j : Nat) =>
 ((nthD ((0 : Int), (0 : Int)) l j).fst,
 (nthD ((0 : Int), (0 : Int)) l j).snd))
 l.length)) :
 Int) <
 (1 : Int)) ||
 !decide
 (mkN
 (fun (i : Nat) =>
 nthD (0 : Int) (nthD [] A (Int.toNat (0 : Int))) i)
 (nthD [] A (Int.toNat (0 : Int))).length =
 mkN (nthD (0 : Int) S) (AV.is S).len)) =
 false →
 ∃ (x : PUnit),
 (∃ (x : Nat),
 (x ≤ cntV N l ∧ True) ∧ ((0 : Int) = (↑x : Int) ∧ True) ∧ True) ∧
 ∀ (x_1 : Nat),
 x_1 ≤ cntV N l ∧ True →
 (decide
 ((↑x_1 : Int) <
 (↑(cntV N
 (mkN
 (fun (j : Nat) =>
 ((nthD ((0 : Int), (0 : Int)) l j).fst,
 (nthD ((0 : Int), (0 : Int)) l j).snd))
 l.length)) :
 Int)) =
 true →
 l.length = l.length ∧
 (mkN
 (fun (j : Nat) =>
 ((nthD ((0 : Int), (0 : Int)) l j).fst,
 (nthD ((0 : Int), (0 : Int)) l j).snd))
 l.length).length ≤
 (1099511627776 : Nat) ∧
 ((0 : Int) ≤ (↑x_1 : Int) ∧
 (↑x_1 : Int) < (↑(AV.rs A).len : Int)) ∧
 x_1 < (AV.rs A).len ∧
 l.length = l.length ∧
 (nthD [] A x_1).length = (nthD [] A x_1).length ∧
 (mkN
 (fun (j : Nat) =>
 ((nthD ((0 : Int), (0 : Int)) l j).fst,
 (nthD ((0 : Int), (0 : Int)) l
 j).snd))
 l.length).length ≤
 (1099511627776 : Nat) ∧
 (mkN
 (fun (i : Nat) =>
 nthD (0 : Int) (nthD [] A x_1) i)
 (nthD [] A x_1).length).length ≤
 (1099511627776 : Nat) ∧
 ((ntE N
 (mkN
 (fun (j : Nat) =>
 ((nthD
 ((0 : Int), (0 : Int))
 l j).fst,
 (nthD
 ((0 : Int), (0 : Int))
 l j).snd))
 l.length)
 (↑x_1 : Int) !=
 (0 : Int) ||
 rkE N
 (mkN
 (fun (j : Nat) =>
 ((nthD
 ((0 : Int), (0 : Int))
 l j).fst,
 (nthD
 ((0 : Int), (0 : Int))
 l j).snd))
 l.length)
 (mkN
 (fun (i : Nat) =>
 nthD (0 : Int)
 (nthD [] A x_1) i)
 (nthD [] A x_1).length) !=
 (0 : Int) ||
 (↑(rkV N
 (mkN
 (fun (j : Nat) =>
 ((nthD
 ((0 : Int),
 (0 : Int))
 l j).fst,
 (nthD
 ((0 : Int),
 (0 : Int))
 l j).snd))
 l.length)
 (mkN
 (fun (i : Nat) =>
 nthD (0 : Int)
 (nthD [] A x_1) i)
 (nthD [] A x_1).length)) :
 Int) !=
 (↑x_1 : Int)) =
 false →
 (0 : Int) ≤ (↑x_1 : Int) ∧
 (↑x_1 : Int) < (↑(AV.rs A).len : Int)) ∧
 ((ntE N
 (mkN
 (fun (j : Nat) =>
 ((nthD
 ((0 : Int),
 (0 : Int))
 l j).fst,
 (nthD
 ((0 : Int),
 (0 : Int))
 l j).snd))
 l.length)
 (↑x_1 : Int) !=
 (0 : Int) ||
 rkE N
 (mkN
 (fun (j : Nat) =>
 ((nthD
 ((0 : Int),
 (0 : Int))
 l j).fst,
 (nthD
 ((0 : Int),
 (0 : Int))
 l j).snd))
 l.length)
 (mkN
 (fun (i : Nat) =>
 nthD (0 : Int)
 (nthD [] A x_1) i)
 (nthD [] A x_1).length) !=
 (0 : Int) ||
 (↑(rkV N
 (mkN
 (fun (j : Nat) =>
 ((nthD
 ((0 : Int),
 (0 : Int))
 l j).fst,
 (nthD
 ((0 : Int),
 (0 : Int))
 l j).snd))
 l.length)
 (mkN
 (fun (i : Nat) =>
 nthD (0 : Int)
 (nthD [] A x_1) i)
 (nthD [] A x_1).length)) :
 Int) !=
 (↑x_1 : Int)) =
 false →
 x_1 < (AV.rs A).len) ∧
 ((ntE N
 (mkN
 (fun (j : Nat) =>
 ((nthD
 ((0 : Int),
 (0 : Int))
 l j).fst,
 (nthD
 ((0 : Int),
 (0 : Int))
 l j).snd))
 l.length)
 (↑x_1 : Int) !=
 (0 : Int) ||
 rkE N
 (mkN
 (fun (j : Nat) =>
 ((nthD
 ((0 : Int),
 (0 : Int))
 l j).fst,
 (nthD
 ((0 : Int),
 (0 : Int))
 l j).snd))
 l.length)
 (mkN
 (fun (i : Nat) =>
 nthD (0 : Int)
 (nthD [] A x_1) i)
 (nthD [] A x_1).length) !=
 (0 : Int) ||
 (↑(rkV N
 (mkN
 (fun (j : Nat) =>
 ((nthD
 ((0 : Int),
 (0 : Int))
 l j).fst,
 (nthD
 ((0 : Int),
 (0 : Int))
 l j).snd))
 l.length)
 (mkN
 (fun (i : Nat) =>
 nthD (0 : Int)
 (nthD [] A x_1) i)
 (nthD [] A
 x_1).length)) :
 Int) !=
 (↑x_1 : Int)) =
 false →
 (AV.is
 (ntL N
 (mkN
 (fun (j : Nat) =>
 ((nthD
 ((0 : Int),
 (0 : Int))
 l j).fst,
 (nthD
 ((0 : Int),
 (0 : Int))
 l j).snd))
 l.length)
 (↑x_1 : Int))).len =
 (AV.is
 (ntL N
 (mkN
 (fun (j : Nat) =>
 ((nthD
 ((0 : Int),
 (0 : Int))
 l j).fst,
 (nthD
 ((0 : Int),
 (0 : Int))
 l j).snd))
 l.length)
 (↑x_1 : Int))).len) ∧
 ((ntE N
 (mkN
 (fun (j : Nat) =>
 ((nthD
 ((0 : Int),
 (0 : Int))
 l j).fst,
 (nthD
 ((0 : Int),
 (0 : Int))
 l j).snd))
 l.length)
 (↑x_1 : Int) !=
 (0 : Int) ||
 rkE N
 (mkN
 (fun (j : Nat) =>
 ((nthD
 ((0 : Int),
 (0 : Int))
 l j).fst,
 (nthD
 ((0 : Int),
 (0 : Int))
 l j).snd))
 l.length)
 (mkN
 (fun (i : Nat) =>
 nthD (0 : Int)
 (nthD [] A x_1) i)
 (nthD [] A
 x_1).length) !=
 (0 : Int) ||
 (↑(rkV N
 (mkN
 (fun (j : Nat) =>
 ((nthD
 ((0 : Int),
 (0 : Int))
 l j).fst,
 (nthD
 ((0 : Int),
 (0 : Int))
 l j).snd))
 l.length)
 (mkN
 (fun (i : Nat) =>
 nthD (0 : Int)
 (nthD [] A x_1) i)
 (nthD [] A
 x_1).length)) :
 Int) !=
 (↑x_1 : Int)) =
 false →
 (nthD [] A x_1).length =
 (nthD [] A x_1).length) ∧
 ((ntE N
 (mkN
 (fun (j : Nat) =>
 ((nthD
 ((0 : Int),
 (0 : Int))
 l j).fst,
 (nthD
 ((0 : Int),
 (0 : Int))
 l j).snd))
 l.length)
 (↑x_1 : Int) !=
 (0 : Int) ||
 rkE N
 (mkN
 (fun (j : Nat) =>
 ((nthD
 ((0 : Int),
 (0 : Int))
 l j).fst,
 (nthD
 ((0 : Int),
 (0 : Int))
 l j).snd))
 l.length)
 (mkN
 (fun (i : Nat) =>
 nthD (0 : Int)
 (nthD [] A x_1) i)
 (nthD [] A
 x_1).length) !=
 (0 : Int) ||
 (↑(rkV N
 (mkN
 (fun (j : Nat) =>
 ((nthD
 ((0 : Int),
 (0 : Int))
 l j).fst,
 (nthD
 ((0 : Int),
 (0 : Int))
 l j).snd))
 l.length)
 (mkN
 (fun (i : Nat) =>
 nthD (0 : Int)
 (nthD [] A x_1)
 i)
 (nthD [] A
 x_1).length)) :
 Int) !=
 (↑x_1 : Int)) =
 false →
 (mkN
 (nthD (0 : Int)
 (ntL N
 (mkN
 (fun (j : Nat) =>
 ((nthD
 ((0 : Int),
 (0 : Int))
 l j).fst,
 (nthD
 ((0 : Int),
 (0 : Int))
 l j).snd))
 l.length)
 (↑x_1 : Int)))
 (AV.is
 (ntL N
 (mkN
 (fun (j : Nat) =>
 ((nthD
 ((0 : Int),
 (0 : Int))
 l j).fst,
 (nthD
 ((0 : Int),
 (0 : Int))
 l j).snd))
 l.length)
 (↑x_1 :
 Int))).len).length ≤
 (1099511627776 : Nat)) ∧
 ((ntE N
 (mkN
 (fun (j : Nat) =>
 ((nthD
 ((0 : Int),
 (0 : Int))
 l j).fst,
 (nthD
 ((0 : Int),
 (0 : Int))
 l j).snd))
 l.length)
 (↑x_1 : Int) !=
 (0 : Int) ||
 rkE N
 (mkN
 (fun (j : Nat) =>
 ((nthD
 ((0 : Int),
 (0 : Int))
 l j).fst,
 (nthD
 ((0 : Int),
 (0 : Int))
 l j).snd))
 l.length)
 (mkN
 (fun (i : Nat) =>
 nthD (0 : Int)
 (nthD [] A x_1)
 i)
 (nthD [] A
 x_1).length) !=
 (0 : Int) ||
 (↑(rkV N
 (mkN
 (fun (j : Nat) =>
 ((nthD
 ((0 :
 Int),
 (0 :
 Int))
 l j).fst,
 (nthD
 ((0 :
 Int),
 (0 :
 Int))
 l j).snd))
 l.length)
 (mkN
 (fun (i : Nat) =>
 nthD (0 : Int)
 (nthD [] A
 x_1)
 i)
 (nthD [] A
 x_1).length)) :
 Int) !=
 (↑x_1 : Int)) =
 false →
 (mkN
 (fun (i : Nat) =>
 nthD (0 : Int)
 (nthD [] A x_1) i)
 (nthD [] A
 x_1).length).length ≤
 (1099511627776 : Nat)) ∧
 ((ntE N
 (mkN
 (fun
 (j : Nat) =>
 ((nthD
 ((0 :
 Int),
 (0 :
 Int))
 l
 j).fst,
 (nthD
 ((0 :
 Int),
 (0 :
 Int))
 l
 j).snd))
 l.length)
 (↑x_1 : Int) !=
 (0 : Int) ||
 rkE N
 (mkN
 (fun
 (j : Nat) =>
 ((nthD
 ((0 :
 Int),
 (0 :
 Int))
 l
 j).fst,
 (nthD
 ((0 :
 Int),
 (0 :
 Int))
 l
 j).snd))
 l.length)
 (mkN
 (fun
 (i : Nat) =>
 nthD (0 : Int)
 (nthD [] A
 x_1)
 i)
 (nthD [] A
 x_1).length) !=
 (0 : Int) ||
 (↑(rkV N
 (mkN
 (fun
 (j :
 Nat) =>
 ((nthD
 ((0 :
 Int),
 (0 :
 Int))
 l
 j).fst,
 (nthD
 ((0 :
 Int),
 (0 :
 Int))
 l
 j).snd))
 l.length)
 (mkN
 (fun
 (i :
 Nat) =>
 nthD
 (0 : Int)
 (nthD [] A
 x_1)
 i)
 (nthD [] A
 x_1).length)) :
 Int) !=
 (↑x_1 : Int) ||
 !decide
 (mkN
 (nthD (0 : Int)
 (ntL N
 (mkN
 (fun
 (j :
 Nat) =>
 ((nthD
 ((0 :
 Int),
 (0 :
 Int))
 l
 j).fst,
 (nthD
 ((0 :
 Int),
 (0 :
 Int))
 l
 j).snd))
 l.length)
 (↑x_1 : Int)))
 (AV.is
 (ntL N
 (mkN
 (fun
 (j :
 Nat) =>
 ((nthD
 ((0 :
 Int),
 (0 :
 Int))
 l
 j).fst,
 (nthD
 ((0 :
 Int),
 (0 :
 Int))
 l
 j).snd))
 l.length)
 (↑x_1 :
 Int))).len =
 mkN
 (fun (i : Nat) =>
 nthD (0 : Int)
 (nthD [] A
 x_1)
 i)
 (nthD [] A
 x_1).length)) =
 false →
 l.length = l.length) ∧
 ((ntE N
 (mkN
 (fun
 (j :
 Nat) =>
 ((nthD
 ((0 :
 Int),
 (0 :
 Int))
 l
 j).fst,
 (nthD
 ((0 :
 Int),
 (0 :
 Int))
 l
 j).snd))
 l.length)
 (↑x_1 : Int) !=
 (0 : Int) ||
 rkE N
 (mkN
 (fun
 (j :
 Nat) =>
 ((nthD
 ((0 :
 Int),
 (0 :
 Int))
 l
 j).fst,
 (nthD
 ((0 :
 Int),
 (0 :
 Int))
 l
 j).snd))
 l.length)
 (mkN
 (fun
 (i :
 Nat) =>
 nthD
 (0 : Int)
 (nthD [] A
 x_1)
 i)
 (nthD [] A
 x_1).length) !=
 (0 : Int) ||
 (↑(rkV N
 (mkN
 (fun
 (j :
 Nat) =>
 ((nthD
 ((0 :
 Int),
 (0 :
 Int))
 l
 j).fst,
 (nthD
 ((0 :
 Int),
 (0 :
 Int))
 l
 j).snd))
 l.length)
 (mkN
 (fun
 (i :
 Nat) =>
 nthD
 (0 :
 Int)
 (nthD []
 A x_1)
 i)
 (nthD [] A
 x_1).length)) :
 Int) !=
 (↑x_1 : Int) ||
 !decide
 (mkN
 (nthD (0 : Int)
 (ntL N
 (mkN
 (fun
 (j :
 Nat) =>
 ((nthD
 ((0 :
 Int),
 (0 :
 Int))
 l
 j).fst,
 (nthD
 ((0 :
 Int),
 (0 :
 Int))
 l
 j).snd))
 l.length)
 (↑x_1 :
 Int)))
 (AV.is
 (ntL N
 (mkN
 (fun
 (j :
 Nat) =>
 ((nthD
 ((0 :
 Int),
 (0 :
 Int))
 l
 j).fst,
 (nthD
 ((0 :
 Int),
 (0 :
 Int))
 l
 j).snd))
 l.length)
 (↑x_1 :
 Int))).len =
 mkN
 (fun
 (i : Nat) =>
 nthD (0 : Int)
 (nthD [] A
 x_1)
 i)
 (nthD [] A
 x_1).length)) =
 false →
 (AV.is
 (ntL N
 (mkN
 (fun (j : Nat) =>
 ((nthD
 ((0 :
 Int),
 (0 :
 Int))
 l j).fst,
 (nthD
 ((0 :
 Int),
 (0 :
 Int))
 l j).snd))
 l.length)
 (↑x_1 : Int))).len =
 (AV.is
 (ntL N
 (mkN
 (fun (j : Nat) =>
 ((nthD
 ((0 :
 Int),
 (0 :
 Int))
 l j).fst,
 (nthD
 ((0 :
 Int),
 (0 :
 Int))
 l j).snd))
 l.length)
 (↑x_1 :
 Int))).len) ∧
 ((ntE N
 (mkN
 (fun
 (j :
 Nat) =>
 ((nthD
 ((0 :
 Int),
 (0 :
 Int))
 l
 j).fst,
 (nthD
 ((0 :
 Int),
 (0 :
 Int))
 l
 j).snd))
 l.length)
 (↑x_1 :
 Int) !=
 (0 : Int) ||
 rkE N
 (mkN
 (fun
 (j :
 Nat) =>
 ((nthD
 ((0 :
 Int),
 (0 :
 Int))
 l
 j).fst,
 (nthD
 ((0 :
 Int),
 (0 :
 Int))
 l
 j).snd))
 l.length)
 (mkN
 (fun
 (i :
 Nat) =>
 nthD
 (0 :
 Int)
 (nthD []
 A x_1)
 i)
 (nthD [] A
 x_1).length) !=
 (0 : Int) ||
 (↑(rkV N
 (mkN
 (fun
 (j :
 Nat) =>
 ((nthD
 ((0 :
 Int),
 (0 :
 Int))
 l
 j).fst,
 (nthD
 ((0 :
 Int),
 (0 :
 Int))
 l
 j).snd))
 l.length)
 (mkN
 (fun
 (i :
 Nat) =>
 nthD
 (0 :
 Int)
 (nthD
 [] A
 x_1)
 i)
 (nthD [] A
 x_1).length)) :
 Int) !=
 (↑x_1 : Int) ||
 !decide
 (mkN
 (nthD
 (0 : Int)
 (ntL N
 (mkN
 (fun
 (j :
 Nat) =>
 ((nthD
 ((0 :
 Int),
 (0 :
 Int))
 l
 j).fst,
 (nthD
 ((0 :
 Int),
 (0 :
 Int))
 l
 j).snd))
 l.length)
 (↑x_1 :
 Int)))
 (AV.is
 (ntL N
 (mkN
 (fun
 (j :
 Nat) =>
 ((nthD
 ((0 :
 Int),
 (0 :
 Int))
 l
 j).fst,
 (nthD
 ((0 :
 Int),
 (0 :
 Int))
 l
 j).snd))
 l.length)
 (↑x_1 :
 Int))).len =
 mkN
 (fun
 (i :
 Nat) =>
 nthD
 (0 : Int)
 (nthD [] A
 x_1)
 i)
 (nthD [] A
 x_1).length)) =
 false →
 (mkN
 (fun (j : Nat) =>
 ((nthD
 ((0 : Int),
 (0 : Int))
 l j).fst,
 (nthD
 ((0 : Int),
 (0 : Int))
 l j).snd))
 l.length).length ≤
 (1099511627776 : Nat)) ∧
 ((ntE N
 (mkN
 (fun
 (j :
 Nat) =>
 ((nthD
 ((0 :
 Int),
 (0 :
 Int))
 l
 j).fst,
 (nthD
 ((0 :
 Int),
 (0 :
 Int))
 l
 j).snd))
 l.length)
 (↑x_1 :
 Int) !=
 (0 : Int) ||
 rkE N
 (mkN
 (fun
 (j :
 Nat) =>
 ((nthD
 ((0 :
 Int),
 (0 :
 Int))
 l
 j).fst,
 (nthD
 ((0 :
 Int),
 (0 :
 Int))
 l
 j).snd))
 l.length)
 (mkN
 (fun
 (i :
 Nat) =>
 nthD
 (0 :
 Int)
 (nthD
 [] A
 x_1)
 i)
 (nthD [] A
 x_1).length) !=
 (0 : Int) ||
 (↑(rkV N
 (mkN
 (fun
 (j :
 Nat) =>
 ((nthD
 ((0 :
 Int),
 (0 :
 Int))
 l
 j).fst,
 (nthD
 ((0 :
 Int),
 (0 :
 Int))
 l
 j).snd))
 l.length)
 (mkN
 (fun
 (i :
 Nat) =>
 nthD
 (0 :
 Int)
 (nthD
 []
 A
 x_1)
 i)
 (nthD []
 A
 x_1).length)) :
 Int) !=
 (↑x_1 : Int) ||
 !decide
 (mkN
 (nthD
 (0 : Int)
 (ntL N
 (mkN
 (fun
 (j :
 Nat) =>
 ((nthD
 ((0 :
 Int),
 (0 :
 Int))
 l
 j).fst,
 (nthD
 ((0 :
 Int),
 (0 :
 Int))
 l
 j).snd))
 l.length)
 (↑x_1 :
 Int)))
 (AV.is
 (ntL N
 (mkN
 (fun
 (j :
 Nat) =>
 ((nthD
 ((0 :
 Int),
 (0 :
 Int))
 l
 j).fst,
 (nthD
 ((0 :
 Int),
 (0 :
 Int))
 l
 j).snd))
 l.length)
 (↑x_1 :
 Int))).len =
 mkN
 (fun
 (i :
 Nat) =>
 nthD
 (0 :
 Int)
 (nthD []
 A x_1)
 i)
 (nthD [] A
 x_1).length)) =
 false →
 (mkN
 (nthD (0 : Int)
 (ntL N
 (mkN
 (fun
 (j :
 Nat) =>
 ((nthD
 ((0 :
 Int),
 (0 :
 Int))
 l
 j).fst,
 (nthD
 ((0 :
 Int),
 (0 :
 Int))
 l
 j).snd))
 l.length)
 (↑x_1 : Int)))
 (AV.is
 (ntL N
 (mkN
 (fun
 (j :
 Nat) =>
 ((nthD
 ((0 :
 Int),
 (0 :
 Int))
 l
 j).fst,
 (nthD
 ((0 :
 Int),
 (0 :
 Int))
 l
 j).snd))
 l.length)
 (↑x_1 :
 Int))).len).length ≤
 (1099511627776 :
 Nat)) ∧
 ((ntE N
 (mkN
 (fun
 (j :
 Nat) =>
 ((nthD
 ((0 :
 Int),
 (0 :
 Int))
 l
 j).fst,
 (nthD
 ((0 :
 Int),
 (0 :
 Int))
 l
 j).snd))
 l.length)
 (↑x_1 :
 Int) !=
 (0 :
 Int) ||
 rkE N
 (mkN
 (fun
 (j :
 Nat) =>
 ((nthD
 ((0 :
 Int),
 (0 :
 Int))
 l
 j).fst,
 (nthD
 ((0 :
 Int),
 (0 :
 Int))
 l
 j).snd))
 l.length)
 (mkN
 (fun
 (i :
 Nat) =>
 nthD
 (0 :
 Int)
 (nthD
 []
 A
 x_1)
 i)
 (nthD
 []
 A
 x_1).length) !=
 (0 :
 Int) ||
 (↑(rkV N
 (mkN
 (fun
 (j :
 Nat) =>
 ((nthD
 ((0 :
 Int),
 (0 :
 Int))
 l
 j).fst,
 (nthD
 ((0 :
 Int),
 (0 :
 Int))
 l
 j).snd))
 l.length)
 (mkN
 (fun
 (i :
 Nat) =>
 nthD
 (0 :
 Int)
 (nthD
 []
 A
 x_1)
 i)
 (nthD
 []
 A
 x_1).length)) :
 Int) !=
 (↑x_1 :
 Int) ||
 !decide
 (mkN
 (nthD
 (0 :
 Int)
 (ntL N
 (mkN
 (fun
 (j :
 Nat) =>
 ((nthD
 ((0 :
 Int),
 (0 :
 Int))
 l
 j).fst,
 (nthD
 ((0 :
 Int),
 (0 :
 Int))
 l
 j).snd))
 l.length)
 (↑x_1 :
 Int)))
 (AV.is
 (ntL
 N
 (mkN
 (fun
 (j :
 Nat) =>
 ((nthD
 ((0 :
 Int),
 (0 :
 Int))
 l
 j).fst,
 (nthD
 ((0 :
 Int),
 (0 :
 Int))
 l
 j).snd))
 l.length)
 (↑x_1 :
 Int))).len =
 mkN
 (fun
 (i :
 Nat) =>
 nthD
 (0 :
 Int)
 (nthD
 []
 A
 x_1)
 i)
 (nthD []
 A
 x_1).length) ||
 !isX N
 (mkN
 (fun
 (j :
 Nat) =>
 ((nthD
 ((0 :
 Int),
 (0 :
 Int))
 l
 j).fst,
 (nthD
 ((0 :
 Int),
 (0 :
 Int))
 l
 j).snd))
 l.length)
 (mkN
 (nthD
 (0 : Int)
 (ntL N
 (mkN
 (fun
 (j :
 Nat) =>
 ((nthD
 ((0 :
 Int),
 (0 :
 Int))
 l
 j).fst,
 (nthD
 ((0 :
 Int),
 (0 :
 Int))
 l
 j).snd))
 l.length)
 (↑x_1 :
 Int)))
 (AV.is
 (ntL N
 (mkN
 (fun
 (j :
 Nat) =>
 ((nthD
 ((0 :
 Int),
 (0 :
 Int))
 l
 j).fst,
 (nthD
 ((0 :
 Int),
 (0 :
 Int))
 l
 j).snd))
 l.length)
 (↑x_1 :
 Int))).len)) =
 true →
 false = true) ∧
 ((ntE N
 (mkN
 (fun
 (j :
 Nat) =>
 ((nthD
 ((0 :
 Int),
 (0 :
 Int))
 l
 j).fst,
 (nthD
 ((0 :
 Int),
 (0 :
 Int))
 l
 j).snd))
 l.length)
 (↑x_1 :
 Int) !=
 (0 :
 Int) ||
 rkE N
 (mkN
 (fun
 (j :
 Nat) =>
 ((nthD
 ((0 :
 Int),
 (0 :
 Int))
 l
 j).fst,
 (nthD
 ((0 :
 Int),
 (0 :
 Int))
 l
 j).snd))
 l.length)
 (mkN
 (fun
 (i :
 Nat) =>
 nthD
 (0 :
 Int)
 (nthD
 []
 A
 x_1)
 i)
 (nthD
 []
 A
 x_1).length) !=
 (0 :
 Int) ||
 (↑(rkV N
 (mkN
 (fun
 (j :
 Nat) =>
 ((nthD
 ((0 :
 Int),
 (0 :
 Int))
 l
 j).fst,
 (nthD
 ((0 :
 Int),
 (0 :
 Int))
 l
 j).snd))
 l.length)
 (mkN
 (fun
 (i :
 Nat) =>
 nthD
 (0 :
 Int)
 (nthD
 []
 A
 x_1)
 i)
 (nthD
 []
 A
 x_1).length)) :
 Int) !=
 (↑x_1 :
 Int) ||
 !decide
 (mkN
 (nthD
 (0 :
 Int)
 (ntL N
 (mkN
 (fun
 (j :
 Nat) =>
 ((nthD
 ((0 :
 Int),
 (0 :
 Int))
 l
 j).fst,
 (nthD
 ((0 :
 Int),
 (0 :
 Int))
 l
 j).snd))
 l.length)
 (↑x_1 :
 Int)))
 (AV.is
 (ntL
 N
 (mkN
 (fun
 (j :
 Nat) =>
 ((nthD
 ((0 :
 Int),
 (0 :
 Int))
 l
 j).fst,
 (nthD
 ((0 :
 Int),
 (0 :
 Int))
 l
 j).snd))
 l.length)
 (↑x_1 :
 Int))).len =
 mkN
 (fun
 (i :
 Nat) =>
 nthD
 (0 :
 Int)
 (nthD
 []
 A
 x_1)
 i)
 (nthD []
 A
 x_1).length) ||
 !isX N
 (mkN
 (fun
 (j :
 Nat) =>
 ((nthD
 ((0 :
 Int),
 (0 :
 Int))
 l
 j).fst,
 (nthD
 ((0 :
 Int),
 (0 :
 Int))
 l
 j).snd))
 l.length)
 (mkN
 (nthD
 (0 : Int)
 (ntL N
 (mkN
 (fun
 (j :
 Nat) =>
 ((nthD
 ((0 :
 Int),
 (0 :
 Int))
 l
 j).fst,
 (nthD
 ((0 :
 Int),
 (0 :
 Int))
 l
 j).snd))
 l.length)
 (↑x_1 :
 Int)))
 (AV.is
 (ntL N
 (mkN
 (fun
 (j :
 Nat) =>
 ((nthD
 ((0 :
 Int),
 (0 :
 Int))
 l
 j).fst,
 (nthD
 ((0 :
 Int),
 (0 :
 Int))
 l
 j).snd))
 l.length)
 (↑x_1 :
 Int))).len)) =
 false →
 ∃ (x_2 : Nat),
 (x_2 ≤ cntV N l ∧
 True) ∧
 ((PLoop.of
 (lRw
 (cntV
 N
 l))).ann
 x).mu
 x_2 <
 ((PLoop.of
 (lRw
 (cntV
 N
 l))).ann
 x).mu
 x_1 ∧
 ((N = N ∧
 l.length =
 l.length) ∧
 True ∧
 (↑(cntV N
 (mkN
 (fun
 (j :
 Nat) =>
 ((nthD
 ((0 :
 Int),
 (0 :
 Int))
 l
 j).fst,
 (nthD
 ((0 :
 Int),
 (0 :
 Int))
 l
 j).snd))
 l.length)) :
 Int) =
 (↑(cntV
 N
 (mkN
 (fun
 (j :
 Nat) =>
 ((nthD
 ((0 :
 Int),
 (0 :
 Int))
 l
 j).fst,
 (nthD
 ((0 :
 Int),
 (0 :
 Int))
 l
 j).snd))
 l.length)) :
 Int) ∧
 cntE N
 (mkN
 (fun
 (j :
 Nat) =>
 ((nthD
 ((0 :
 Int),
 (0 :
 Int))
 l
 j).fst,
 (nthD
 ((0 :
 Int),
 (0 :
 Int))
 l
 j).snd))
 l.length) =
 cntE
 N
 (mkN
 (fun
 (j :
 Nat) =>
 ((nthD
 ((0 :
 Int),
 (0 :
 Int))
 l
 j).fst,
 (nthD
 ((0 :
 Int),
 (0 :
 Int))
 l
 j).snd))
 l.length) ∧
 (AV.rs
 A).len =
 (AV.rs
 A).len ∧
 alE
 N
 (mkN
 (fun
 (j :
 Nat) =>
 ((nthD
 ((0 :
 Int),
 (0 :
 Int))
 l
 j).fst,
 (nthD
 ((0 :
 Int),
 (0 :
 Int))
 l
 j).snd))
 l.length)
 (1048576 :
 Int) =
 alE
 N
 (mkN
 (fun
 (j :
 Nat) =>
 ((nthD
 ((0 :
 Int),
 (0 :
 Int))
 l
 j).fst,
 (nthD
 ((0 :
 Int),
 (0 :
 Int))
 l
 j).snd))
 l.length)
 (1048576 :
 Int) ∧
 (AV.is
 S).len =
 (AV.is
 S).len ∧
 errP
 N
 (mkN
 (fun
 (j :
 Nat) =>
 ((nthD
 ((0 :
 Int),
 (0 :
 Int))
 l
 j).fst,
 (nthD
 ((0 :
 Int),
 (0 :
 Int))
 l
 j).snd))
 l.length) =
 errP
 N
 (mkN
 (fun
 (j :
 Nat) =>
 ((nthD
 ((0 :
 Int),
 (0 :
 Int))
 l
 j).fst,
 (nthD
 ((0 :
 Int),
 (0 :
 Int))
 l
 j).snd))
 l.length) ∧
 IntKind.i64.wrap
 ((↑x_1 :
 Int) +
 (1 :
 Int)) =
 (↑x_2 :
 Int) ∧
 (N =
 N ∧
 l.length =
 l.length) ∧
 (decide
 (N ≤
 (6 :
 Int)) &&
 decide
 ((↑(mkN
 (fun
 (j :
 Nat) =>
 ((nthD
 ((0 :
 Int),
 (0 :
 Int))
 l
 j).fst,
 (nthD
 ((0 :
 Int),
 (0 :
 Int))
 l
 j).snd))
 l.length).length :
 Int) ≤
 (60 :
 Int))) =
 (decide
 (N ≤
 (6 :
 Int)) &&
 decide
 ((↑(mkN
 (fun
 (j :
 Nat) =>
 ((nthD
 ((0 :
 Int),
 (0 :
 Int))
 l
 j).fst,
 (nthD
 ((0 :
 Int),
 (0 :
 Int))
 l
 j).snd))
 l.length).length :
 Int) ≤
 (60 :
 Int))) ∧
 (!(decide
 (N ≤
 (6 :
 Int)) &&
 decide
 ((↑(mkN
 (fun
 (j :
 Nat) =>
 ((nthD
 ((0 :
 Int),
 (0 :
 Int))
 l
 j).fst,
 (nthD
 ((0 :
 Int),
 (0 :
 Int))
 l
 j).snd))
 l.length).length :
 Int) ≤
 (60 :
 Int)))) =
 !(decide
 (N ≤
 (6 :
 Int)) &&
 decide
 ((↑(mkN
 (fun
 (j :
 Nat) =>
 ((nthD
 ((0 :
 Int),
 (0 :
 Int))
 l
 j).fst,
 (nthD
 ((0 :
 Int),
 (0 :
 Int))
 l
 j).snd))
 l.length).length :
 Int) ≤
 (60 :
 Int))) ∧
 (!(decide
 (N ≤
 (6 :
 Int)) &&
 decide
 ((↑(mkN
 (fun
 (j :
 Nat) =>
 ((nthD
 ((0 :
 Int),
 (0 :
 Int))
 l
 j).fst,
 (nthD
 ((0 :
 Int),
 (0 :
 Int))
 l
 j).snd))
 l.length).length :
 Int) ≤
 (60 :
 Int)))) =
 !(decide
 (N ≤
 (6 :
 Int)) &&
 decide
 ((↑(mkN
 (fun
 (j :
 Nat) =>
 ((nthD
 ((0 :
 Int),
 (0 :
 Int))
 l
 j).fst,
 (nthD
 ((0 :
 Int),
 (0 :
 Int))
 l
 j).snd))
 l.length).length :
 Int) ≤
 (60 :
 Int))) ∧
 (!(decide
 (N ≤
 (6 :
 Int)) &&
 decide
 ((↑(mkN
 (fun
 (j :
 Nat) =>
 ((nthD
 ((0 :
 Int),
 (0 :
 Int))
 l
 j).fst,
 (nthD
 ((0 :
 Int),
 (0 :
 Int))
 l
 j).snd))
 l.length).length :
 Int) ≤
 (60 :
 Int))) ||
 !validF
 N
 (mkN
 (fun
 (j :
 Nat) =>
 ((nthD
 ((0 :
 Int),
 (0 :
 Int))
 l
 j).fst,
 (nthD
 ((0 :
 Int),
 (0 :
 Int))
 l
 j).snd))
 l.length)) =
 (!(decide
 (N ≤
 (6 :
 Int)) &&
 decide
 ((↑(mkN
 (fun
 (j :
 Nat) =>
 ((nthD
 ((0 :
 Int),
 (0 :
 Int))
 l
 j).fst,
 (nthD
 ((0 :
 Int),
 (0 :
 Int))
 l
 j).snd))
 l.length).length :
 Int) ≤
 (60 :
 Int))) ||
 !validF
 N
 (mkN
 (fun
 (j :
 Nat) =>
 ((nthD
 ((0 :
 Int),
 (0 :
 Int))
 l
 j).fst,
 (nthD
 ((0 :
 Int),
 (0 :
 Int))
 l
 j).snd))
 l.length)) ∧
 (!(decide
 (N ≤
 (6 :
 Int)) &&
 decide
 ((↑(mkN
 (fun
 (j :
 Nat) =>
 ((nthD
 ((0 :
 Int),
 (0 :
 Int))
 l
 j).fst,
 (nthD
 ((0 :
 Int),
 (0 :
 Int))
 l
 j).snd))
 l.length).length :
 Int) ≤
 (60 :
 Int))) ||
 !validF
 N
 (mkN
 (fun
 (j :
 Nat) =>
 ((nthD
 ((0 :
 Int),
 (0 :
 Int))
 l
 j).fst,
 (nthD
 ((0 :
 Int),
 (0 :
 Int))
 l
 j).snd))
 l.length)) =
 (!(decide
 (N ≤
 (6 :
 Int)) &&
 decide
 ((↑(mkN
 (fun
 (j :
 Nat) =>
 ((nthD
 ((0 :
 Int),
 (0 :
 Int))
 l
 j).fst,
 (nthD
 ((0 :
 Int),
 (0 :
 Int))
 l
 j).snd))
 l.length).length :
 Int) ≤
 (60 :
 Int))) ||
 !validF
 N
 (mkN
 (fun
 (j :
 Nat) =>
 ((nthD
 ((0 :
 Int),
 (0 :
 Int))
 l
 j).fst,
 (nthD
 ((0 :
 Int),
 (0 :
 Int))
 l
 j).snd))
 l.length)) ∧
 false =
 false ∧
 ((↑(cntV
 N
 (mkN
 (fun
 (j :
 Nat) =>
 ((nthD
 ((0 :
 Int),
 (0 :
 Int))
 l
 j).fst,
 (nthD
 ((0 :
 Int),
 (0 :
 Int))
 l
 j).snd))
 l.length)) :
 Int) =
 (↑(cntV
 N
 (mkN
 (fun
 (j :
 Nat) =>
 ((nthD
 ((0 :
 Int),
 (0 :
 Int))
 l
 j).fst,
 (nthD
 ((0 :
 Int),
 (0 :
 Int))
 l
 j).snd))
 l.length)) :
 Int) ∧
 cntE
 N
 (mkN
 (fun
 (j :
 Nat) =>
 ((nthD
 ((0 :
 Int),
 (0 :
 Int))
 l
 j).fst,
 (nthD
 ((0 :
 Int),
 (0 :
 Int))
 l
 j).snd))
 l.length) =
 cntE
 N
 (mkN
 (fun
 (j :
 Nat) =>
 ((nthD
 ((0 :
 Int),
 (0 :
 Int))
 l
 j).fst,
 (nthD
 ((0 :
 Int),
 (0 :
 Int))
 l
 j).snd))
 l.length)) ∧
 (N =
 N ∧
 l.length =
 l.length) ∧
 ((↑(cntV
 N
 (mkN
 (fun
 (j :
 Nat) =>
 ((nthD
 ((0 :
 Int),
 (0 :
 Int))
 l
 j).fst,
 (nthD
 ((0 :
 Int),
 (0 :
 Int))
 l
 j).snd))
 l.length)) :
 Int) =
 (↑(cntV
 N
 (mkN
 (fun
 (j :
 Nat) =>
 ((nthD
 ((0 :
 Int),
 (0 :
 Int))
 l
 j).fst,
 (nthD
 ((0 :
 Int),
 (0 :
 Int))
 l
 j).snd))
 l.length)) :
 Int) ∧
 cntE
 N
 (mkN
 (fun
 (j :
 Nat) =>
 ((nthD
 ((0 :
 Int),
 (0 :
 Int))
 l
 j).fst,
 (nthD
 ((0 :
 Int),
 (0 :
 Int))
 l
 j).snd))
 l.length) =
 cntE
 N
 (mkN
 (fun
 (j :
 Nat) =>
 ((nthD
 ((0 :
 Int),
 (0 :
 Int))
 l
 j).fst,
 (nthD
 ((0 :
 Int),
 (0 :
 Int))
 l
 j).snd))
 l.length)) ∧
 (↑(cntV
 N
 (mkN
 (fun
 (j :
 Nat) =>
 ((nthD
 ((0 :
 Int),
 (0 :
 Int))
 l
 j).fst,
 (nthD
 ((0 :
 Int),
 (0 :
 Int))
 l
 j).snd))
 l.length)) :
 Int) =
 (↑(cntV
 N
 (mkN
 (fun
 (j :
 Nat) =>
 ((nthD
 ((0 :
 Int),
 (0 :
 Int))
 l
 j).fst,
 (nthD
 ((0 :
 Int),
 (0 :
 Int))
 l
 j).snd))
 l.length)) :
 Int) ∧
 cntE
 N
 (mkN
 (fun
 (j :
 Nat) =>
 ((nthD
 ((0 :
 Int),
 (0 :
 Int))
 l
 j).fst,
 (nthD
 ((0 :
 Int),
 (0 :
 Int))
 l
 j).snd))
 l.length) =
 cntE
 N
 (mkN
 (fun
 (j :
 Nat) =>
 ((nthD
 ((0 :
 Int),
 (0 :
 Int))
 l
 j).fst,
 (nthD
 ((0 :
 Int),
 (0 :
 Int))
 l
 j).snd))
 l.length) ∧
 ((AV.rs
 A).len =
 (AV.rs
 A).len ∧
 alE
 N
 (mkN
 (fun
 (j :
 Nat) =>
 ((nthD
 ((0 :
 Int),
 (0 :
 Int))
 l
 j).fst,
 (nthD
 ((0 :
 Int),
 (0 :
 Int))
 l
 j).snd))
 l.length)
 (1048576 :
 Int) =
 alE
 N
 (mkN
 (fun
 (j :
 Nat) =>
 ((nthD
 ((0 :
 Int),
 (0 :
 Int))
 l
 j).fst,
 (nthD
 ((0 :
 Int),
 (0 :
 Int))
 l
 j).snd))
 l.length)
 (1048576 :
 Int)) ∧
 (N =
 N ∧
 l.length =
 l.length) ∧
 ((AV.rs
 A).len =
 (AV.rs
 A).len ∧
 alE
 N
 (mkN
 (fun
 (j :
 Nat) =>
 ((nthD
 ((0 :
 Int),
 (0 :
 Int))
 l
 j).fst,
 (nthD
 ((0 :
 Int),
 (0 :
 Int))
 l
 j).snd))
 l.length)
 (1048576 :
 Int) =
 alE
 N
 (mkN
 (fun
 (j :
 Nat) =>
 ((nthD
 ((0 :
 Int),
 (0 :
 Int))
 l
 j).fst,
 (nthD
 ((0 :
 Int),
 (0 :
 Int))
 l
 j).snd))
 l.length)
 (1048576 :
 Int)) ∧
 (AV.rs
 A).len =
 (AV.rs
 A).len ∧
 alE
 N
 (mkN
 (fun
 (j :
 Nat) =>
 ((nthD
 ((0 :
 Int),
 (0 :
 Int))
 l
 j).fst,
 (nthD
 ((0 :
 Int),
 (0 :
 Int))
 l
 j).snd))
 l.length)
 (1048576 :
 Int) =
 alE
 N
 (mkN
 (fun
 (j :
 Nat) =>
 ((nthD
 ((0 :
 Int),
 (0 :
 Int))
 l
 j).fst,
 (nthD
 ((0 :
 Int),
 (0 :
 Int))
 l
 j).snd))
 l.length)
 (1048576 :
 Int) ∧
 ((AV.is
 S).len =
 (AV.is
 S).len ∧
 errP
 N
 (mkN
 (fun
 (j :
 Nat) =>
 ((nthD
 ((0 :
 Int),
 (0 :
 Int))
 l
 j).fst,
 (nthD
 ((0 :
 Int),
 (0 :
 Int))
 l
 j).snd))
 l.length) =
 errP
 N
 (mkN
 (fun
 (j :
 Nat) =>
 ((nthD
 ((0 :
 Int),
 (0 :
 Int))
 l
 j).fst,
 (nthD
 ((0 :
 Int),
 (0 :
 Int))
 l
 j).snd))
 l.length)) ∧
 (N =
 N ∧
 l.length =
 l.length) ∧
 ((AV.is
 S).len =
 (AV.is
 S).len ∧
 errP
 N
 (mkN
 (fun
 (j :
 Nat) =>
 ((nthD
 ((0 :
 Int),
 (0 :
 Int))
 l
 j).fst,
 (nthD
 ((0 :
 Int),
 (0 :
 Int))
 l
 j).snd))
 l.length) =
 errP
 N
 (mkN
 (fun
 (j :
 Nat) =>
 ((nthD
 ((0 :
 Int),
 (0 :
 Int))
 l
 j).fst,
 (nthD
 ((0 :
 Int),
 (0 :
 Int))
 l
 j).snd))
 l.length)) ∧
 (AV.is
 S).len =
 (AV.is
 S).len ∧
 errP
 N
 (mkN
 (fun
 (j :
 Nat) =>
 ((nthD
 ((0 :
 Int),
 (0 :
 Int))
 l
 j).fst,
 (nthD
 ((0 :
 Int),
 (0 :
 Int))
 l
 j).snd))
 l.length) =
 errP
 N
 (mkN
 (fun
 (j :
 Nat) =>
 ((nthD
 ((0 :
 Int),
 (0 :
 Int))
 l
 j).fst,
 (nthD
 ((0 :
 Int),
 (0 :
 Int))
 l
 j).snd))
 l.length) ∧
 cntE
 N
 (mkN
 (fun
 (j :
 Nat) =>
 ((nthD
 ((0 :
 Int),
 (0 :
 Int))
 l
 j).fst,
 (nthD
 ((0 :
 Int),
 (0 :
 Int))
 l
 j).snd))
 l.length) =
 cntE
 N
 (mkN
 (fun
 (j :
 Nat) =>
 ((nthD
 ((0 :
 Int),
 (0 :
 Int))
 l
 j).fst,
 (nthD
 ((0 :
 Int),
 (0 :
 Int))
 l
 j).snd))
 l.length) ∧
 (cntE
 N
 (mkN
 (fun
 (j :
 Nat) =>
 ((nthD
 ((0 :
 Int),
 (0 :
 Int))
 l
 j).fst,
 (nthD
 ((0 :
 Int),
 (0 :
 Int))
 l
 j).snd))
 l.length) !=
 (0 :
 Int)) =
 (cntE
 N
 (mkN
 (fun
 (j :
 Nat) =>
 ((nthD
 ((0 :
 Int),
 (0 :
 Int))
 l
 j).fst,
 (nthD
 ((0 :
 Int),
 (0 :
 Int))
 l
 j).snd))
 l.length) !=
 (0 :
 Int)) ∧
 (cntE
 N
 (mkN
 (fun
 (j :
 Nat) =>
 ((nthD
 ((0 :
 Int),
 (0 :
 Int))
 l
 j).fst,
 (nthD
 ((0 :
 Int),
 (0 :
 Int))
 l
 j).snd))
 l.length) !=
 (0 :
 Int)) =
 (cntE
 N
 (mkN
 (fun
 (j :
 Nat) =>
 ((nthD
 ((0 :
 Int),
 (0 :
 Int))
 l
 j).fst,
 (nthD
 ((0 :
 Int),
 (0 :
 Int))
 l
 j).snd))
 l.length) !=
 (0 :
 Int)) ∧
 (cntE
 N
 (mkN
 (fun
 (j :
 Nat) =>
 ((nthD
 ((0 :
 Int),
 (0 :
 Int))
 l
 j).fst,
 (nthD
 ((0 :
 Int),
 (0 :
 Int))
 l
 j).snd))
 l.length) !=
 (0 :
 Int) ||
 alE
 N
 (mkN
 (fun
 (j :
 Nat) =>
 ((nthD
 ((0 :
 Int),
 (0 :
 Int))
 l
 j).fst,
 (nthD
 ((0 :
 Int),
 (0 :
 Int))
 l
 j).snd))
 l.length)
 (1048576 :
 Int) !=
 (0 :
 Int)) =
 (cntE
 N
 (mkN
 (fun
 (j :
 Nat) =>
 ((nthD
 ((0 :
 Int),
 (0 :
 Int))
 l
 j).fst,
 (nthD
 ((0 :
 Int),
 (0 :
 Int))
 l
 j).snd))
 l.length) !=
 (0 :
 Int) ||
 alE
 N
 (mkN
 (fun
 (j :
 Nat) =>
 ((nthD
 ((0 :
 Int),
 (0 :
 Int))
 l
 j).fst,
 (nthD
 ((0 :
 Int),
 (0 :
 Int))
 l
 j).snd))
 l.length)
 (1048576 :
 Int) !=
 (0 :
 Int)) ∧
 (cntE
 N
 (mkN
 (fun
 (j :
 Nat) =>
 ((nthD
 ((0 :
 Int),
 (0 :
 Int))
 l
 j).fst,
 (nthD
 ((0 :
 Int),
 (0 :
 Int))
 l
 j).snd))
 l.length) !=
 (0 :
 Int) ||
 alE
 N
 (mkN
 (fun
 (j :
 Nat) =>
 ((nthD
 ((0 :
 Int),
 (0 :
 Int))
 l
 j).fst,
 (nthD
 ((0 :
 Int),
 (0 :
 Int))
 l
 j).snd))
 l.length)
 (1048576 :
 Int) !=
 (0 :
 Int)) =
 (cntE
 N
 (mkN
 (fun
 (j :
 Nat) =>
 ((nthD
 ((0 :
 Int),
 (0 :
 Int))
 l
 j).fst,
 (nthD
 ((0 :
 Int),
 (0 :
 Int))
 l
 j).snd))
 l.length) !=
 (0 :
 Int) ||
 alE
 N
 (mkN
 (fun
 (j :
 Nat) =>
 ((nthD
 ((0 :
 Int),
 (0 :
 Int))
 l
 j).fst,
 (nthD
 ((0 :
 Int),
 (0 :
 Int))
 l
 j).snd))
 l.length)
 (1048576 :
 Int) !=
 (0 :
 Int)) ∧
 (cntE
 N
 (mkN
 (fun
 (j :
 Nat) =>
 ((nthD
 ((0 :
 Int),
 (0 :
 Int))
 l
 j).fst,
 (nthD
 ((0 :
 Int),
 (0 :
 Int))
 l
 j).snd))
 l.length) !=
 (0 :
 Int) ||
 alE
 N
 (mkN
 (fun
 (j :
 Nat) =>
 ((nthD
 ((0 :
 Int),
 (0 :
 Int))
 l
 j).fst,
 (nthD
 ((0 :
 Int),
 (0 :
 Int))
 l
 j).snd))
 l.length)
 (1048576 :
 Int) !=
 (0 :
 Int) ||
 errP
 N
 (mkN
 (fun
 (j :
 Nat) =>
 ((nthD
 ((0 :
 Int),
 (0 :
 Int))
 l
 j).fst,
 (nthD
 ((0 :
 Int),
 (0 :
 Int))
 l
 j).snd))
 l.length) !=
 (0 :
 Int)) =
 (cntE
 N
 (mkN
 (fun
 (j :
 Nat) =>
 ((nthD
 ((0 :
 Int),
 (0 :
 Int))
 l
 j).fst,
 (nthD
 ((0 :
 Int),
 (0 :
 Int))
 l
 j).snd))
 l.length) !=
 (0 :
 Int) ||
 alE
 N
 (mkN
 (fun
 (j :
 Nat) =>
 ((nthD
 ((0 :
 Int),
 (0 :
 Int))
 l
 j).fst,
 (nthD
 ((0 :
 Int),
 (0 :
 Int))
 l
 j).snd))
 l.length)
 (1048576 :
 Int) !=
 (0 :
 Int) ||
 errP
 N
 (mkN
 (fun
 (j :
 Nat) =>
 ((nthD
 ((0 :
 Int),
 (0 :
 Int))
 l
 j).fst,
 (nthD
 ((0 :
 Int),
 (0 :
 Int))
 l
 j).snd))
 l.length) !=
 (0 :
 Int)) ∧
 (cntE
 N
 (mkN
 (fun
 (j :
 Nat) =>
 ((nthD
 ((0 :
 Int),
 (0 :
 Int))
 l
 j).fst,
 (nthD
 ((0 :
 Int),
 (0 :
 Int))
 l
 j).snd))
 l.length) !=
 (0 :
 Int) ||
 alE
 N
 (mkN
 (fun
 (j :
 Nat) =>
 ((nthD
 ((0 :
 Int),
 (0 :
 Int))
 l
 j).fst,
 (nthD
 ((0 :
 Int),
 (0 :
 Int))
 l
 j).snd))
 l.length)
 (1048576 :
 Int) !=
 (0 :
 Int) ||
 errP
 N
 (mkN
 (fun
 (j :
 Nat) =>
 ((nthD
 ((0 :
 Int),
 (0 :
 Int))
 l
 j).fst,
 (nthD
 ((0 :
 Int),
 (0 :
 Int))
 l
 j).snd))
 l.length) !=
 (0 :
 Int)) =
 (cntE
 N
 (mkN
 (fun
 (j :
 Nat) =>
 ((nthD
 ((0 :
 Int),
 (0 :
 Int))
 l
 j).fst,
 (nthD
 ((0 :
 Int),
 (0 :
 Int))
 l
 j).snd))
 l.length) !=
 (0 :
 Int) ||
 alE
 N
 (mkN
 (fun
 (j :
 Nat) =>
 ((nthD
 ((0 :
 Int),
 (0 :
 Int))
 l
 j).fst,
 (nthD
 ((0 :
 Int),
 (0 :
 Int))
 l
 j).snd))
 l.length)
 (1048576 :
 Int) !=
 (0 :
 Int) ||
 errP
 N
 (mkN
 (fun
 (j :
 Nat) =>
 ((nthD
 ((0 :
 Int),
 (0 :
 Int))
 l
 j).fst,
 (nthD
 ((0 :
 Int),
 (0 :
 Int))
 l
 j).snd))
 l.length) !=
 (0 :
 Int)) ∧
 (cntE
 N
 (mkN
 (fun
 (j :
 Nat) =>
 ((nthD
 ((0 :
 Int),
 (0 :
 Int))
 l
 j).fst,
 (nthD
 ((0 :
 Int),
 (0 :
 Int))
 l
 j).snd))
 l.length) !=
 (0 :
 Int) ||
 alE
 N
 (mkN
 (fun
 (j :
 Nat) =>
 ((nthD
 ((0 :
 Int),
 (0 :
 Int))
 l
 j).fst,
 (nthD
 ((0 :
 Int),
 (0 :
 Int))
 l
 j).snd))
 l.length)
 (1048576 :
 Int) !=
 (0 :
 Int) ||
 errP
 N
 (mkN
 (fun
 (j :
 Nat) =>
 ((nthD
 ((0 :
 Int),
 (0 :
 Int))
 l
 j).fst,
 (nthD
 ((0 :
 Int),
 (0 :
 Int))
 l
 j).snd))
 l.length) !=
 (0 :
 Int) ||
 (↑(AV.rs
 A).len :
 Int) !=
 (↑(cntV
 N
 (mkN
 (fun
 (j :
 Nat) =>
 ((nthD
 ((0 :
 Int),
 (0 :
 Int))
 l
 j).fst,
 (nthD
 ((0 :
 Int),
 (0 :
 Int))
 l
 j).snd))
 l.length)) :
 Int)) =
 (cntE
 N
 (mkN
 (fun
 (j :
 Nat) =>
 ((nthD
 ((0 :
 Int),
 (0 :
 Int))
 l
 j).fst,
 (nthD
 ((0 :
 Int),
 (0 :
 Int))
 l
 j).snd))
 l.length) !=
 (0 :
 Int) ||
 alE
 N
 (mkN
 (fun
 (j :
 Nat) =>
 ((nthD
 ((0 :
 Int),
 (0 :
 Int))
 l
 j).fst,
 (nthD
 ((0 :
 Int),
 (0 :
 Int))
 l
 j).snd))
 l.length)
 (1048576 :
 Int) !=
 (0 :
 Int) ||
 errP
 N
 (mkN
 (fun
 (j :
 Nat) =>
 ((nthD
 ((0 :
 Int),
 (0 :
 Int))
 l
 j).fst,
 (nthD
 ((0 :
 Int),
 (0 :
 Int))
 l
 j).snd))
 l.length) !=
 (0 :
 Int) ||
 (↑(AV.rs
 A).len :
 Int) !=
 (↑(cntV
 N
 (mkN
 (fun
 (j :
 Nat) =>
 ((nthD
 ((0 :
 Int),
 (0 :
 Int))
 l
 j).fst,
 (nthD
 ((0 :
 Int),
 (0 :
 Int))
 l
 j).snd))
 l.length)) :
 Int)) ∧
 (cntE
 N
 (mkN
 (fun
 (j :
 Nat) =>
 ((nthD
 ((0 :
 Int),
 (0 :
 Int))
 l
 j).fst,
 (nthD
 ((0 :
 Int),
 (0 :
 Int))
 l
 j).snd))
 l.length) !=
 (0 :
 Int) ||
 alE
 N
 (mkN
 (fun
 (j :
 Nat) =>
 ((nthD
 ((0 :
 Int),
 (0 :
 Int))
 l
 j).fst,
 (nthD
 ((0 :
 Int),
 (0 :
 Int))
 l
 j).snd))
 l.length)
 (1048576 :
 Int) !=
 (0 :
 Int) ||
 errP
 N
 (mkN
 (fun
 (j :
 Nat) =>
 ((nthD
 ((0 :
 Int),
 (0 :
 Int))
 l
 j).fst,
 (nthD
 ((0 :
 Int),
 (0 :
 Int))
 l
 j).snd))
 l.length) !=
 (0 :
 Int) ||
 (↑(AV.rs
 A).len :
 Int) !=
 (↑(cntV
 N
 (mkN
 (fun
 (j :
 Nat) =>
 ((nthD
 ((0 :
 Int),
 (0 :
 Int))
 l
 j).fst,
 (nthD
 ((0 :
 Int),
 (0 :
 Int))
 l
 j).snd))
 l.length)) :
 Int)) =
 (cntE
 N
 (mkN
 (fun
 (j :
 Nat) =>
 ((nthD
 ((0 :
 Int),
 (0 :
 Int))
 l
 j).fst,
 (nthD
 ((0 :
 Int),
 (0 :
 Int))
 l
 j).snd))
 l.length) !=
 (0 :
 Int) ||
 alE
 N
 (mkN
 (fun
 (j :
 Nat) =>
 ((nthD
 ((0 :
 Int),
 (0 :
 Int))
 l
 j).fst,
 (nthD
 ((0 :
 Int),
 (0 :
 Int))
 l
 j).snd))
 l.length)
 (1048576 :
 Int) !=
 (0 :
 Int) ||
 errP
 N
 (mkN
 (fun
 (j :
 Nat) =>
 ((nthD
 ((0 :
 Int),
 (0 :
 Int))
 l
 j).fst,
 (nthD
 ((0 :
 Int),
 (0 :
 Int))
 l
 j).snd))
 l.length) !=
 (0 :
 Int) ||
 (↑(AV.rs
 A).len :
 Int) !=
 (↑(cntV
 N
 (mkN
 (fun
 (j :
 Nat) =>
 ((nthD
 ((0 :
 Int),
 (0 :
 Int))
 l
 j).fst,
 (nthD
 ((0 :
 Int),
 (0 :
 Int))
 l
 j).snd))
 l.length)) :
 Int)) ∧
 (cntE
 N
 (mkN
 (fun
 (j :
 Nat) =>
 ((nthD
 ((0 :
 Int),
 (0 :
 Int))
 l
 j).fst,
 (nthD
 ((0 :
 Int),
 (0 :
 Int))
 l
 j).snd))
 l.length) !=
 (0 :
 Int) ||
 alE
 N
 (mkN
 (fun
 (j :
 Nat) =>
 ((nthD
 ((0 :
 Int),
 (0 :
 Int))
 l
 j).fst,
 (nthD
 ((0 :
 Int),
 (0 :
 Int))
 l
 j).snd))
 l.length)
 (1048576 :
 Int) !=
 (0 :
 Int) ||
 errP
 N
 (mkN
 (fun
 (j :
 Nat) =>
 ((nthD
 ((0 :
 Int),
 (0 :
 Int))
 l
 j).fst,
 (nthD
 ((0 :
 Int),
 (0 :
 Int))
 l
 j).snd))
 l.length) !=
 (0 :
 Int) ||
 (↑(AV.rs
 A).len :
 Int) !=
 (↑(cntV
 N
 (mkN
 (fun
 (j :
 Nat) =>
 ((nthD
 ((0 :
 Int),
 (0 :
 Int))
 l
 j).fst,
 (nthD
 ((0 :
 Int),
 (0 :
 Int))
 l
 j).snd))
 l.length)) :
 Int) ||
 decide
 ((↑(cntV
 N
 (mkN
 (fun
 (j :
 Nat) =>
 ((nthD
 ((0 :
 Int),
 (0 :
 Int))
 l
 j).fst,
 (nthD
 ((0 :
 Int),
 (0 :
 Int))
 l
 j).snd))
 l.length)) :
 Int) <
 (1 :
 Int))) =
 (cntE
 N
 (mkN
 (fun
 (j :
 Nat) =>
 ((nthD
 ((0 :
 Int),
 (0 :
 Int))
 l
 j).fst,
 (nthD
 ((0 :
 Int),
 (0 :
 Int))
 l
 j).snd))
 l.length) !=
 (0 :
 Int) ||
 alE
 N
 (mkN
 (fun
 (j :
 Nat) =>
 ((nthD
 ((0 :
 Int),
 (0 :
 Int))
 l
 j).fst,
 (nthD
 ((0 :
 Int),
 (0 :
 Int))
 l
 j).snd))
 l.length)
 (1048576 :
 Int) !=
 (0 :
 Int) ||
 errP
 N
 (mkN
 (fun
 (j :
 Nat) =>
 ((nthD
 ((0 :
 Int),
 (0 :
 Int))
 l
 j).fst,
 (nthD
 ((0 :
 Int),
 (0 :
 Int))
 l
 j).snd))
 l.length) !=
 (0 :
 Int) ||
 (↑(AV.rs
 A).len :
 Int) !=
 (↑(cntV
 N
 (mkN
 (fun
 (j :
 Nat) =>
 ((nthD
 ((0 :
 Int),
 (0 :
 Int))
 l
 j).fst,
 (nthD
 ((0 :
 Int),
 (0 :
 Int))
 l
 j).snd))
 l.length)) :
 Int) ||
 decide
 ((↑(cntV
 N
 (mkN
 (fun
 (j :
 Nat) =>
 ((nthD
 ((0 :
 Int),
 (0 :
 Int))
 l
 j).fst,
 (nthD
 ((0 :
 Int),
 (0 :
 Int))
 l
 j).snd))
 l.length)) :
 Int) <
 (1 :
 Int))) ∧
 (cntE
 N
 (mkN
 (fun
 (j :
 Nat) =>
 ((nthD
 ((0 :
 Int),
 (0 :
 Int))
 l
 j).fst,
 (nthD
 ((0 :
 Int),
 (0 :
 Int))
 l
 j).snd))
 l.length) !=
 (0 :
 Int) ||
 alE
 N
 (mkN
 (fun
 (j :
 Nat) =>
 ((nthD
 ((0 :
 Int),
 (0 :
 Int))
 l
 j).fst,
 (nthD
 ((0 :
 Int),
 (0 :
 Int))
 l
 j).snd))
 l.length)
 (1048576 :
 Int) !=
 (0 :
 Int) ||
 errP
 N
 (mkN
 (fun
 (j :
 Nat) =>
 ((nthD
 ((0 :
 Int),
 (0 :
 Int))
 l
 j).fst,
 (nthD
 ((0 :
 Int),
 (0 :
 Int))
 l
 j).snd))
 l.length) !=
 (0 :
 Int) ||
 (↑(AV.rs
 A).len :
 Int) !=
 (↑(cntV
 N
 (mkN
 (fun
 (j :
 Nat) =>
 ((nthD
 ((0 :
 Int),
 (0 :
 Int))
 l
 j).fst,
 (nthD
 ((0 :
 Int),
 (0 :
 Int))
 l
 j).snd))
 l.length)) :
 Int) ||
 decide
 ((↑(cntV
 N
 (mkN
 (fun
 (j :
 Nat) =>
 ((nthD
 ((0 :
 Int),
 (0 :
 Int))
 l
 j).fst,
 (nthD
 ((0 :
 Int),
 (0 :
 Int))
 l
 j).snd))
 l.length)) :
 Int) <
 (1 :
 Int))) =
 (cntE
 N
 (mkN
 (fun
 (j :
 Nat) =>
 ((nthD
 ((0 :
 Int),
 (0 :
 Int))
 l
 j).fst,
 (nthD
 ((0 :
 Int),
 (0 :
 Int))
 l
 j).snd))
 l.length) !=
 (0 :
 Int) ||
 alE
 N
 (mkN
 (fun
 (j :
 Nat) =>
 ((nthD
 ((0 :
 Int),
 (0 :
 Int))
 l
 j).fst,
 (nthD
 ((0 :
 Int),
 (0 :
 Int))
 l
 j).snd))
 l.length)
 (1048576 :
 Int) !=
 (0 :
 Int) ||
 errP
 N
 (mkN
 (fun
 (j :
 Nat) =>
 ((nthD
 ((0 :
 Int),
 (0 :
 Int))
 l
 j).fst,
 (nthD
 ((0 :
 Int),
 (0 :
 Int))
 l
 j).snd))
 l.length) !=
 (0 :
 Int) ||
 (↑(AV.rs
 A).len :
 Int) !=
 (↑(cntV
 N
 (mkN
 (fun
 (j :
 Nat) =>
 ((nthD
 ((0 :
 Int),
 (0 :
 Int))
 l
 j).fst,
 (nthD
 ((0 :
 Int),
 (0 :
 Int))
 l
 j).snd))
 l.length)) :
 Int) ||
 decide
 ((↑(cntV
 N
 (mkN
 (fun
 (j :
 Nat) =>
 ((nthD
 ((0 :
 Int),
 (0 :
 Int))
 l
 j).fst,
 (nthD
 ((0 :
 Int),
 (0 :
 Int))
 l
 j).snd))
 l.length)) :
 Int) <
 (1 :
 Int))) ∧
 false =
 false ∧
 True) ∧
 (l.length =
 l.length ∧
 (∀
 (j :
 Nat),
 j <
 l.length →
 (nthD
 ((0 :
 Int),
 (0 :
 Int))
 l
 j).fst =
 (nthD
 ((0 :
 Int),
 (0 :
 Int))
 l
 j).fst) ∧
 (∀
 (j :
 Nat),
 j <
 l.length →
 (nthD
 ((0 :
 Int),
 (0 :
 Int))
 l
 j).snd =
 (nthD
 ((0 :
 Int),
 (0 :
 Int))
 l
 j).snd) ∧
 True) ∧
 (N = N ∧
 l.length =
 l.length) ∧
 ((AV.rs
 A).len =
 (AV.rs
 A).len ∧
 ((∀
 (j :
 Nat),
 j <
 (AV.rs
 A).len →
 (nthD
 []
 A
 j).length =
 (nthD
 []
 A
 j).length) ∧
 (∀
 (j :
 Nat),
 j <
 (AV.rs
 A).len →
 ∀
 (i :
 Nat),
 i <
 (nthD
 []
 A
 j).length →
 nthD
 (0 :
 Int)
 (nthD
 []
 A
 j)
 i =
 nthD
 (0 :
 Int)
 (nthD
 []
 A
 j)
 i) ∧
 True) ∧
 True) ∧
 ((AV.is
 S).len =
 (AV.is
 S).len ∧
 (∀
 (j :
 Nat),
 j <
 (AV.is
 S).len →
 nthD
 (0 :
 Int)
 S
 j =
 nthD
 (0 :
 Int)
 S
 j) ∧
 True) ∧
 ((nthD
 []
 A
 (Int.toNat
 (0 :
 Int))).length =
 (nthD
 []
 A
 (Int.toNat
 (0 :
 Int))).length ∧
 (∀
 (j :
 Nat),
 j <
 (nthD
 []
 A
 (Int.toNat
 (0 :
 Int))).length →
 nthD
 (0 :
 Int)
 (nthD
 []
 A
 (Int.toNat
 (0 :
 Int)))
 j =
 nthD
 (0 :
 Int)
 (nthD
 []
 A
 (Int.toNat
 (0 :
 Int)))
 j) ∧
 True) ∧
 True)) ∧
 (decide
 ((↑x_1 : Int) <
 (↑(cntV N
 (mkN
 (fun (j : Nat) =>
 ((nthD ((0 : Int), (0 : Int)) l j).fst,
 (nthD ((0 : Int), (0 : Int)) l j).snd))
 l.length)) :
 Int)) =
 false →
 true = true)))) := by kernel_rfl
theorem v10 (N : Int) (l : List Pq) (A : List (List Int)) (S : List Int) (hA : A = alL N l 1048576) (hS : S = fstL N l) : fnVc (tab [kFew [], kVal' [], kAcy' [], kAwk [], kCnt [], kAll [none, none, some (.rs A)], kFst [none, none, none, some (.is S)], kNth [], kRnk [], kIs [], kInt []] [(0, .of (lRw (cntV N l)))]) Try.f10 [rlV N 0 l] [arP l] (plainIs .tt) := by
  rw [v10_eq]
  simp only [eq_self, true_and, and_true, implies_true, imp_self, mkN_ps, mkN_rs, mkN_self, mkN_len, PLoop.of, lCnt, AV.len, lRw, lFe]
  subst hA; subst hS
  refine ⟨fun h => ?_, fun h => ?_, fun h => ?_⟩
  · have := few_t h; omega
  · rw [Bool.or_eq_false_iff] at h; have := few_t h.1; omega
  rw [Bool.or_eq_false_iff, Bool.or_eq_false_iff] at h
  obtain ⟨hN6, hl⟩ := few_t h.1.1
  have hP := ok_t h.1.2 h.2
  obtain ⟨hR, hc⟩ := Rl.small hP (by omega)
  obtain ⟨e, hN, hN2, hn, hv⟩ := befP_ok hP
  have hcn := cmp_bound (B := befP N l)
  have h46 : (befP N l).length ^ (befP N l).length ≤ 46656 := by
    have : ∀ m : Fin 7, m.1 ^ m.1 ≤ 46656 := by decide +kernel
    exact this ⟨(befP N l).length, by omega⟩
  have hpos := cmp_pos0 hR
  have hlen := ext_len0 hR
  have hab : alB N l 1048576 = true := Nat.ble_eq_true_of_le (by rw [hlen]; have : Int.toNat 1048576 = 1048576 := rfl; omega)
  have hao : alO 1048576 = false := rfl
  have hA : alL N l 1048576 = extP N l [] := by rw [alL, hP, hao, hab]; rfl
  have hAE : alE N l 1048576 = 0 := by rw [alE, hP, hao, hab]; rfl
  have hCV : cntV N l = cmp (befP N l) 0 := by rw [cntV, hP, hc]; rfl
  have hCE : cntE N l = 0 := by rw [cntE, hP, errC_ok hc]; rfl
  have hE : errP N l = 0 := by
    have h1 : (errP N l != 0) = false := by rw [err_ok, hP]; rfl
    simpa using h1
  have hfst := fst_ext hR
  have hfl := fst_len (N := N) (l := l)
  have hl0 : (nthD [] (extP N l []) 0).length = N.toNat := ext_lenN hR hpos
  have hi0 : Int.toNat 0 = 0 := rfl
  rw [hA, hCE, hAE, hE, hCV, hi0, ← hfst]
  refine ⟨by omega, by omega, rfl, by omega, rfl, fun _ => ⟨by omega, by omega⟩, fun _ => by omega, fun _ => by omega, fun _ => by omega, fun hb => ?_, fun _ => ⟨(), ⟨0, Nat.zero_le _, rfl⟩, fun i hi => fun hlt => ?_⟩⟩
  · rw [bne_ff rfl, bne_ff (show (((extP N l []).length : Nat) : Int) = (cmp (befP N l) 0 : Int) by rw [hlen]), decide_eq_false (show ¬ (cmp (befP N l) 0 : Int) < 1 by omega)] at hb
    simp at hb
  · have hi2 : i < cmp (befP N l) 0 := lt_len hlt
    have hg := ext_get hR hi2
    have hll := ext_lenN hR hi2
    have hX := nt_isX hR hi2
    have hO : ntO (befP N l) i = false := by
      rw [ntO, Bool.or_eq_false_iff]
      exact ⟨decide_eq_false (by omega), decide_eq_false (by omega)⟩
    have hNL : ntL N l i = nthD [] (extP N l []) i := by rw [ntL, hP, hc, hO, Int.toNat_natCast, hg]; rfl
    have hNE : ntE N l i = 0 := by rw [ntE, hP, hc, hO]; rfl
    have hRE : rkE N l (nthD [] (extP N l []) i) = 0 := by rw [rkE, hP, hg, hX, errC_ok hc]; rfl
    have hRV : rkV N l (nthD [] (extP N l []) i) = i := by
      rw [rkV, hP, hll, hg, hX, hc]; exact nt_rk hR hi2
    have hX2 : isX N l (nthD [] (extP N l []) i) = true := by rw [hg]; exact hX
    rw [hNL, hNE, hRE, hRV, hX2]
    refine ⟨by omega, bd (by omega), by omega, by omega, by omega, fun _ => bd (by omega), fun _ => by omega, fun _ => by omega, fun _ => by omega, fun _ => by omega, fun _ => by omega, fun hb => ?_, fun _ => ⟨i + 1, hi2, by omega, wrS (n := 46656) (by omega) (by omega)⟩⟩
    simp at hb

end Go.Proofs.Ytiokmglajigngaa
