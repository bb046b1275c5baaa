/-
  A part of the proof (Rw26).
-/
import Derived.Test.YtcbmbnlgilampaaRw25
namespace Go.Proofs.Ytcbmbnlgilampaa
open Go Go.Proofs.Ytcbmbnlgilampaa.Sx
set_option maxRecDepth 100000
set_option linter.unusedSimpArgs false
set_option linter.unusedVariables false

theorem farP_some {f : Pf} {n k : Nat} (h : 0 ≤ (cyG f n k).1) : farP f n k = disP n (disG f n (cyG f n k).1 n) := by
  rw [farP, decide_eq_false (by omega)]; rfl
theorem farR_some {f : Pf} {n k : Nat} (h : 0 ≤ (cyG f n k).1) : farR f n k = disR n (disG f n (cyG f n k).1 n) := by
  rw [farR, decide_eq_false (by omega)]; rfl
theorem farP_new {f : Pf} {n k : Nat} (h : (disG f n k n k != 0 && (decide ((cyG f n k).1 < 0) || decide (disG f n k n k < (cyG f n k).2))) = true) : cyG f n (k + 1) = ((k : Int), disG f n k n k) ∧ farP f n (k + 1) = disP n (disG f n k n) ∧ farR f n (k + 1) = disR n (disG f n k n) := by
  have e : cyG f n (k + 1) = ((k : Int), disG f n k n k) := by rw [cyG_succ, h]; rfl
  refine ⟨e, ?_, ?_⟩
  · rw [farP_some (by rw [e]; simp), e]
  · rw [farR_some (by rw [e]; simp), e]
theorem farP_old {f : Pf} {n k : Nat} (h : (disG f n k n k != 0 && (decide ((cyG f n k).1 < 0) || decide (disG f n k n k < (cyG f n k).2))) = false) : cyG f n (k + 1) = cyG f n k ∧ farP f n (k + 1) = farP f n k ∧ farR f n (k + 1) = farR f n k := by
  have e : cyG f n (k + 1) = cyG f n k := by rw [cyG_succ, h]; rfl
  exact ⟨e, by rw [farP, farP, e], by rw [farR, farR, e]⟩
theorem ng_lt {b : Bool} {v L : Int} (h0 : 0 ≤ v) : (decide (ng v ≥ 0) && (b || decide (ng v < L))) = (v != 0 && (b || decide (v < L))) := by
  rw [ng_pos h0]
  by_cases e : v = 0
  · subst e; simp
  · rw [ng, beq_eq_false_iff_ne.2 e, cond_false]
@[simp] theorem pthL_len (p : Nat → Int) (k : Nat) : (pthL p k).length = k := mkN_len _ _
theorem nthD_pthL {p : Nat → Int} {k j : Nat} (h : j < k) : nthD 0 (pthL p k) j = p j := nthD_mkN _ _ h
theorem pthL_app {p : Nat → Int} {k j : Nat} (hj : j < k + 1) : (bif Nat.blt j k then nthD 0 (pthL p k) j else pickI [p k] (j - k)) = nthD 0 (pthL p (k + 1)) j := by
  rw [nthD_pthL hj]
  by_cases h : j < k
  · rw [blt_t h, cond_true, nthD_pthL h]
  · have : j = k := by omega
    subst this
    rw [blt_f h, cond_false, Nat.sub_self]; rfl
theorem v11_eq (N : Int) (l : List Pq) : (fnVc (tabG [kVal [], kSuc [none, none, none, some (.rs (sucL N.toNat (setF l)))], kDis [none, none, none, some (.rs (sucL N.toNat (setF l)))]] [(0, .of (lCy0 (setF l) N.toNat)), (2, .of (lCy2 (cyP N l) (cyN N l))), (4, lCy4 (sucL N.toNat (setF l)) (cyO N l) (cyP N l) (cyN N l))] 10 [.freeze 5]) Try.f11 [rlV N 0 l] [arP l] (resIs (tupB (.sl 0 (cycL N l).length) (fndF N l)) 3 (cycL N l).length (isCols (cycL N l)))) = (l.length = l.length ∧
 (mkN (fun (j : Nat) => ((nthD ((0 : Int), (0 : Int)) l j).fst, (nthD ((0 : Int), (0 : Int)) l j).snd))
 l.length).length ≤
 (1099511627776 : Nat) ∧
 ((!validF N
 (mkN (fun (j : Nat) => ((nthD ((0 : Int), (0 : Int)) l j).fst, (nthD ((0 : Int), (0 : Int)) l j).snd))
 l.length)) =
 true →
 (0 : Nat) = (cycL N l).length ∧
 ((cycL N l).length = (0 : Nat) ∧ True) ∧ (0 : Nat) = (cycL N l).length ∧ false = fndF N l ∧ True) ∧
 ((!validF N
 (mkN (fun (j : Nat) => ((nthD ((0 : Int), (0 : Int)) l j).fst, (nthD ((0 : Int), (0 : Int)) l j).snd))
 l.length)) =
 false →
 l.length = l.length ∧
 validF N
 (mkN (fun (j : Nat) => ((nthD ((0 : Int), (0 : Int)) l j).fst, (nthD ((0 : Int), (0 : Int)) l j).snd))
 l.length) =
 true ∧
 (mkN (fun (j : Nat) => ((nthD ((0 : Int), (0 : Int)) l j).fst, (nthD ((0 : Int), (0 : Int)) l j).snd))
 l.length).length ≤
 (1099511627776 : Nat) ∧
 sucL N.toNat
 (setF
 (mkN
 (fun (j : Nat) =>
 ((nthD ((0 : Int), (0 : Int)) l j).fst, (nthD ((0 : Int), (0 : Int)) l j).snd))
 l.length)) =
 sucL N.toNat (setF l) ∧
 ∃ (x : PUnit),
 (∃ (x : Nat),
 x ≤ N.toNat ∧
 ((0 : Int) = (↑x : Int) ∧
 (-1 : Int) = (cyG (setF l) N.toNat x).fst ∧
 (0 : Int) = (cyG (setF l) N.toNat x).snd ∧
 (0 : Nat) = (farP (setF l) N.toNat x).length ∧ True) ∧
 ((0 : Nat) = (farP (setF l) N.toNat x).length ∧
 (farP (setF l) N.toNat x).length = (0 : Nat) ∧ True) ∧
 True) ∧
 ∀ (x_1 : Nat),
 x_1 ≤ N.toNat →
 (decide ((↑x_1 : Int) < N) = true →
 l.length = l.length ∧
 (AV.rs (sucL N.toNat (setF l))).len = (AV.rs (sucL N.toNat (setF l))).len ∧
 mkN
 (fun (j : Nat) =>
 mkN (fun (i : Nat) => nthD (0 : Int) (nthD [] (sucL N.toNat (setF l)) j) i)
 (nthD [] (sucL N.toNat (setF l)) j).length)
 (AV.rs (sucL N.toNat (setF l))).len =
 sucL N.toNat (setF l) ∧
 validF N
 (mkN
 (fun (j : Nat) =>
 ((nthD ((0 : Int), (0 : Int)) l j).fst,
 (nthD ((0 : Int), (0 : Int)) l j).snd))
 l.length) =
 true ∧
 (mkN
 (fun (j : Nat) =>
 ((nthD ((0 : Int), (0 : Int)) l j).fst,
 (nthD ((0 : Int), (0 : Int)) l j).snd))
 l.length).length ≤
 (1099511627776 : Nat) ∧
 sucL N.toNat (setF l) =
 sucL N.toNat
 (setF
 (mkN
 (fun (j : Nat) =>
 ((nthD ((0 : Int), (0 : Int)) l j).fst,
 (nthD ((0 : Int), (0 : Int)) l j).snd))
 l.length)) ∧
 ((0 : Int) ≤ (↑x_1 : Int) ∧
 (↑x_1 : Int) <
 (↑(AV.is
 (disP N.toNat
 (disG
 (setF
 (mkN
 (fun (j : Nat) =>
 ((nthD ((0 : Int), (0 : Int)) l j).fst,
 (nthD ((0 : Int), (0 : Int)) l j).snd))
 l.length))
 N.toNat (↑x_1 : Int) N.toNat))).len :
 Int)) ∧
 x_1 <
 (AV.is
 (disP N.toNat
 (disG
 (setF
 (mkN
 (fun (j : Nat) =>
 ((nthD ((0 : Int), (0 : Int)) l j).fst,
 (nthD ((0 : Int), (0 : Int)) l j).snd))
 l.length))
 N.toNat (↑x_1 : Int) N.toNat))).len ∧
 (decide ((cyG (setF l) N.toNat x_1).fst < (0 : Int)) = false →
 decide
 (nthD (0 : Int)
 (disP N.toNat
 (disG
 (setF
 (mkN
 (fun (j : Nat) =>
 ((nthD ((0 : Int), (0 : Int)) l j).fst,
 (nthD ((0 : Int), (0 : Int)) l j).snd))
 l.length))
 N.toNat (↑x_1 : Int) N.toNat))
 x_1 ≥
 (0 : Int)) =
 true →
 (0 : Int) ≤ (↑x_1 : Int) ∧
 (↑x_1 : Int) <
 (↑(AV.is
 (disP N.toNat
 (disG
 (setF
 (mkN
 (fun (j : Nat) =>
 ((nthD ((0 : Int), (0 : Int)) l j).fst,
 (nthD ((0 : Int), (0 : Int)) l j).snd))
 l.length))
 N.toNat (↑x_1 : Int) N.toNat))).len :
 Int)) ∧
 (decide ((cyG (setF l) N.toNat x_1).fst < (0 : Int)) = false →
 decide
 (nthD (0 : Int)
 (disP N.toNat
 (disG
 (setF
 (mkN
 (fun (j : Nat) =>
 ((nthD ((0 : Int), (0 : Int)) l j).fst,
 (nthD ((0 : Int), (0 : Int)) l j).snd))
 l.length))
 N.toNat (↑x_1 : Int) N.toNat))
 x_1 ≥
 (0 : Int)) =
 true →
 x_1 <
 (AV.is
 (disP N.toNat
 (disG
 (setF
 (mkN
 (fun (j : Nat) =>
 ((nthD ((0 : Int), (0 : Int)) l j).fst,
 (nthD ((0 : Int), (0 : Int)) l j).snd))
 l.length))
 N.toNat (↑x_1 : Int) N.toNat))).len) ∧
 ((decide
 (nthD (0 : Int)
 (disP N.toNat
 (disG
 (setF
 (mkN
 (fun (j : Nat) =>
 ((nthD ((0 : Int), (0 : Int)) l j).fst,
 (nthD ((0 : Int), (0 : Int)) l j).snd))
 l.length))
 N.toNat (↑x_1 : Int) N.toNat))
 x_1 ≥
 (0 : Int)) &&
 (decide ((cyG (setF l) N.toNat x_1).fst < (0 : Int)) ||
 decide
 (nthD (0 : Int)
 (disP N.toNat
 (disG
 (setF
 (mkN
 (fun (j : Nat) =>
 ((nthD ((0 : Int), (0 : Int)) l j).fst,
 (nthD ((0 : Int), (0 : Int)) l j).snd))
 l.length))
 N.toNat (↑x_1 : Int) N.toNat))
 x_1 <
 (cyG (setF l) N.toNat x_1).snd))) =
 true →
 ((0 : Int) ≤ (↑x_1 : Int) ∧
 (↑x_1 : Int) <
 (↑(AV.is
 (disP N.toNat
 (disG
 (setF
 (mkN
 (fun (j : Nat) =>
 ((nthD ((0 : Int), (0 : Int)) l j).fst,
 (nthD ((0 : Int), (0 : Int)) l j).snd))
 l.length))
 N.toNat (↑x_1 : Int) N.toNat))).len :
 Int)) ∧
 x_1 <
 (AV.is
 (disP N.toNat
 (disG
 (setF
 (mkN
 (fun (j : Nat) =>
 ((nthD ((0 : Int), (0 : Int)) l j).fst,
 (nthD ((0 : Int), (0 : Int)) l j).snd))
 l.length))
 N.toNat (↑x_1 : Int) N.toNat))).len ∧
 ∃ (x_2 : Nat),
 x_2 ≤ N.toNat ∧
 ((PLoop.of (lCy0 (setF l) N.toNat)).ann x).mu x_2 <
 ((PLoop.of (lCy0 (setF l) N.toNat)).ann x).mu x_1 ∧
 ((N = N ∧ l.length = l.length) ∧
 True ∧
 (0 : Nat) = (0 : Nat) ∧
 false = false ∧
 (AV.rs (sucL N.toNat (setF l))).len =
 (AV.rs (sucL N.toNat (setF l))).len ∧
 (↑x_1 : Int) =
 (cyG (setF l) N.toNat x_2).fst ∧
 nthD (0 : Int)
 (disP N.toNat
 (disG
 (setF
 (mkN
 (fun (j : Nat) =>
 ((nthD
 ((0 : Int), (0 : Int))
 l j).fst,
 (nthD
 ((0 : Int), (0 : Int))
 l j).snd))
 l.length))
 N.toNat (↑x_1 : Int) N.toNat))
 x_1 =
 (cyG (setF l) N.toNat x_2).snd ∧
 (AV.is
 (disP N.toNat
 (disG
 (setF
 (mkN
 (fun (j : Nat) =>
 ((nthD
 ((0 : Int),
 (0 : Int))
 l j).fst,
 (nthD
 ((0 : Int),
 (0 : Int))
 l j).snd))
 l.length))
 N.toNat (↑x_1 : Int)
 N.toNat))).len =
 (farP (setF l) N.toNat x_2).length ∧
 (N = N ∧ l.length = l.length) ∧
 validF N
 (mkN
 (fun (j : Nat) =>
 ((nthD
 ((0 : Int), (0 : Int))
 l j).fst,
 (nthD
 ((0 : Int), (0 : Int))
 l j).snd))
 l.length) =
 validF N
 (mkN
 (fun (j : Nat) =>
 ((nthD
 ((0 : Int), (0 : Int))
 l j).fst,
 (nthD
 ((0 : Int), (0 : Int))
 l j).snd))
 l.length) ∧
 false = false ∧
 (N = N ∧ l.length = l.length) ∧
 (AV.rs
 (sucL N.toNat
 (setF l))).len =
 (AV.rs
 (sucL N.toNat
 (setF l))).len ∧
 True ∧
 N = N ∧
 IntKind.i64.wrap
 ((↑x_1 : Int) +
 (1 : Int)) =
 (↑x_2 : Int) ∧
 True) ∧
 (l.length = l.length ∧
 (∀ (j : Nat),
 j < l.length →
 (nthD ((0 : Int), (0 : Int)) l j).fst =
 (nthD ((0 : Int), (0 : Int)) l j).fst) ∧
 (∀ (j : Nat),
 j < l.length →
 (nthD ((0 : Int), (0 : Int)) l j).snd =
 (nthD ((0 : Int), (0 : Int)) l j).snd) ∧
 True) ∧
 (N = N ∧ l.length = l.length) ∧
 ((0 : Nat) = (0 : Nat) ∧ True ∧ True) ∧
 ((AV.rs (sucL N.toNat (setF l))).len =
 (AV.rs (sucL N.toNat (setF l))).len ∧
 ((∀ (j : Nat),
 j <
 (AV.rs
 (sucL N.toNat (setF l))).len →
 (nthD [] (sucL N.toNat (setF l))
 j).length =
 (nthD [] (sucL N.toNat (setF l))
 j).length) ∧
 (∀ (j : Nat),
 j <
 (AV.rs
 (sucL N.toNat (setF l))).len →
 ∀ (i : Nat),
 i <
 (nthD []
 (sucL N.toNat (setF l))
 j).length →
 nthD (0 : Int)
 (nthD []
 (sucL N.toNat (setF l)) j)
 i =
 nthD (0 : Int)
 (nthD []
 (sucL N.toNat (setF l)) j)
 i) ∧
 True) ∧
 True) ∧
 ((AV.is
 (disP N.toNat
 (disG
 (setF
 (mkN
 (fun (j : Nat) =>
 ((nthD
 ((0 : Int), (0 : Int))
 l j).fst,
 (nthD
 ((0 : Int), (0 : Int))
 l j).snd))
 l.length))
 N.toNat (↑x_1 : Int)
 N.toNat))).len =
 (farP (setF l) N.toNat x_2).length ∧
 (∀ (j : Nat),
 j < (farP (setF l) N.toNat x_2).length →
 nthD (0 : Int)
 (disP N.toNat
 (disG
 (setF
 (mkN
 (fun (j : Nat) =>
 ((nthD
 ((0 : Int),
 (0 : Int))
 l j).fst,
 (nthD
 ((0 : Int),
 (0 : Int))
 l j).snd))
 l.length))
 N.toNat (↑x_1 : Int) N.toNat))
 j =
 nthD (0 : Int)
 (farP (setF l) N.toNat x_2) j) ∧
 True) ∧
 True) ∧
 ((decide
 (nthD (0 : Int)
 (disP N.toNat
 (disG
 (setF
 (mkN
 (fun (j : Nat) =>
 ((nthD ((0 : Int), (0 : Int)) l j).fst,
 (nthD ((0 : Int), (0 : Int)) l j).snd))
 l.length))
 N.toNat (↑x_1 : Int) N.toNat))
 x_1 ≥
 (0 : Int)) &&
 (decide ((cyG (setF l) N.toNat x_1).fst < (0 : Int)) ||
 decide
 (nthD (0 : Int)
 (disP N.toNat
 (disG
 (setF
 (mkN
 (fun (j : Nat) =>
 ((nthD ((0 : Int), (0 : Int)) l j).fst,
 (nthD ((0 : Int), (0 : Int)) l j).snd))
 l.length))
 N.toNat (↑x_1 : Int) N.toNat))
 x_1 <
 (cyG (setF l) N.toNat x_1).snd))) =
 false →
 ∃ (x_2 : Nat),
 x_2 ≤ N.toNat ∧
 ((PLoop.of (lCy0 (setF l) N.toNat)).ann x).mu x_2 <
 ((PLoop.of (lCy0 (setF l) N.toNat)).ann x).mu x_1 ∧
 ((N = N ∧ l.length = l.length) ∧
 True ∧
 (0 : Nat) = (0 : Nat) ∧
 false = false ∧
 (AV.rs (sucL N.toNat (setF l))).len =
 (AV.rs (sucL N.toNat (setF l))).len ∧
 (cyG (setF l) N.toNat x_1).fst =
 (cyG (setF l) N.toNat x_2).fst ∧
 (cyG (setF l) N.toNat x_1).snd =
 (cyG (setF l) N.toNat x_2).snd ∧
 (farP (setF l) N.toNat x_1).length =
 (farP (setF l) N.toNat x_2).length ∧
 (N = N ∧ l.length = l.length) ∧
 validF N
 (mkN
 (fun (j : Nat) =>
 ((nthD ((0 : Int), (0 : Int)) l
 j).fst,
 (nthD ((0 : Int), (0 : Int)) l
 j).snd))
 l.length) =
 validF N
 (mkN
 (fun (j : Nat) =>
 ((nthD ((0 : Int), (0 : Int)) l
 j).fst,
 (nthD ((0 : Int), (0 : Int)) l
 j).snd))
 l.length) ∧
 false = false ∧
 (N = N ∧ l.length = l.length) ∧
 (AV.rs
 (sucL N.toNat
 (setF l))).len =
 (AV.rs
 (sucL N.toNat
 (setF l))).len ∧
 True ∧
 N = N ∧
 IntKind.i64.wrap
 ((↑x_1 : Int) +
 (1 : Int)) =
 (↑x_2 : Int) ∧
 True) ∧
 (l.length = l.length ∧
 (∀ (j : Nat),
 j < l.length →
 (nthD ((0 : Int), (0 : Int)) l j).fst =
 (nthD ((0 : Int), (0 : Int)) l j).fst) ∧
 (∀ (j : Nat),
 j < l.length →
 (nthD ((0 : Int), (0 : Int)) l j).snd =
 (nthD ((0 : Int), (0 : Int)) l j).snd) ∧
 True) ∧
 (N = N ∧ l.length = l.length) ∧
 ((0 : Nat) = (0 : Nat) ∧ True ∧ True) ∧
 ((AV.rs (sucL N.toNat (setF l))).len =
 (AV.rs (sucL N.toNat (setF l))).len ∧
 ((∀ (j : Nat),
 j < (AV.rs (sucL N.toNat (setF l))).len →
 (nthD [] (sucL N.toNat (setF l))
 j).length =
 (nthD [] (sucL N.toNat (setF l))
 j).length) ∧
 (∀ (j : Nat),
 j < (AV.rs (sucL N.toNat (setF l))).len →
 ∀ (i : Nat),
 i <
 (nthD [] (sucL N.toNat (setF l))
 j).length →
 nthD (0 : Int)
 (nthD [] (sucL N.toNat (setF l))
 j)
 i =
 nthD (0 : Int)
 (nthD [] (sucL N.toNat (setF l))
 j)
 i) ∧
 True) ∧
 True) ∧
 ((farP (setF l) N.toNat x_1).length =
 (farP (setF l) N.toNat x_2).length ∧
 (∀ (j : Nat),
 j < (farP (setF l) N.toNat x_2).length →
 nthD (0 : Int) (farP (setF l) N.toNat x_1)
 j =
 nthD (0 : Int)
 (farP (setF l) N.toNat x_2) j) ∧
 True) ∧
 True)) ∧
 (decide ((↑x_1 : Int) < N) = false →
 (decide ((cyG (setF l) N.toNat x_1).fst < (0 : Int)) = true →
 (0 : Nat) = (cycL N l).length ∧
 ((cycL N l).length = (0 : Nat) ∧ True) ∧
 (0 : Nat) = (cycL N l).length ∧ false = fndF N l ∧ True) ∧
 (decide ((cyG (setF l) N.toNat x_1).fst < (0 : Int)) = false →
 ∃ (x : PUnit),
 (∃ (x : Nat),
 x + (1 : Nat) ≤ (cyN N l).toNat ∧
 ((1 : Nat) = (pthL (cyP N l) (x + (1 : Nat))).length ∧
 (cyG (setF l) N.toNat x_1).fst = cyP N l x ∧ True) ∧
 ((1 : Nat) = (pthL (cyP N l) (x + (1 : Nat))).length ∧
 (∀ (j : Nat),
 j < (pthL (cyP N l) (x + (1 : Nat))).length →
 pickI [(cyG (setF l) N.toNat x_1).fst] j =
 nthD (0 : Int) (pthL (cyP N l) (x + (1 : Nat))) j) ∧
 True) ∧
 True) ∧
 ∀ (x_2 : Nat),
 x_2 + (1 : Nat) ≤ (cyN N l).toNat →
 (decide
 ((↑(pthL (cyP N l) (x_2 + (1 : Nat))).length : Int) <
 (cyG (setF l) N.toNat x_1).snd) =
 true →
 ((0 : Int) ≤ cyP N l x_2 ∧
 cyP N l x_2 < (↑(AV.rs (sucL N.toNat (setF l))).len : Int)) ∧
 (cyP N l x_2).toNat < (AV.rs (sucL N.toNat (setF l))).len ∧
 ∃ (x_3 : Nat),
 (∃ (x : Nat),
 (x ≤ (rowN (sucL N.toNat (setF l)) (cyP N l x_3)).length ∧
 ((List.take x
 (rowN (sucL N.toNat (setF l)) (cyP N l x_3))).all
 fun (b : Int) =>
 cyO N l b.toNat != cyN N l - (↑(x_3 + (1 : Nat)) : Int)) =
 true) ∧
 ((0 : Int) = (↑x : Int) ∧ True) ∧ True) ∧
 ∀ (x_4 : Nat),
 x_4 ≤ (rowN (sucL N.toNat (setF l)) (cyP N l x_3)).length ∧
 ((List.take x_4
 (rowN (sucL N.toNat (setF l)) (cyP N l x_3))).all
 fun (b : Int) =>
 cyO N l b.toNat != cyN N l - (↑(x_3 + (1 : Nat)) : Int)) =
 true →
 (decide
 ((↑x_4 : Int) <
 (↑(nthD [] (sucL N.toNat (setF l))
 (cyP N l x_2).toNat).length :
 Int)) =
 true →
 ((0 : Int) ≤ (↑x_4 : Int) ∧
 (↑x_4 : Int) <
 (↑(nthD [] (sucL N.toNat (setF l))
 (cyP N l x_2).toNat).length :
 Int)) ∧
 x_4 <
 (nthD [] (sucL N.toNat (setF l))
 (cyP N l x_2).toNat).length ∧
 ((0 : Int) ≤
 nthD (0 : Int)
 (nthD [] (sucL N.toNat (setF l))
 (cyP N l x_2).toNat)
 x_4 ∧
 nthD (0 : Int)
 (nthD [] (sucL N.toNat (setF l))
 (cyP N l x_2).toNat)
 x_4 <
 (↑(farP (setF l) N.toNat x_1).length : Int)) ∧
 (nthD (0 : Int)
 (nthD [] (sucL N.toNat (setF l))
 (cyP N l x_2).toNat)
 x_4).toNat <
 (farP (setF l) N.toNat x_1).length ∧
 ((nthD (0 : Int) (farP (setF l) N.toNat x_1)
 (nthD (0 : Int)
 (nthD [] (sucL N.toNat (setF l))
 (cyP N l x_2).toNat)
 x_4).toNat ==
 IntKind.i64.wrap
 ((cyG (setF l) N.toNat x_1).snd -
 (↑(pthL (cyP N l)
 (x_2 + (1 : Nat))).length :
 Int))) =
 true →
 (pthL (cyP N l) (x_2 + (1 : Nat))).length =
 (pthL (cyP N l) (x_2 + (1 : Nat))).length ∧
 (1 : Nat) = (1 : Nat) ∧
 ((pthL (cyP N l) (x_2 + (1 : Nat))).length +
 (1 : Nat)) *
 (8 : Nat) ≤
 (140737488355328 : Nat) ∧
 (pthL (cyP N l)
 (x_2 + (1 : Nat))).length +
 (1 : Nat) ≤
 (9223372036854775807 : Nat) ∧
 ∃ (x_5 : Nat),
 x_5 + (1 : Nat) ≤ (cyN N l).toNat ∧
 ((PLoop.of
 (lCy2 (cyP N l)
 (cyN N l))).ann
 x).mu
 x_5 <
 ((PLoop.of
 (lCy2 (cyP N l)
 (cyN N l))).ann
 x).mu
 x_2 ∧
 ((N = N ∧ l.length = l.length) ∧
 True ∧
 (0 : Nat) = (0 : Nat) ∧
 false = false ∧
 (AV.rs
 (sucL N.toNat
 (setF
 l))).len =
 (AV.rs
 (sucL N.toNat
 (setF
 l))).len ∧
 (cyG (setF l) N.toNat
 x_1).fst =
 (cyG (setF l)
 N.toNat
 x_1).fst ∧
 (cyG (setF l)
 N.toNat
 x_1).snd =
 (cyG (setF l)
 N.toNat
 x_1).snd ∧
 (farP (setF l)
 N.toNat
 x_1).length =
 (farP (setF l)
 N.toNat
 x_1).length ∧
 (pthL (cyP N l)
 (x_2 +
 (1 :
 Nat))).length +
 (1 :
 Nat) =
 (pthL
 (cyP N
 l)
 (x_5 +
 (1 :
 Nat))).length ∧
 nthD (0 : Int)
 (nthD []
 (sucL
 N.toNat
 (setF
 l))
 (cyP N
 l
 x_2).toNat)
 x_4 =
 cyP N l
 x_5 ∧
 (N = N ∧
 l.length =
 l.length) ∧
 validF N
 (mkN
 (fun
 (j :
 Nat) =>
 ((nthD
 ((0 :
 Int),
 (0 :
 Int))
 l
 j).fst,
 (nthD
 ((0 :
 Int),
 (0 :
 Int))
 l
 j).snd))
 l.length) =
 validF
 N
 (mkN
 (fun
 (j :
 Nat) =>
 ((nthD
 ((0 :
 Int),
 (0 :
 Int))
 l
 j).fst,
 (nthD
 ((0 :
 Int),
 (0 :
 Int))
 l
 j).snd))
 l.length) ∧
 false =
 false ∧
 (N =
 N ∧
 l.length =
 l.length) ∧
 (AV.rs
 (sucL
 N.toNat
 (setF
 l))).len =
 (AV.rs
 (sucL
 N.toNat
 (setF
 l))).len ∧
 True ∧
 N =
 N ∧
 (↑x_1 :
 Int) =
 (↑x_1 :
 Int) ∧
 false =
 false ∧
 (cyG
 (setF
 l)
 N.toNat
 x_1).fst =
 (cyG
 (setF
 l)
 N.toNat
 x_1).fst ∧
 false =
 false ∧
 (cyG
 (setF
 l)
 N.toNat
 x_1).fst =
 (cyG
 (setF
 l)
 N.toNat
 x_1).fst ∧
 (cyG
 (setF
 l)
 N.toNat
 x_1).fst =
 (cyG
 (setF
 l)
 N.toNat
 x_1).fst ∧
 True) ∧
 (l.length = l.length ∧
 (∀ (j : Nat),
 j < l.length →
 (nthD
 ((0 : Int),
 (0 : Int))
 l j).fst =
 (nthD
 ((0 : Int),
 (0 : Int))
 l j).fst) ∧
 (∀ (j : Nat),
 j < l.length →
 (nthD
 ((0 : Int),
 (0 : Int))
 l j).snd =
 (nthD
 ((0 : Int),
 (0 : Int))
 l j).snd) ∧
 True) ∧
 (N = N ∧
 l.length = l.length) ∧
 ((0 : Nat) = (0 : Nat) ∧
 True ∧ True) ∧
 ((AV.rs
 (sucL N.toNat
 (setF
 l))).len =
 (AV.rs
 (sucL N.toNat
 (setF
 l))).len ∧
 ((∀ (j : Nat),
 j <
 (AV.rs
 (sucL
 N.toNat
 (setF
 l))).len →
 (nthD []
 (sucL
 N.toNat
 (setF
 l))
 j).length =
 (nthD []
 (sucL
 N.toNat
 (setF
 l))
 j).length) ∧
 (∀ (j : Nat),
 j <
 (AV.rs
 (sucL
 N.toNat
 (setF
 l))).len →
 ∀ (i : Nat),
 i <
 (nthD
 []
 (sucL
 N.toNat
 (setF
 l))
 j).length →
 nthD
 (0 :
 Int)
 (nthD
 []
 (sucL
 N.toNat
 (setF
 l))
 j)
 i =
 nthD
 (0 :
 Int)
 (nthD
 []
 (sucL
 N.toNat
 (setF
 l))
 j)
 i) ∧
 True) ∧
 True) ∧
 ((farP (setF l) N.toNat
 x_1).length =
 (farP (setF l)
 N.toNat
 x_1).length ∧
 (∀ (j : Nat),
 j <
 (farP
 (setF l)
 N.toNat
 x_1).length →
 nthD (0 : Int)
 (farP
 (setF l)
 N.toNat
 x_1)
 j =
 nthD
 (0 : Int)
 (farP
 (setF l)
 N.toNat
 x_1)
 j) ∧
 True) ∧
 ((pthL (cyP N l)
 (x_2 +
 (1 :
 Nat))).length +
 (1 : Nat) =
 (pthL (cyP N l)
 (x_5 +
 (1 :
 Nat))).length ∧
 (∀ (j : Nat),
 j <
 (pthL
 (cyP N
 l)
 (x_5 +
 (1 :
 Nat))).length →
 (bif
 j.blt
 (pthL
 (cyP
 N
 l)
 (x_2 +
 (1 :
 Nat))).length then
 nthD
 (0 :
 Int)
 (pthL
 (cyP
 N
 l)
 (x_2 +
 (1 :
 Nat)))
 j
 else
 pickI
 [nthD
 (0 :
 Int)
 (nthD
 []
 (sucL
 N.toNat
 (setF
 l))
 (cyP
 N
 l
 x_2).toNat)
 x_4]
 (j -
 (pthL
 (cyP
 N
 l)
 (x_2 +
 (1 :
 Nat))).length)) =
 nthD
 (0 :
 Int)
 (pthL
 (cyP N
 l)
 (x_5 +
 (1 :
 Nat)))
 j) ∧
 True) ∧
 True) ∧
 ((nthD (0 : Int) (farP (setF l) N.toNat x_1)
 (nthD (0 : Int)
 (nthD [] (sucL N.toNat (setF l))
 (cyP N l x_2).toNat)
 x_4).toNat ==
 IntKind.i64.wrap
 ((cyG (setF l) N.toNat x_1).snd -
 (↑(pthL (cyP N l)
 (x_2 + (1 : Nat))).length :
 Int))) =
 false →
 ∃ (x : Nat),
 (x ≤
 (rowN (sucL N.toNat (setF l))
 (cyP N l x_3)).length ∧
 ((List.take x
 (rowN (sucL N.toNat (setF l))
 (cyP N l x_3))).all
 fun (b : Int) =>
 cyO N l b.toNat !=
 cyN N l -
 (↑(x_3 + (1 : Nat)) : Int)) =
 true) ∧
 ((lCy4 (sucL N.toNat (setF l)) (cyO N l)
 (cyP N l) (cyN N l)).ann
 x_3).mu
 x <
 ((lCy4 (sucL N.toNat (setF l)) (cyO N l)
 (cyP N l) (cyN N l)).ann
 x_3).mu
 x_4 ∧
 ((N = N ∧ l.length = l.length) ∧
 True ∧
 (0 : Nat) = (0 : Nat) ∧
 false = false ∧
 (AV.rs
 (sucL N.toNat
 (setF l))).len =
 (AV.rs
 (sucL N.toNat
 (setF l))).len ∧
 (cyG (setF l) N.toNat
 x_1).fst =
 (cyG (setF l) N.toNat
 x_1).fst ∧
 (cyG (setF l) N.toNat
 x_1).snd =
 (cyG (setF l) N.toNat
 x_1).snd ∧
 (farP (setF l) N.toNat
 x_1).length =
 (farP (setF l) N.toNat
 x_1).length ∧
 (pthL (cyP N l)
 (x_2 +
 (1 :
 Nat))).length =
 (pthL (cyP N l)
 (x_2 +
 (1 :
 Nat))).length ∧
 IntKind.i64.wrap
 ((cyG (setF l)
 N.toNat
 x_1).snd -
 (↑(pthL
 (cyP N
 l)
 (x_2 +
 (1 :
 Nat))).length :
 Int)) =
 IntKind.i64.wrap
 ((cyG (setF l)
 N.toNat
 x_1).snd -
 (↑(pthL
 (cyP N
 l)
 (x_2 +
 (1 :
 Nat))).length :
 Int)) ∧
 (N = N ∧
 l.length =
 l.length) ∧
 validF N
 (mkN
 (fun
 (j :
 Nat) =>
 ((nthD
 ((0 :
 Int),
 (0 :
 Int))
 l
 j).fst,
 (nthD
 ((0 :
 Int),
 (0 :
 Int))
 l
 j).snd))
 l.length) =
 validF N
 (mkN
 (fun
 (j :
 Nat) =>
 ((nthD
 ((0 :
 Int),
 (0 :
 Int))
 l
 j).fst,
 (nthD
 ((0 :
 Int),
 (0 :
 Int))
 l
 j).snd))
 l.length) ∧
 false = false ∧
 (N = N ∧
 l.length =
 l.length) ∧
 (AV.rs
 (sucL
 N.toNat
 (setF
 l))).len =
 (AV.rs
 (sucL
 N.toNat
 (setF
 l))).len ∧
 True ∧
 N = N ∧
 (↑x_1 :
 Int) =
 (↑x_1 :
 Int) ∧
 false =
 false ∧
 (cyG
 (setF
 l)
 N.toNat
 x_1).fst =
 (cyG
 (setF
 l)
 N.toNat
 x_1).fst ∧
 false =
 false ∧
 (cyG
 (setF
 l)
 N.toNat
 x_1).fst =
 (cyG
 (setF
 l)
 N.toNat
 x_1).fst ∧
 (cyG
 (setF
 l)
 N.toNat
 x_1).fst =
 (cyG
 (setF
 l)
 N.toNat
 x_1).fst ∧
 (pthL
 (cyP
 N
 l)
 (x_2 +
 (1 :
 Nat))).length =
 (pthL
 (cyP
 N
 l)
 (x_2 +
 (1 :
 Nat))).length ∧
 (↑(pthL
 (cyP
 N
 l)
 (x_2 +
 (1 :
 Nat))).length :
 Int) =
 (↑(pthL
 (cyP
 N
 l)
 (x_2 +
 (1 :
 Nat))).length :
 Int) ∧
 (cyG
 (setF
 l)
 N.toNat
 x_1).snd =
 (cyG
 (setF
 l)
 N.toNat
 x_1).snd ∧
 true =
 true ∧
 (cyG
 (setF
 l)
 N.toNat
 x_1).snd =
 (cyG
 (setF
 l)
 N.toNat
 x_1).snd ∧
 (pthL
 (cyP
 N
 l)
 (x_2 +
 (1 :
 Nat))).length =
 (pthL
 (cyP
 N
 l)
 (x_2 +
 (1 :
 Nat))).length ∧
 (↑(pthL
 (cyP
 N
 l)
 (x_2 +
 (1 :
 Nat))).length :
 Int) =
 (↑(pthL
 (cyP
 N
 l)
 (x_2 +
 (1 :
 Nat))).length :
 Int) ∧
 IntKind.i64.wrap
 ((cyG
 (setF
 l)
 N.toNat
 x_1).snd -
 (↑(pthL
 (cyP
 N
 l)
 (x_2 +
 (1 :
 Nat))).length :
 Int)) =
 IntKind.i64.wrap
 ((cyG
 (setF
 l)
 N.toNat
 x_1).snd -
 (↑(pthL
 (cyP
 N
 l)
 (x_2 +
 (1 :
 Nat))).length :
 Int)) ∧
 (AV.rs
 (sucL
 N.toNat
 (setF
 l))).len =
 (AV.rs
 (sucL
 N.toNat
 (setF
 l))).len ∧
 cyP
 N
 l
 x_2 =
 cyP
 N
 l
 x_2 ∧
 (cyP
 N
 l
 x_2).toNat =
 (cyP
 N
 l
 x_2).toNat ∧
 (nthD
 []
 (sucL
 N.toNat
 (setF
 l))
 (cyP
 N
 l
 x_2).toNat).length =
 (nthD
 []
 (sucL
 N.toNat
 (setF
 l))
 (cyP
 N
 l
 x_2).toNat).length ∧
 (↑(nthD
 []
 (sucL
 N.toNat
 (setF
 l))
 (cyP
 N
 l
 x_2).toNat).length :
 Int) =
 (↑(nthD
 []
 (sucL
 N.toNat
 (setF
 l))
 (cyP
 N
 l
 x_2).toNat).length :
 Int) ∧
 IntKind.i64.wrap
 ((↑x_4 :
 Int) +
 (1 :
 Int)) =
 (↑x :
 Int) ∧
 True) ∧
 (l.length = l.length ∧
 (∀ (j : Nat),
 j < l.length →
 (nthD ((0 : Int), (0 : Int)) l
 j).fst =
 (nthD ((0 : Int), (0 : Int))
 l j).fst) ∧
 (∀ (j : Nat),
 j < l.length →
 (nthD ((0 : Int), (0 : Int))
 l j).snd =
 (nthD
 ((0 : Int), (0 : Int))
 l j).snd) ∧
 True) ∧
 (N = N ∧ l.length = l.length) ∧
 ((0 : Nat) = (0 : Nat) ∧
 True ∧ True) ∧
 ((AV.rs
 (sucL N.toNat
 (setF l))).len =
 (AV.rs
 (sucL N.toNat
 (setF l))).len ∧
 ((∀ (j : Nat),
 j <
 (AV.rs
 (sucL N.toNat
 (setF
 l))).len →
 (nthD []
 (sucL N.toNat
 (setF l))
 j).length =
 (nthD []
 (sucL N.toNat
 (setF l))
 j).length) ∧
 (∀ (j : Nat),
 j <
 (AV.rs
 (sucL N.toNat
 (setF
 l))).len →
 ∀ (i : Nat),
 i <
 (nthD []
 (sucL
 N.toNat
 (setF
 l))
 j).length →
 nthD (0 : Int)
 (nthD []
 (sucL
 N.toNat
 (setF
 l))
 j)
 i =
 nthD (0 : Int)
 (nthD []
 (sucL
 N.toNat
 (setF
 l))
 j)
 i) ∧
 True) ∧
 True) ∧
 ((farP (setF l) N.toNat
 x_1).length =
 (farP (setF l) N.toNat
 x_1).length ∧
 (∀ (j : Nat),
 j <
 (farP (setF l)
 N.toNat
 x_1).length →
 nthD (0 : Int)
 (farP (setF l)
 N.toNat x_1)
 j =
 nthD (0 : Int)
 (farP (setF l)
 N.toNat x_1)
 j) ∧
 True) ∧
 ((pthL (cyP N l)
 (x_2 +
 (1 :
 Nat))).length =
 (pthL (cyP N l)
 (x_2 +
 (1 :
 Nat))).length ∧
 (∀ (j : Nat),
 j <
 (pthL (cyP N l)
 (x_2 +
 (1 :
 Nat))).length →
 nthD (0 : Int)
 (pthL (cyP N l)
 (x_2 +
 (1 : Nat)))
 j =
 nthD (0 : Int)
 (pthL (cyP N l)
 (x_2 +
 (1 : Nat)))
 j) ∧
 True) ∧
 ((nthD []
 (sucL N.toNat
 (setF l))
 (cyP N l
 x_2).toNat).length =
 (nthD []
 (sucL N.toNat
 (setF l))
 (cyP N l
 x_2).toNat).length ∧
 (∀ (j : Nat),
 j <
 (nthD []
 (sucL
 N.toNat
 (setF l))
 (cyP N l
 x_2).toNat).length →
 nthD (0 : Int)
 (nthD []
 (sucL
 N.toNat
 (setF l))
 (cyP N l
 x_2).toNat)
 j =
 nthD (0 : Int)
 (nthD []
 (sucL
 N.toNat
 (setF l))
 (cyP N l
 x_2).toNat)
 j) ∧
 True) ∧
 True)) ∧
 (decide
 ((↑x_4 : Int) <
 (↑(nthD [] (sucL N.toNat (setF l))
 (cyP N l x_2).toNat).length :
 Int)) =
 false →
 False)) ∧
 (decide
 ((↑(pthL (cyP N l) (x_2 + (1 : Nat))).length : Int) <
 (cyG (setF l) N.toNat x_1).snd) =
 false →
 (pthL (cyP N l) (x_2 + (1 : Nat))).length = (cycL N l).length ∧
 ((∀ (j : Nat),
 j < (cycL N l).length →
 nthD (0 : Int) (pthL (cyP N l) (x_2 + (1 : Nat))) j =
 nthD (0 : Int) (cycL N l) j) ∧
 True) ∧
 (pthL (cyP N l) (x_2 + (1 : Nat))).length = (cycL N l).length ∧
 true = fndF N l ∧ True))))) := by kernel_rfl
theorem v11 (N : Int) (l : List Pq) (hl : L9 l) : fnVc (tabG [kVal [], kSuc [none, none, none, some (.rs (sucL N.toNat (setF l)))], kDis [none, none, none, some (.rs (sucL N.toNat (setF l)))]] [(0, .of (lCy0 (setF l) N.toNat)), (2, .of (lCy2 (cyP N l) (cyN N l))), (4, lCy4 (sucL N.toNat (setF l)) (cyO N l) (cyP N l) (cyN N l))] 10 [.freeze 5]) Try.f11 [rlV N 0 l] [arP l] (resIs (tupB (.sl 0 (cycL N l).length) (fndF N l)) 3 (cycL N l).length (isCols (cycL N l))) := by
  rw [v11_eq]
  simp only [eq_self, true_and, and_true, implies_true, imp_self, mkN_ps, mkN_rs, mkN_self, mkN_len, PLoop.of, lCnt, AV.len, lCy0, lCy2, lCy4, lCy0', lCy2', lCy4', disR_tbl, mk_tbl]
  refine ⟨hl, fun h => ?_, fun h => ?_⟩
  · have hv : validF N l = false := by simpa using h
    have hfd : fndF N l = false := by rw [fndF, hv]; rfl
    simp [cycL, hfd]
  · have hv : validF N l = true := by simpa using h
    obtain ⟨h0, h1, h3⟩ := validF_iff.1 hv
    refine ⟨hv, hl, (), ⟨0, by omega, ⟨rfl, rfl, rfl, by simp [farP, cyG]⟩, by simp [farP, cyG], by simp [farP, cyG]⟩, fun k hk => ⟨fun hlk => ?_, fun hlk => ?_⟩⟩
    · have hlk2 := of_decide_eq_true hlk
      have hk3 : k < N.toNat := by omega
      rw [nthD_disP hk3, ng_lt disG_nonneg, disP_len]
      refine ⟨hv, hl, by omega, by omega, fun _ _ => by omega, fun _ _ => by omega, fun hc => ?_, fun hc => ?_⟩
      · obtain ⟨e1, e2, e3⟩ := farP_new hc
        simp only [Bool.and_eq_true, bne_iff_ne, ne_eq] at hc
        refine ⟨by omega, by omega, k + 1, by omega, by omega, ⟨by rw [e1], ?_, ?_, wrS (n := 64) (by omega) (by omega)⟩, ?_, fun j hj => ?_⟩
        · rw [e1, ng, beq_eq_false_iff_ne.2 hc.1]; rfl
        · rw [e2, disP_len]
        · rw [e2, disP_len]
        · rw [e2]
      · obtain ⟨e1, e2, e3⟩ := farP_old hc
        exact ⟨k + 1, by omega, by omega, ⟨by rw [e1], by rw [e1], by rw [e2], wrS (n := 64) (by omega) (by omega)⟩, by rw [e2], fun j hj => by rw [e2]⟩
    · have hlk2 := of_decide_eq_false hlk
      have e : k = N.toNat := by omega
      subst e
      refine ⟨fun hc => ?_, fun hc => ?_⟩
      · have hc2 := of_decide_eq_true hc
        have hfd : fndF N l = false := by
          have : ¬ 0 ≤ cyS N l := by rw [cyS]; omega
          rw [fndF, hv, decide_eq_false this]; rfl
        simp [cycL, hfd]
      · have hc2 := of_decide_eq_false hc
        have hs : 0 ≤ cyS N l := by rw [cyS]; omega
        have hfd : fndF N l = true := by rw [fndF, hv, decide_eq_true hs]; rfl
        obtain ⟨s1, s2, s3, s4⟩ := cyS_ok hs
        have hcl : cycL N l = pthL (cyP N l) (cyN N l).toNat := by rw [cycL, hfd]; rfl
        rw [farP_some hs, disP_len, sucL_len, hcl]
        simp only [pthL_len]
        refine ⟨(), ⟨0, by omega, ⟨rfl, rfl⟩, rfl, fun j hj => ?_⟩, fun i hi => ⟨fun hli => ?_, fun hli => ?_⟩⟩
        · rw [nthD_pthL hj]
          have : j = 0 := by omega
          subst this; rfl
        · have hli2 : ((i + 1 : Nat) : Int) < cyN N l := of_decide_eq_true hli
          obtain ⟨x, x1, x2, x3⟩ := cyP_ok hs i (by omega)
          have hex := cyP_next hs hli2
          obtain ⟨b, b1, b2, b3⟩ := nxt_ok hex
          have hnx : cyP N l (i + 1) = (b : Int) := b1
          have hrl := row_len (n := N.toNat) (f := setF l) (by omega) x
          rw [x1]
          simp only [Int.toNat_natCast]
          refine ⟨by omega, by omega, i, ⟨0, ⟨by omega, by simp⟩, rfl⟩, fun q hq => ⟨fun hlq => ?_, fun hlq => ?_⟩⟩
          · have hlq2 := lt_len hlq
            have hq2 := hq.2
            rw [rowN, x1, Int.toNat_natCast] at hq hq2 ⊢
            have hmem : nthD 0 (nthD [] (sucL N.toNat (setF l)) x) q ∈ nthD [] (sucL N.toNat (setF l)) x := by rw [nthD_get _ _ _ hlq2]; exact List.getElem_mem hlq2
            have hf := ((rowsOf_suc (sup_set hv)).mem (x : Int) _ (by omega) (by omega)).1 (by rw [Int.toNat_natCast]; exact hmem)
            have hsp := sup_set hv _ _ hf
            have hnt : (nthD 0 (nthD [] (sucL N.toNat (setF l)) x) q).toNat < N.toNat := by omega
            have hwl : IntKind.i64.wrap ((cyG (setF l) N.toNat N.toNat).2 - ((i + 1 : Nat) : Int)) = ((cyN N l - ((i + 1 : Nat) : Int)).toNat : Int) := by
              rw [w64_eq] <;> (show _; first | (show cyN N l - _ = _; omega) | (show _ ≤ cyN N l - _; omega) | (show cyN N l - _ ≤ _; omega))
            rw [nthD_disP hnt, hwl]
            have htest : (ng (disG (setF l) N.toNat (cyG (setF l) N.toNat N.toNat).1 N.toNat (nthD 0 (nthD [] (sucL N.toNat (setF l)) x) q).toNat) == ((cyN N l - ((i + 1 : Nat) : Int)).toNat : Int)) = (cyO N l (nthD 0 (nthD [] (sucL N.toNat (setF l)) x) q).toNat == cyN N l - ((i + 1 : Nat) : Int)) := by
              rw [Bool.eq_iff_iff, beq_iff_eq, beq_iff_eq, ng_eq (by omega)]
              show cyO N l _ = _ ↔ _
              rw [Int.toNat_of_nonneg (by omega)]
            rw [htest]
            refine ⟨bd hlq2, hlq2, by omega, hnt, fun ht => ?_, fun ht => ?_⟩
            · have hfind : cyP N l (i + 1) = nthD 0 (nthD [] (sucL N.toNat (setF l)) x) q := by
                show nxt (setF l) N.toNat (cyO N l) (cyN N l - ((i + 1 : Nat) : Int)) (cyP N l i) = _
                rw [x1, nxt_row x2, find_first hlq2 ?_ ht]
                · rfl
                · rw [← hq2]
                  rfl
              refine ⟨by omega, by omega, i + 1, by omega, by omega, ⟨rfl, hfind.symm⟩, rfl, fun j hj => ?_⟩
              rw [← hfind]
              exact pthL_app hj
            · refine ⟨q + 1, ⟨hlq2, ?_⟩, by omega, wrS (n := 64) (by omega) (by omega)⟩
              rw [take_succ' 0 hlq2, List.all_append, hq2]
              simp only [List.all_cons, List.all_nil, Bool.and_true, Bool.true_and]
              rw [bne, ht]; rfl
          · have hq2 := hq.2
            rw [rowN, x1, Int.toNat_natCast] at hq hq2
            have hq3 : q = (nthD [] (sucL N.toNat (setF l)) x).length := ge_len hlq hq.1
            rw [hq3, List.take_length] at hq2
            simp only [fit, Bool.and_eq_true, beq_iff_eq, x1] at b3
            have hm := ((rowsOf_suc (sup_set hv)).mem (x : Int) (b : Int) (by omega) (by omega)).2 b3.1
            rw [Int.toNat_natCast] at hm
            have := List.all_eq_true.1 hq2 _ hm
            rw [Int.toNat_natCast, b3.2] at this
            simp at this
        · have hli2 : ¬ ((i + 1 : Nat) : Int) < cyN N l := of_decide_eq_false hli
          have e : i + 1 = (cyN N l).toNat := by omega
          rw [e]
          exact ⟨rfl, fun j hj => rfl, rfl, hfd.symm⟩
theorem v12_eq (N : Int) (l : List Pq) : (fnVc (tabG [kVal' [], kTbl [none, none, none, some (.bs (tblL N.toNat (setF l)))], kDis' [none, none, none, some (.bs (tblL N.toNat (setF l)))]] [(0, .of (lCy0' (setF l) N.toNat)), (2, .of (lCy2' (cyP N l) (cyN N l))), (4, lCy4' (setF l) N.toNat (cyO N l) (cyP N l) (cyN N l))] 10 [.freeze 5]) Try.f12 [rlV N 0 l] [arP l] (resIs (tupB (.sl 0 (cycL N l).length) (fndF N l)) 3 (cycL N l).length (isCols (cycL N l)))) = (l.length = l.length ∧
 (mkN (fun (j : Nat) => ((nthD ((0 : Int), (0 : Int)) l j).fst, (nthD ((0 : Int), (0 : Int)) l j).snd))
 l.length).length ≤
 (1099511627776 : Nat) ∧
 ((!validF N
 (mkN (fun (j : Nat) => ((nthD ((0 : Int), (0 : Int)) l j).fst, (nthD ((0 : Int), (0 : Int)) l j).snd))
 l.length)) =
 true →
 (0 : Nat) = (cycL N l).length ∧
 ((cycL N l).length = (0 : Nat) ∧ True) ∧ (0 : Nat) = (cycL N l).length ∧ false = fndF N l ∧ True) ∧
 ((!validF N
 (mkN (fun (j : Nat) => ((nthD ((0 : Int), (0 : Int)) l j).fst, (nthD ((0 : Int), (0 : Int)) l j).snd))
 l.length)) =
 false →
 l.length = l.length ∧
 validF N
 (mkN (fun (j : Nat) => ((nthD ((0 : Int), (0 : Int)) l j).fst, (nthD ((0 : Int), (0 : Int)) l j).snd))
 l.length) =
 true ∧
 (mkN (fun (j : Nat) => ((nthD ((0 : Int), (0 : Int)) l j).fst, (nthD ((0 : Int), (0 : Int)) l j).snd))
 l.length).length ≤
 (1099511627776 : Nat) ∧
 tblL N.toNat
 (setF
 (mkN
 (fun (j : Nat) =>
 ((nthD ((0 : Int), (0 : Int)) l j).fst, (nthD ((0 : Int), (0 : Int)) l j).snd))
 l.length)) =
 tblL N.toNat (setF l) ∧
 ∃ (x : PUnit),
 (∃ (x : Nat),
 x ≤ N.toNat ∧
 ((0 : Int) = (↑x : Int) ∧
 (-1 : Int) = (cyG (setF l) N.toNat x).fst ∧
 (0 : Nat) = (farR (setF l) N.toNat x).length ∧ True) ∧
 ((0 : Nat) = (farR (setF l) N.toNat x).length ∧
 (farR (setF l) N.toNat x).length = (0 : Nat) ∧ True) ∧
 True) ∧
 ∀ (x_1 : Nat),
 x_1 ≤ N.toNat →
 (decide ((↑x_1 : Int) < N) = true →
 (AV.bs (tblL N.toNat (setF l))).len = (AV.bs (tblL N.toNat (setF l))).len ∧
 mkN (nthD false (tblL N.toNat (setF l))) (AV.bs (tblL N.toNat (setF l))).len =
 tblL N.toNat (setF l) ∧
 ((0 : Int) ≤ N ∧ N ≤ (64 : Int)) ∧
 (tblL N.toNat (setF l)).length = N.toNat * N.toNat ∧
 ((0 : Int) ≤ (↑x_1 : Int) ∧
 (↑x_1 : Int) <
 (↑(AV.is
 (disR N.toNat
 (disG (tblF N.toNat (tblL N.toNat (setF l))) N.toNat (↑x_1 : Int)
 N.toNat))).len :
 Int)) ∧
 x_1 <
 (AV.is
 (disR N.toNat
 (disG (tblF N.toNat (tblL N.toNat (setF l))) N.toNat (↑x_1 : Int)
 N.toNat))).len ∧
 (decide ((cyG (setF l) N.toNat x_1).fst < (0 : Int)) = false →
 decide
 (nthD (0 : Int)
 (disR N.toNat
 (disG (tblF N.toNat (tblL N.toNat (setF l))) N.toNat
 (↑x_1 : Int) N.toNat))
 x_1 >
 (0 : Int)) =
 true →
 (0 : Int) ≤ (↑x_1 : Int) ∧
 (↑x_1 : Int) <
 (↑(AV.is
 (disR N.toNat
 (disG (tblF N.toNat (tblL N.toNat (setF l))) N.toNat
 (↑x_1 : Int) N.toNat))).len :
 Int)) ∧
 (decide ((cyG (setF l) N.toNat x_1).fst < (0 : Int)) = false →
 decide
 (nthD (0 : Int)
 (disR N.toNat
 (disG (tblF N.toNat (tblL N.toNat (setF l))) N.toNat
 (↑x_1 : Int) N.toNat))
 x_1 >
 (0 : Int)) =
 true →
 x_1 <
 (AV.is
 (disR N.toNat
 (disG (tblF N.toNat (tblL N.toNat (setF l))) N.toNat
 (↑x_1 : Int) N.toNat))).len) ∧
 (decide ((cyG (setF l) N.toNat x_1).fst < (0 : Int)) = false →
 decide
 (nthD (0 : Int)
 (disR N.toNat
 (disG (tblF N.toNat (tblL N.toNat (setF l))) N.toNat
 (↑x_1 : Int) N.toNat))
 x_1 >
 (0 : Int)) =
 true →
 (0 : Int) ≤ (cyG (setF l) N.toNat x_1).fst ∧
 (cyG (setF l) N.toNat x_1).fst <
 (↑(farR (setF l) N.toNat x_1).length : Int)) ∧
 (decide ((cyG (setF l) N.toNat x_1).fst < (0 : Int)) = false →
 decide
 (nthD (0 : Int)
 (disR N.toNat
 (disG (tblF N.toNat (tblL N.toNat (setF l))) N.toNat
 (↑x_1 : Int) N.toNat))
 x_1 >
 (0 : Int)) =
 true →
 (cyG (setF l) N.toNat x_1).fst.toNat <
 (farR (setF l) N.toNat x_1).length) ∧
 ((decide
 (nthD (0 : Int)
 (disR N.toNat
 (disG (tblF N.toNat (tblL N.toNat (setF l))) N.toNat
 (↑x_1 : Int) N.toNat))
 x_1 >
 (0 : Int)) &&
 (decide ((cyG (setF l) N.toNat x_1).fst < (0 : Int)) ||
 decide
 (nthD (0 : Int)
 (disR N.toNat
 (disG (tblF N.toNat (tblL N.toNat (setF l))) N.toNat
 (↑x_1 : Int) N.toNat))
 x_1 <
 nthD (0 : Int) (farR (setF l) N.toNat x_1)
 (cyG (setF l) N.toNat x_1).fst.toNat))) =
 true →
 ∃ (x_2 : Nat),
 x_2 ≤ N.toNat ∧
 ((PLoop.of (lCy0' (setF l) N.toNat)).ann x).mu x_2 <
 ((PLoop.of (lCy0' (setF l) N.toNat)).ann x).mu x_1 ∧
 ((N = N ∧ l.length = l.length) ∧
 True ∧
 (0 : Nat) = (0 : Nat) ∧
 false = false ∧
 (AV.bs (tblL N.toNat (setF l))).len =
 (AV.bs (tblL N.toNat (setF l))).len ∧
 (↑x_1 : Int) = (cyG (setF l) N.toNat x_2).fst ∧
 (AV.is
 (disR N.toNat
 (disG
 (tblF N.toNat
 (tblL N.toNat (setF l)))
 N.toNat (↑x_1 : Int)
 N.toNat))).len =
 (farR (setF l) N.toNat x_2).length ∧
 IntKind.i64.wrap ((↑x_1 : Int) + (1 : Int)) =
 (↑x_2 : Int) ∧
 (N = N ∧ l.length = l.length) ∧
 validF N
 (mkN
 (fun (j : Nat) =>
 ((nthD ((0 : Int), (0 : Int)) l
 j).fst,
 (nthD ((0 : Int), (0 : Int)) l
 j).snd))
 l.length) =
 validF N
 (mkN
 (fun (j : Nat) =>
 ((nthD ((0 : Int), (0 : Int)) l
 j).fst,
 (nthD ((0 : Int), (0 : Int)) l
 j).snd))
 l.length) ∧
 false = false ∧
 (N = N ∧ l.length = l.length) ∧
 (AV.bs
 (tblL N.toNat
 (setF l))).len =
 (AV.bs
 (tblL N.toNat
 (setF l))).len ∧
 True) ∧
 (l.length = l.length ∧
 (∀ (j : Nat),
 j < l.length →
 (nthD ((0 : Int), (0 : Int)) l j).fst =
 (nthD ((0 : Int), (0 : Int)) l j).fst) ∧
 (∀ (j : Nat),
 j < l.length →
 (nthD ((0 : Int), (0 : Int)) l j).snd =
 (nthD ((0 : Int), (0 : Int)) l j).snd) ∧
 True) ∧
 (N = N ∧ l.length = l.length) ∧
 ((0 : Nat) = (0 : Nat) ∧ True ∧ True) ∧
 ((AV.bs (tblL N.toNat (setF l))).len =
 (AV.bs (tblL N.toNat (setF l))).len ∧
 (∀ (j : Nat),
 j < (AV.bs (tblL N.toNat (setF l))).len →
 nthD false (tblL N.toNat (setF l)) j =
 nthD false (tblL N.toNat (setF l)) j) ∧
 True) ∧
 ((AV.is
 (disR N.toNat
 (disG
 (tblF N.toNat (tblL N.toNat (setF l)))
 N.toNat (↑x_1 : Int) N.toNat))).len =
 (farR (setF l) N.toNat x_2).length ∧
 (∀ (j : Nat),
 j < (farR (setF l) N.toNat x_2).length →
 nthD (0 : Int)
 (disR N.toNat
 (disG
 (tblF N.toNat
 (tblL N.toNat (setF l)))
 N.toNat (↑x_1 : Int) N.toNat))
 j =
 nthD (0 : Int)
 (farR (setF l) N.toNat x_2) j) ∧
 True) ∧
 True) ∧
 ((decide
 (nthD (0 : Int)
 (disR N.toNat
 (disG (tblF N.toNat (tblL N.toNat (setF l))) N.toNat
 (↑x_1 : Int) N.toNat))
 x_1 >
 (0 : Int)) &&
 (decide ((cyG (setF l) N.toNat x_1).fst < (0 : Int)) ||
 decide
 (nthD (0 : Int)
 (disR N.toNat
 (disG (tblF N.toNat (tblL N.toNat (setF l))) N.toNat
 (↑x_1 : Int) N.toNat))
 x_1 <
 nthD (0 : Int) (farR (setF l) N.toNat x_1)
 (cyG (setF l) N.toNat x_1).fst.toNat))) =
 false →
 ∃ (x_2 : Nat),
 x_2 ≤ N.toNat ∧
 ((PLoop.of (lCy0' (setF l) N.toNat)).ann x).mu x_2 <
 ((PLoop.of (lCy0' (setF l) N.toNat)).ann x).mu x_1 ∧
 ((N = N ∧ l.length = l.length) ∧
 True ∧
 (0 : Nat) = (0 : Nat) ∧
 false = false ∧
 (AV.bs (tblL N.toNat (setF l))).len =
 (AV.bs (tblL N.toNat (setF l))).len ∧
 (cyG (setF l) N.toNat x_1).fst =
 (cyG (setF l) N.toNat x_2).fst ∧
 (farR (setF l) N.toNat x_1).length =
 (farR (setF l) N.toNat x_2).length ∧
 IntKind.i64.wrap ((↑x_1 : Int) + (1 : Int)) =
 (↑x_2 : Int) ∧
 (N = N ∧ l.length = l.length) ∧
 validF N
 (mkN
 (fun (j : Nat) =>
 ((nthD ((0 : Int), (0 : Int)) l
 j).fst,
 (nthD ((0 : Int), (0 : Int)) l
 j).snd))
 l.length) =
 validF N
 (mkN
 (fun (j : Nat) =>
 ((nthD ((0 : Int), (0 : Int)) l
 j).fst,
 (nthD ((0 : Int), (0 : Int)) l
 j).snd))
 l.length) ∧
 false = false ∧
 (N = N ∧ l.length = l.length) ∧
 (AV.bs
 (tblL N.toNat
 (setF l))).len =
 (AV.bs
 (tblL N.toNat
 (setF l))).len ∧
 True) ∧
 (l.length = l.length ∧
 (∀ (j : Nat),
 j < l.length →
 (nthD ((0 : Int), (0 : Int)) l j).fst =
 (nthD ((0 : Int), (0 : Int)) l j).fst) ∧
 (∀ (j : Nat),
 j < l.length →
 (nthD ((0 : Int), (0 : Int)) l j).snd =
 (nthD ((0 : Int), (0 : Int)) l j).snd) ∧
 True) ∧
 (N = N ∧ l.length = l.length) ∧
 ((0 : Nat) = (0 : Nat) ∧ True ∧ True) ∧
 ((AV.bs (tblL N.toNat (setF l))).len =
 (AV.bs (tblL N.toNat (setF l))).len ∧
 (∀ (j : Nat),
 j < (AV.bs (tblL N.toNat (setF l))).len →
 nthD false (tblL N.toNat (setF l)) j =
 nthD false (tblL N.toNat (setF l)) j) ∧
 True) ∧
 ((farR (setF l) N.toNat x_1).length =
 (farR (setF l) N.toNat x_2).length ∧
 (∀ (j : Nat),
 j < (farR (setF l) N.toNat x_2).length →
 nthD (0 : Int) (farR (setF l) N.toNat x_1)
 j =
 nthD (0 : Int)
 (farR (setF l) N.toNat x_2) j) ∧
 True) ∧
 True)) ∧
 (decide ((↑x_1 : Int) < N) = false →
 (decide ((cyG (setF l) N.toNat x_1).fst < (0 : Int)) = true →
 (0 : Nat) = (cycL N l).length ∧
 ((cycL N l).length = (0 : Nat) ∧ True) ∧
 (0 : Nat) = (cycL N l).length ∧ false = fndF N l ∧ True) ∧
 (decide ((cyG (setF l) N.toNat x_1).fst < (0 : Int)) = false →
 ((0 : Int) ≤ (cyG (setF l) N.toNat x_1).fst ∧
 (cyG (setF l) N.toNat x_1).fst < (↑(farR (setF l) N.toNat x_1).length : Int)) ∧
 (cyG (setF l) N.toNat x_1).fst.toNat < (farR (setF l) N.toNat x_1).length ∧
 ∃ (x : PUnit),
 (∃ (x : Nat),
 x + (1 : Nat) ≤ (cyN N l).toNat ∧
 ((1 : Nat) = (pthL (cyP N l) (x + (1 : Nat))).length ∧
 (cyG (setF l) N.toNat x_1).fst = cyP N l x ∧
 IntKind.i64.wrap
 (nthD (0 : Int) (farR (setF l) N.toNat x_1)
 (cyG (setF l) N.toNat x_1).fst.toNat -
 (1 : Int)) =
 cyN N l - (1 : Int) - (↑x : Int) ∧
 True) ∧
 ((1 : Nat) = (pthL (cyP N l) (x + (1 : Nat))).length ∧
 (∀ (j : Nat),
 j < (pthL (cyP N l) (x + (1 : Nat))).length →
 pickI [(cyG (setF l) N.toNat x_1).fst] j =
 nthD (0 : Int) (pthL (cyP N l) (x + (1 : Nat))) j) ∧
 True) ∧
 True) ∧
 ∀ (x_2 : Nat),
 x_2 + (1 : Nat) ≤ (cyN N l).toNat →
 (decide (cyN N l - (1 : Int) - (↑x_2 : Int) > (0 : Int)) = true →
 ∃ (x_3 : Nat),
 (∃ (x : Nat),
 (x < N.toNat ∧
 ((List.range x).all fun (b : Nat) =>
 !fit (setF l) (cyO N l)
 (cyN N l - (↑(x_3 + (1 : Nat)) : Int)) (cyP N l x_3)
 b) =
 true) ∧
 ((0 : Int) = (↑x : Int) ∧ True) ∧ True) ∧
 ∀ (x_4 : Nat),
 x_4 < N.toNat ∧
 ((List.range x_4).all fun (b : Nat) =>
 !fit (setF l) (cyO N l)
 (cyN N l - (↑(x_3 + (1 : Nat)) : Int)) (cyP N l x_3)
 b) =
 true →
 ((0 : Int) ≤
 IntKind.i64.wrap
 (IntKind.i64.wrap (cyP N l x_2 * N) + (↑x_4 : Int)) ∧
 IntKind.i64.wrap
 (IntKind.i64.wrap (cyP N l x_2 * N) + (↑x_4 : Int)) <
 (↑(AV.bs (tblL N.toNat (setF l))).len : Int)) ∧
 (IntKind.i64.wrap
 (IntKind.i64.wrap (cyP N l x_2 * N) +
 (↑x_4 : Int))).toNat <
 (AV.bs (tblL N.toNat (setF l))).len ∧
 ((!nthD false (tblL N.toNat (setF l))
 (IntKind.i64.wrap
 (IntKind.i64.wrap (cyP N l x_2 * N) +
 (↑x_4 : Int))).toNat) =
 false →
 (0 : Int) ≤ (↑x_4 : Int) ∧
 (↑x_4 : Int) <
 (↑(farR (setF l) N.toNat x_1).length : Int)) ∧
 ((!nthD false (tblL N.toNat (setF l))
 (IntKind.i64.wrap
 (IntKind.i64.wrap (cyP N l x_2 * N) +
 (↑x_4 : Int))).toNat) =
 false →
 x_4 < (farR (setF l) N.toNat x_1).length) ∧
 ((!nthD false (tblL N.toNat (setF l))
 (IntKind.i64.wrap
 (IntKind.i64.wrap (cyP N l x_2 * N) +
 (↑x_4 : Int))).toNat ||
 nthD (0 : Int) (farR (setF l) N.toNat x_1)
 x_4 !=
 cyN N l - (1 : Int) - (↑x_2 : Int)) =
 true →
 ∃ (x : Nat),
 (x < N.toNat ∧
 ((List.range x).all fun (b : Nat) =>
 !fit (setF l) (cyO N l)
 (cyN N l - (↑(x_3 + (1 : Nat)) : Int))
 (cyP N l x_3) b) =
 true) ∧
 ((lCy4' (setF l) N.toNat (cyO N l) (cyP N l)
 (cyN N l)).ann
 x_3).mu
 x <
 ((lCy4' (setF l) N.toNat (cyO N l) (cyP N l)
 (cyN N l)).ann
 x_3).mu
 x_4 ∧
 ((N = N ∧ l.length = l.length) ∧
 True ∧
 (0 : Nat) = (0 : Nat) ∧
 false = false ∧
 (AV.bs
 (tblL N.toNat
 (setF l))).len =
 (AV.bs
 (tblL N.toNat
 (setF l))).len ∧
 (cyG (setF l) N.toNat x_1).fst =
 (cyG (setF l) N.toNat
 x_1).fst ∧
 (farR (setF l) N.toNat
 x_1).length =
 (farR (setF l) N.toNat
 x_1).length ∧
 (↑x_1 : Int) = (↑x_1 : Int) ∧
 (pthL (cyP N l)
 (x_2 +
 (1 :
 Nat))).length =
 (pthL (cyP N l)
 (x_2 +
 (1 :
 Nat))).length ∧
 cyP N l x_2 =
 cyP N l x_2 ∧
 cyN N l - (1 : Int) -
 (↑x_2 : Int) =
 cyN N l -
 (1 : Int) -
 (↑x_2 : Int) ∧
 IntKind.i64.wrap
 ((↑x_4 : Int) +
 (1 : Int)) =
 (↑x : Int) ∧
 (N = N ∧
 l.length =
 l.length) ∧
 validF N
 (mkN
 (fun
 (j :
 Nat) =>
 ((nthD
 ((0 :
 Int),
 (0 :
 Int))
 l
 j).fst,
 (nthD
 ((0 :
 Int),
 (0 :
 Int))
 l
 j).snd))
 l.length) =
 validF N
 (mkN
 (fun
 (j :
 Nat) =>
 ((nthD
 ((0 :
 Int),
 (0 :
 Int))
 l
 j).fst,
 (nthD
 ((0 :
 Int),
 (0 :
 Int))
 l
 j).snd))
 l.length) ∧
 false = false ∧
 (N = N ∧
 l.length =
 l.length) ∧
 (AV.bs
 (tblL
 N.toNat
 (setF
 l))).len =
 (AV.bs
 (tblL
 N.toNat
 (setF
 l))).len ∧
 (↑x_1 :
 Int) =
 (↑x_1 :
 Int) ∧
 True ∧
 N =
 N ∧
 false =
 false ∧
 (cyG
 (setF
 l)
 N.toNat
 x_1).fst =
 (cyG
 (setF
 l)
 N.toNat
 x_1).fst ∧
 false =
 false ∧
 (cyG
 (setF
 l)
 N.toNat
 x_1).fst =
 (cyG
 (setF
 l)
 N.toNat
 x_1).fst ∧
 (cyG
 (setF
 l)
 N.toNat
 x_1).fst =
 (cyG
 (setF
 l)
 N.toNat
 x_1).fst ∧
 (farR
 (setF
 l)
 N.toNat
 x_1).length =
 (farR
 (setF
 l)
 N.toNat
 x_1).length ∧
 (cyG
 (setF
 l)
 N.toNat
 x_1).fst =
 (cyG
 (setF
 l)
 N.toNat
 x_1).fst ∧
 (cyG
 (setF
 l)
 N.toNat
 x_1).fst.toNat =
 (cyG
 (setF
 l)
 N.toNat
 x_1).fst.toNat ∧
 nthD
 (0 :
 Int)
 (farR
 (setF
 l)
 N.toNat
 x_1)
 (cyG
 (setF
 l)
 N.toNat
 x_1).fst.toNat =
 nthD
 (0 :
 Int)
 (farR
 (setF
 l)
 N.toNat
 x_1)
 (cyG
 (setF
 l)
 N.toNat
 x_1).fst.toNat ∧
 IntKind.i64.wrap
 (nthD
 (0 :
 Int)
 (farR
 (setF
 l)
 N.toNat
 x_1)
 (cyG
 (setF
 l)
 N.toNat
 x_1).fst.toNat -
 (1 :
 Int)) =
 IntKind.i64.wrap
 (nthD
 (0 :
 Int)
 (farR
 (setF
 l)
 N.toNat
 x_1)
 (cyG
 (setF
 l)
 N.toNat
 x_1).fst.toNat -
 (1 :
 Int)) ∧
 cyN
 N
 l -
 (1 :
 Int) -
 (↑x_2 :
 Int) =
 cyN
 N
 l -
 (1 :
 Int) -
 (↑x_2 :
 Int) ∧
 true =
 true ∧
 True) ∧
 (l.length = l.length ∧
 (∀ (j : Nat),
 j < l.length →
 (nthD ((0 : Int), (0 : Int)) l
 j).fst =
 (nthD ((0 : Int), (0 : Int)) l
 j).fst) ∧
 (∀ (j : Nat),
 j < l.length →
 (nthD ((0 : Int), (0 : Int)) l
 j).snd =
 (nthD ((0 : Int), (0 : Int)) l
 j).snd) ∧
 True) ∧
 (N = N ∧ l.length = l.length) ∧
 ((0 : Nat) = (0 : Nat) ∧ True ∧ True) ∧
 ((AV.bs (tblL N.toNat (setF l))).len =
 (AV.bs
 (tblL N.toNat
 (setF l))).len ∧
 (∀ (j : Nat),
 j <
 (AV.bs
 (tblL N.toNat
 (setF l))).len →
 nthD false
 (tblL N.toNat (setF l))
 j =
 nthD false
 (tblL N.toNat (setF l))
 j) ∧
 True) ∧
 ((farR (setF l) N.toNat
 x_1).length =
 (farR (setF l) N.toNat
 x_1).length ∧
 (∀ (j : Nat),
 j <
 (farR (setF l) N.toNat
 x_1).length →
 nthD (0 : Int)
 (farR (setF l) N.toNat
 x_1)
 j =
 nthD (0 : Int)
 (farR (setF l) N.toNat
 x_1)
 j) ∧
 True) ∧
 ((pthL (cyP N l)
 (x_2 +
 (1 : Nat))).length =
 (pthL (cyP N l)
 (x_2 +
 (1 : Nat))).length ∧
 (∀ (j : Nat),
 j <
 (pthL (cyP N l)
 (x_2 +
 (1 :
 Nat))).length →
 nthD (0 : Int)
 (pthL (cyP N l)
 (x_2 + (1 : Nat)))
 j =
 nthD (0 : Int)
 (pthL (cyP N l)
 (x_2 + (1 : Nat)))
 j) ∧
 True) ∧
 True) ∧
 ((!nthD false (tblL N.toNat (setF l))
 (IntKind.i64.wrap
 (IntKind.i64.wrap (cyP N l x_2 * N) +
 (↑x_4 : Int))).toNat ||
 nthD (0 : Int) (farR (setF l) N.toNat x_1)
 x_4 !=
 cyN N l - (1 : Int) - (↑x_2 : Int)) =
 false →
 (pthL (cyP N l) (x_2 + (1 : Nat))).length =
 (pthL (cyP N l) (x_2 + (1 : Nat))).length ∧
 (1 : Nat) = (1 : Nat) ∧
 ((pthL (cyP N l) (x_2 + (1 : Nat))).length +
 (1 : Nat)) *
 (8 : Nat) ≤
 (140737488355328 : Nat) ∧
 (pthL (cyP N l) (x_2 + (1 : Nat))).length +
 (1 : Nat) ≤
 (9223372036854775807 : Nat) ∧
 ∃ (x_5 : Nat),
 x_5 + (1 : Nat) ≤ (cyN N l).toNat ∧
 ((PLoop.of
 (lCy2' (cyP N l)
 (cyN N l))).ann
 x).mu
 x_5 <
 ((PLoop.of
 (lCy2' (cyP N l)
 (cyN N l))).ann
 x).mu
 x_2 ∧
 ((N = N ∧ l.length = l.length) ∧
 True ∧
 (0 : Nat) = (0 : Nat) ∧
 false = false ∧
 (AV.bs
 (tblL N.toNat
 (setF l))).len =
 (AV.bs
 (tblL N.toNat
 (setF l))).len ∧
 (cyG (setF l) N.toNat
 x_1).fst =
 (cyG (setF l) N.toNat
 x_1).fst ∧
 (farR (setF l) N.toNat
 x_1).length =
 (farR (setF l)
 N.toNat
 x_1).length ∧
 (↑x_1 : Int) =
 (↑x_1 : Int) ∧
 (pthL (cyP N l)
 (x_2 +
 (1 :
 Nat))).length +
 (1 : Nat) =
 (pthL (cyP N l)
 (x_5 +
 (1 :
 Nat))).length ∧
 (↑x_4 : Int) =
 cyP N l x_5 ∧
 IntKind.i64.wrap
 (cyN N l -
 (1 :
 Int) -
 (↑x_2 :
 Int) -
 (1 :
 Int)) =
 cyN N l -
 (1 :
 Int) -
 (↑x_5 :
 Int) ∧
 (N = N ∧
 l.length =
 l.length) ∧
 validF N
 (mkN
 (fun
 (j :
 Nat) =>
 ((nthD
 ((0 :
 Int),
 (0 :
 Int))
 l
 j).fst,
 (nthD
 ((0 :
 Int),
 (0 :
 Int))
 l
 j).snd))
 l.length) =
 validF N
 (mkN
 (fun
 (j :
 Nat) =>
 ((nthD
 ((0 :
 Int),
 (0 :
 Int))
 l
 j).fst,
 (nthD
 ((0 :
 Int),
 (0 :
 Int))
 l
 j).snd))
 l.length) ∧
 false =
 false ∧
 (N = N ∧
 l.length =
 l.length) ∧
 (AV.bs
 (tblL
 N.toNat
 (setF
 l))).len =
 (AV.bs
 (tblL
 N.toNat
 (setF
 l))).len ∧
 (↑x_1 :
 Int) =
 (↑x_1 :
 Int) ∧
 True ∧
 N =
 N ∧
 false =
 false ∧
 (cyG
 (setF
 l)
 N.toNat
 x_1).fst =
 (cyG
 (setF
 l)
 N.toNat
 x_1).fst ∧
 false =
 false ∧
 (cyG
 (setF
 l)
 N.toNat
 x_1).fst =
 (cyG
 (setF
 l)
 N.toNat
 x_1).fst ∧
 (cyG
 (setF
 l)
 N.toNat
 x_1).fst =
 (cyG
 (setF
 l)
 N.toNat
 x_1).fst ∧
 (farR
 (setF
 l)
 N.toNat
 x_1).length =
 (farR
 (setF
 l)
 N.toNat
 x_1).length ∧
 (cyG
 (setF
 l)
 N.toNat
 x_1).fst =
 (cyG
 (setF
 l)
 N.toNat
 x_1).fst ∧
 (cyG
 (setF
 l)
 N.toNat
 x_1).fst.toNat =
 (cyG
 (setF
 l)
 N.toNat
 x_1).fst.toNat ∧
 nthD
 (0 :
 Int)
 (farR
 (setF
 l)
 N.toNat
 x_1)
 (cyG
 (setF
 l)
 N.toNat
 x_1).fst.toNat =
 nthD
 (0 :
 Int)
 (farR
 (setF
 l)
 N.toNat
 x_1)
 (cyG
 (setF
 l)
 N.toNat
 x_1).fst.toNat ∧
 IntKind.i64.wrap
 (nthD
 (0 :
 Int)
 (farR
 (setF
 l)
 N.toNat
 x_1)
 (cyG
 (setF
 l)
 N.toNat
 x_1).fst.toNat -
 (1 :
 Int)) =
 IntKind.i64.wrap
 (nthD
 (0 :
 Int)
 (farR
 (setF
 l)
 N.toNat
 x_1)
 (cyG
 (setF
 l)
 N.toNat
 x_1).fst.toNat -
 (1 :
 Int)) ∧
 True) ∧
 (l.length = l.length ∧
 (∀ (j : Nat),
 j < l.length →
 (nthD
 ((0 : Int),
 (0 : Int))
 l j).fst =
 (nthD
 ((0 : Int),
 (0 : Int))
 l j).fst) ∧
 (∀ (j : Nat),
 j < l.length →
 (nthD
 ((0 : Int),
 (0 : Int))
 l j).snd =
 (nthD
 ((0 : Int),
 (0 : Int))
 l j).snd) ∧
 True) ∧
 (N = N ∧ l.length = l.length) ∧
 ((0 : Nat) = (0 : Nat) ∧
 True ∧ True) ∧
 ((AV.bs
 (tblL N.toNat
 (setF l))).len =
 (AV.bs
 (tblL N.toNat
 (setF l))).len ∧
 (∀ (j : Nat),
 j <
 (AV.bs
 (tblL N.toNat
 (setF
 l))).len →
 nthD false
 (tblL N.toNat
 (setF l))
 j =
 nthD false
 (tblL N.toNat
 (setF l))
 j) ∧
 True) ∧
 ((farR (setF l) N.toNat
 x_1).length =
 (farR (setF l) N.toNat
 x_1).length ∧
 (∀ (j : Nat),
 j <
 (farR (setF l)
 N.toNat
 x_1).length →
 nthD (0 : Int)
 (farR (setF l)
 N.toNat x_1)
 j =
 nthD (0 : Int)
 (farR (setF l)
 N.toNat x_1)
 j) ∧
 True) ∧
 ((pthL (cyP N l)
 (x_2 +
 (1 :
 Nat))).length +
 (1 : Nat) =
 (pthL (cyP N l)
 (x_5 +
 (1 :
 Nat))).length ∧
 (∀ (j : Nat),
 j <
 (pthL
 (cyP N l)
 (x_5 +
 (1 :
 Nat))).length →
 (bif
 j.blt
 (pthL
 (cyP
 N
 l)
 (x_2 +
 (1 :
 Nat))).length then
 nthD
 (0 : Int)
 (pthL
 (cyP N
 l)
 (x_2 +
 (1 :
 Nat)))
 j
 else
 pickI
 [(↑x_4 :
 Int)]
 (j -
 (pthL
 (cyP
 N
 l)
 (x_2 +
 (1 :
 Nat))).length)) =
 nthD (0 : Int)
 (pthL
 (cyP N l)
 (x_5 +
 (1 :
 Nat)))
 j) ∧
 True) ∧
 True)) ∧
 (decide (cyN N l - (1 : Int) - (↑x_2 : Int) > (0 : Int)) = false →
 (pthL (cyP N l) (x_2 + (1 : Nat))).length = (cycL N l).length ∧
 ((∀ (j : Nat),
 j < (cycL N l).length →
 nthD (0 : Int) (pthL (cyP N l) (x_2 + (1 : Nat))) j =
 nthD (0 : Int) (cycL N l) j) ∧
 True) ∧
 (pthL (cyP N l) (x_2 + (1 : Nat))).length = (cycL N l).length ∧
 true = fndF N l ∧ True))))) := by kernel_rfl
theorem v12 (N : Int) (l : List Pq) (hl : L9 l) : fnVc (tabG [kVal' [], kTbl [none, none, none, some (.bs (tblL N.toNat (setF l)))], kDis' [none, none, none, some (.bs (tblL N.toNat (setF l)))]] [(0, .of (lCy0' (setF l) N.toNat)), (2, .of (lCy2' (cyP N l) (cyN N l))), (4, lCy4' (setF l) N.toNat (cyO N l) (cyP N l) (cyN N l))] 10 [.freeze 5]) Try.f12 [rlV N 0 l] [arP l] (resIs (tupB (.sl 0 (cycL N l).length) (fndF N l)) 3 (cycL N l).length (isCols (cycL N l))) := by
  rw [v12_eq]
  simp only [eq_self, true_and, and_true, implies_true, imp_self, mkN_ps, mkN_rs, mkN_self, mkN_len, PLoop.of, lCnt, AV.len, lCy0, lCy2, lCy4, lCy0', lCy2', lCy4', disR_tbl, mk_tbl]
  refine ⟨hl, fun h => ?_, fun h => ?_⟩
  · have hv : validF N l = false := by simpa using h
    have hfd : fndF N l = false := by rw [fndF, hv]; rfl
    simp [cycL, hfd]
  · have hv : validF N l = true := by simpa using h
    obtain ⟨h0, h1, h3⟩ := validF_iff.1 hv
    refine ⟨hv, hl, (), ⟨0, by omega, ⟨rfl, rfl, by simp [farR, cyG]⟩, by simp [farR, cyG], by simp [farR, cyG]⟩, fun k hk => ⟨fun hlk => ?_, fun hlk => ?_⟩⟩
    · have hlk2 := of_decide_eq_true hlk
      have hk3 : k < N.toNat := by omega
      have hnn := disG_nonneg (f := setF l) (n := N.toNat) (to := (k : Int)) (i := N.toNat) (a := k)
      have hcy := cyG_ok (f := setF l) (n := N.toNat) k
      have hfar : decide ((cyG (setF l) N.toNat k).1 < 0) = false → 0 ≤ (cyG (setF l) N.toNat k).1 ∧ (cyG (setF l) N.toNat k).1 < (k : Int) ∧ farR (setF l) N.toNat k = disR N.toNat (disG (setF l) N.toNat (cyG (setF l) N.toNat k).1 N.toNat) ∧ nthD 0 (farR (setF l) N.toNat k) (cyG (setF l) N.toNat k).1.toNat = (cyG (setF l) N.toNat k).2 := fun hd => by
        have hd := of_decide_eq_false hd
        rcases hcy with ⟨q1, _⟩ | ⟨q1, q2, q3, q4⟩
        · omega
        · refine ⟨q1, q2, farR_some q1, ?_⟩
          rw [farR_some q1, nthD_disR (by omega), q3]
      have htest : (decide (disG (setF l) N.toNat k N.toNat k > 0) && (decide ((cyG (setF l) N.toNat k).1 < 0) || decide (disG (setF l) N.toNat k N.toNat k < nthD 0 (farR (setF l) N.toNat k) (cyG (setF l) N.toNat k).1.toNat))) = (disG (setF l) N.toNat k N.toNat k != 0 && (decide ((cyG (setF l) N.toNat k).1 < 0) || decide (disG (setF l) N.toNat k N.toNat k < (cyG (setF l) N.toNat k).2))) := by
        have e1 : decide (disG (setF l) N.toNat k N.toNat k > 0) = (disG (setF l) N.toNat k N.toNat k != 0) := by
          rw [Bool.eq_iff_iff]; simp; omega
        rw [e1]
        cases hd : decide ((cyG (setF l) N.toNat k).1 < 0)
        · rw [(hfar hd).2.2.2]
        · simp
      rw [nthD_disR hk3, htest, disR_len]
      refine ⟨⟨h0, h1⟩, tblL_len _ _, by omega, by omega, fun _ _ => by omega, fun _ _ => by omega, fun hd _ => ?_, fun hd _ => ?_, fun hc => ?_, fun hc => ?_⟩
      · obtain ⟨q1, q2, q3, q4⟩ := hfar hd
        rw [q3, disR_len]; omega
      · obtain ⟨q1, q2, q3, q4⟩ := hfar hd
        rw [q3, disR_len]; omega
      · obtain ⟨e1, e2, e3⟩ := farP_new hc
        exact ⟨k + 1, by omega, by omega, ⟨by rw [e1], by rw [e3, disR_len], wrS (n := 64) (by omega) (by omega)⟩, by rw [e3, disR_len], fun j hj => by rw [e3]⟩
      · obtain ⟨e1, e2, e3⟩ := farP_old hc
        exact ⟨k + 1, by omega, by omega, ⟨by rw [e1], by rw [e3], wrS (n := 64) (by omega) (by omega)⟩, by rw [e3], fun j hj => by rw [e3]⟩
    · have hlk2 := of_decide_eq_false hlk
      have e : k = N.toNat := by omega
      subst e
      refine ⟨fun hc => ?_, fun hc => ?_⟩
      · have hc2 := of_decide_eq_true hc
        have hfd : fndF N l = false := by
          have : ¬ 0 ≤ cyS N l := by rw [cyS]; omega
          rw [fndF, hv, decide_eq_false this]; rfl
        simp [cycL, hfd]
      · have hc2 := of_decide_eq_false hc
        have hs : 0 ≤ cyS N l := by rw [cyS]; omega
        have hfd : fndF N l = true := by rw [fndF, hv, decide_eq_true hs]; rfl
        obtain ⟨s1, s2, s3, s4⟩ := cyS_ok hs
        have hcl : cycL N l = pthL (cyP N l) (cyN N l).toNat := by rw [cycL, hfd]; rfl
        have hst : (cyG (setF l) N.toNat N.toNat).1 = cyS N l := rfl
        rw [farR_some hs, disR_len, hcl, hst, nthD_disR (by omega)]
        simp only [pthL_len, tblL_len]
        have hbest : disG (setF l) N.toNat (cyS N l) N.toNat (cyS N l).toNat = cyN N l := s2.symm
        rw [hbest]
        refine ⟨by omega, by omega, (), ⟨0, by omega, ⟨rfl, rfl, ?_⟩, rfl, fun j hj => ?_⟩, fun i hi => ⟨fun hli => ?_, fun hli => ?_⟩⟩
        · rw [w64_eq (by omega) (by omega)]; simp
        · rw [nthD_pthL hj]
          have : j = 0 := by omega
          subst this; rfl
        · have hli2 : cyN N l - 1 - (i : Int) > 0 := of_decide_eq_true hli
          obtain ⟨x, x1, x2, x3⟩ := cyP_ok hs i (by omega)
          have hex := cyP_next hs (i := i) (by omega)
          obtain ⟨b, b1, b2, b3⟩ := nxt_ok hex
          have hnx : cyP N l (i + 1) = (b : Int) := b1
          refine ⟨i, ⟨0, ⟨by omega, by simp⟩, rfl⟩, fun q hq => ?_⟩
          have i1 := ixw (a := x) (b := q) (N := N) (by omega) (by omega) (by omega)
          have i1' := ix_lt (n := N.toNat) (a := x) (b := q) (by omega) (by omega)
          rw [x1] at hq ⊢
          rw [i1]
          simp only [Int.toNat_natCast]
          rw [tbl_at (by omega) hq.1, nthD_disR hq.1]
          have htest : (!setF l x q || disG (setF l) N.toNat (cyS N l) N.toNat q != cyN N l - 1 - (i : Int)) = !fit (setF l) (cyO N l) (cyN N l - ((i + 1 : Nat) : Int)) x q := by
            rw [fit, Bool.not_and]
            congr 1
            show (!(cyO N l q == _)) = (!(cyO N l q == _))
            congr 2
            omega
          rw [htest]
          refine ⟨by omega, i1', fun _ => by omega, fun _ => hq.1, fun ht => ?_, fun ht => ?_⟩
          · have hqb : q ≠ b := fun e => by
              subst e
              rw [x1] at b3
              rw [b3] at ht; cases ht
            have hqb2 : ¬ b < q := fun hlt => by
              have := List.all_eq_true.1 hq.2 b (List.mem_range.2 hlt)
              rw [x1] at b3
              rw [b3] at this; cases this
            refine ⟨q + 1, ⟨by omega, ?_⟩, by omega, wrS (n := 64) (by omega) (by omega)⟩
            rw [List.range_succ, List.all_append, hq.2]
            simpa using ht
          · have hfq : fit (setF l) (cyO N l) (cyN N l - ((i + 1 : Nat) : Int)) x q = true := by simpa using ht
            have hfind : cyP N l (i + 1) = (q : Int) := by
              show nxt (setF l) N.toNat (cyO N l) (cyN N l - ((i + 1 : Nat) : Int)) (cyP N l i) = _
              rw [x1]
              unfold nxt
              have hlen : q < (List.range N.toNat).length := by rw [List.length_range]; exact hq.1
              have hnq : nthD 0 (List.range N.toNat) q = q := by rw [nthD_get _ _ _ hlen]; simp
              rw [find_first (d := 0) hlen ?_ (by rw [hnq]; exact hfq), hnq]
              rw [List.take_range, Nat.min_eq_left (by omega)]
              exact hq.2
            refine ⟨by omega, by omega, i + 1, by omega, by omega, ⟨rfl, hfind.symm, ?_⟩, rfl, fun j hj => ?_⟩
            · rw [w64_eq (by omega) (by omega)]; omega
            · rw [← hfind]
              exact pthL_app hj
        · have hli2 : ¬ (cyN N l - 1 - (i : Int) > 0) := of_decide_eq_false hli
          have e : i + 1 = (cyN N l).toNat := by omega
          rw [e]
          exact ⟨rfl, fun j hj => rfl, rfl, hfd.symm⟩
theorem fo11 : fnOk Try.prog 11 := ⟨Try.f11, Try.func11, by kernel_rfl, by kernel_rfl⟩
theorem fo12 : fnOk Try.prog 12 := ⟨Try.f12, Try.func12, by kernel_rfl, by kernel_rfl⟩
def t11 : List AV → Tab
  | [.r N l] => tabG [kVal [], kSuc [none, none, none, some (.rs (sucL N.toNat (setF l)))], kDis [none, none, none, some (.rs (sucL N.toNat (setF l)))]] [(0, .of (lCy0 (setF l) N.toNat)), (2, .of (lCy2 (cyP N l) (cyN N l))), (4, lCy4 (sucL N.toNat (setF l)) (cyO N l) (cyP N l) (cyN N l))] 10 [.freeze 5]
  | _ => tab [] []
theorem c11 : CallOk Try.prog [] 11 (genF EL [] [.r] sCyc) := by
  refine okT (fn := Try.f11) Try.func11 fo11 t11 (fun av => ?_) (fun av => ?_) (fun av pre rv h => ?_) (fun av pre rv h hp => ?_)
  · unfold t11; split <;> first | exact tabGOk (mOne (n21 _) (mOne (n34 _) (mOne (n35 _) mNil))) | exact tabOk mNil
  · unfold t11; split <;> exact ⟨rfl, rfl⟩
  · unfold sCyc at h; split at h <;> cases h
    exact ⟨rfl, fun t a e => by cases e <;> exact List.cons_ne_nil _ _⟩
  · unfold sCyc at h; split at h <;> cases h
    exact v11 _ _ (hp _ (.head _))
theorem n11 (nm : List (Option AV)) : CallOk Try.prog [] 11 (genF EL nm [.r] sCyc) := genNm c11
def t12 : List AV → Tab
  | [.r N l] => tabG [kVal' [], kTbl [none, none, none, some (.bs (tblL N.toNat (setF l)))], kDis' [none, none, none, some (.bs (tblL N.toNat (setF l)))]] [(0, .of (lCy0' (setF l) N.toNat)), (2, .of (lCy2' (cyP N l) (cyN N l))), (4, lCy4' (setF l) N.toNat (cyO N l) (cyP N l) (cyN N l))] 10 [.freeze 5]
  | _ => tab [] []
theorem c12 : CallOk Try.prog [] 12 (genF EL [] [.r] sCyc) := by
  refine okT (fn := Try.f12) Try.func12 fo12 t12 (fun av => ?_) (fun av => ?_) (fun av pre rv h => ?_) (fun av pre rv h hp => ?_)
  · unfold t12; split <;> first | exact tabGOk (mOne (n22 _) (mOne (n36 _) (mOne (n37 _) mNil))) | exact tabOk mNil
  · unfold t12; split <;> exact ⟨rfl, rfl⟩
  · unfold sCyc at h; split at h <;> cases h
    exact ⟨rfl, fun t a e => by cases e <;> exact List.cons_ne_nil _ _⟩
  · unfold sCyc at h; split at h <;> cases h
    exact v12 _ _ (hp _ (.head _))
theorem n12 (nm : List (Option AV)) : CallOk Try.prog [] 12 (genF EL nm [.r] sCyc) := genNm c12
end Go.Proofs.Ytcbmbnlgilampaa
