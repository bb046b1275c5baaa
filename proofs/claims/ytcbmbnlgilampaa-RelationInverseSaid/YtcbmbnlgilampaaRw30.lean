/-
  A part of the proof (Rw30).
-/
import Derived.Test.YtcbmbnlgilampaaRw29
namespace Go.Proofs.Ytcbmbnlgilampaa
open Go Go.Proofs.Ytcbmbnlgilampaa.Sx
set_option maxRecDepth 100000
set_option linter.unusedSimpArgs false
set_option linter.unusedVariables false

theorem sameF_refl {A : Int} {a : List Pq} : sameF A a A a = true := by simp [sameF]
theorem lt_of {n : Nat} (h : decide ((n : Int) > 300) = false) : n ≤ 300 := by have := of_decide_eq_false h; omega
theorem L9_300 {l : List Pq} (h : l.length ≤ 300) : l.length ≤ 1099511627776 := by omega
theorem bif_len {N : Int} {l : List Pq} {f : Pf} : (bif validF N l then normL N f else []).length ≤ 1099511627776 := by
  cases hv : validF N l
  · simp
  · have := norm_len (f := f) (validF_iff.1 hv).2.1
    simp only [cond_true]; omega
theorem bif_len2 {A : Int} {a : List Pq} {B : Int} {b : List Pq} {f : Pf} : (bif bothF A a B b then normL A f else []).length ≤ 1099511627776 := by
  cases hv : bothF A a B b
  · simp
  · have := norm_len (f := f) (validF_iff.1 (bothF_iff.1 hv).1).2.1
    simp only [cond_true]; omega
theorem red_len {N : Int} {l : List Pq} : (bif okR N l then redL N l else []).length ≤ 1099511627776 := by
  cases hv : okR N l
  · simp
  · have h1 : validF N l = true := by rw [okR, Bool.and_eq_true] at hv; exact hv.1
    have := norm_len (f := redF (clo N l) N.toNat) (validF_iff.1 h1).2.1
    simp only [cond_true, redL]; omega
theorem cyc_len {N : Int} {l : List Pq} : (cycL N l).length ≤ 1099511627776 := by
  rw [cycL]
  cases hv : fndF N l
  · simp
  · rw [fndF, Bool.and_eq_true] at hv
    have h1 := validF_iff.1 hv.1
    have h2 := cyS_ok (of_decide_eq_true hv.2)
    simp only [cond_true, mkN_len]; omega
theorem v3_eq (N : Int) (l : List Pq) : (fnVc (tab [kExa [], kCyc [], kCyc' [], kInt [], kAcy [], kAcy' [], kClo [], kClo' [], kSam []] []) Try.f3 [rlV N 0 l] [arP l] (plainIs .tt)) = ((decide ((↑l.length : Int) > (300 : Int)) = true → true = true) ∧
 (decide ((↑l.length : Int) > (300 : Int)) = false →
 l.length = l.length ∧
 (mkN (fun (j : Nat) => ((nthD ((0 : Int), (0 : Int)) l j).fst, (nthD ((0 : Int), (0 : Int)) l j).snd))
 l.length).length ≤
 (1099511627776 : Nat) ∧
 l.length = l.length ∧
 (mkN (fun (j : Nat) => ((nthD ((0 : Int), (0 : Int)) l j).fst, (nthD ((0 : Int), (0 : Int)) l j).snd))
 l.length).length ≤
 (1099511627776 : Nat) ∧
 ((fndF N
 (mkN
 (fun (j : Nat) =>
 ((nthD ((0 : Int), (0 : Int)) l j).fst, (nthD ((0 : Int), (0 : Int)) l j).snd))
 l.length) ==
 fndF N
 (mkN
 (fun (j : Nat) =>
 ((nthD ((0 : Int), (0 : Int)) l j).fst, (nthD ((0 : Int), (0 : Int)) l j).snd))
 l.length)) =
 true →
 (AV.is
 (cycL N
 (mkN
 (fun (j : Nat) =>
 ((nthD ((0 : Int), (0 : Int)) l j).fst, (nthD ((0 : Int), (0 : Int)) l j).snd))
 l.length))).len =
 (AV.is
 (cycL N
 (mkN
 (fun (j : Nat) =>
 ((nthD ((0 : Int), (0 : Int)) l j).fst, (nthD ((0 : Int), (0 : Int)) l j).snd))
 l.length))).len) ∧
 ((fndF N
 (mkN
 (fun (j : Nat) =>
 ((nthD ((0 : Int), (0 : Int)) l j).fst, (nthD ((0 : Int), (0 : Int)) l j).snd))
 l.length) ==
 fndF N
 (mkN
 (fun (j : Nat) =>
 ((nthD ((0 : Int), (0 : Int)) l j).fst, (nthD ((0 : Int), (0 : Int)) l j).snd))
 l.length)) =
 true →
 (AV.is
 (cycL N
 (mkN
 (fun (j : Nat) =>
 ((nthD ((0 : Int), (0 : Int)) l j).fst, (nthD ((0 : Int), (0 : Int)) l j).snd))
 l.length))).len =
 (AV.is
 (cycL N
 (mkN
 (fun (j : Nat) =>
 ((nthD ((0 : Int), (0 : Int)) l j).fst, (nthD ((0 : Int), (0 : Int)) l j).snd))
 l.length))).len) ∧
 ((fndF N
 (mkN
 (fun (j : Nat) =>
 ((nthD ((0 : Int), (0 : Int)) l j).fst, (nthD ((0 : Int), (0 : Int)) l j).snd))
 l.length) ==
 fndF N
 (mkN
 (fun (j : Nat) =>
 ((nthD ((0 : Int), (0 : Int)) l j).fst, (nthD ((0 : Int), (0 : Int)) l j).snd))
 l.length)) =
 true →
 (mkN
 (nthD (0 : Int)
 (cycL N
 (mkN
 (fun (j : Nat) =>
 ((nthD ((0 : Int), (0 : Int)) l j).fst, (nthD ((0 : Int), (0 : Int)) l j).snd))
 l.length)))
 (AV.is
 (cycL N
 (mkN
 (fun (j : Nat) =>
 ((nthD ((0 : Int), (0 : Int)) l j).fst, (nthD ((0 : Int), (0 : Int)) l j).snd))
 l.length))).len).length ≤
 (1099511627776 : Nat)) ∧
 ((fndF N
 (mkN
 (fun (j : Nat) =>
 ((nthD ((0 : Int), (0 : Int)) l j).fst, (nthD ((0 : Int), (0 : Int)) l j).snd))
 l.length) ==
 fndF N
 (mkN
 (fun (j : Nat) =>
 ((nthD ((0 : Int), (0 : Int)) l j).fst, (nthD ((0 : Int), (0 : Int)) l j).snd))
 l.length)) =
 true →
 (mkN
 (nthD (0 : Int)
 (cycL N
 (mkN
 (fun (j : Nat) =>
 ((nthD ((0 : Int), (0 : Int)) l j).fst, (nthD ((0 : Int), (0 : Int)) l j).snd))
 l.length)))
 (AV.is
 (cycL N
 (mkN
 (fun (j : Nat) =>
 ((nthD ((0 : Int), (0 : Int)) l j).fst, (nthD ((0 : Int), (0 : Int)) l j).snd))
 l.length))).len).length ≤
 (1099511627776 : Nat)) ∧
 ((fndF N
 (mkN
 (fun (j : Nat) =>
 ((nthD ((0 : Int), (0 : Int)) l j).fst, (nthD ((0 : Int), (0 : Int)) l j).snd))
 l.length) ==
 fndF N
 (mkN
 (fun (j : Nat) =>
 ((nthD ((0 : Int), (0 : Int)) l j).fst, (nthD ((0 : Int), (0 : Int)) l j).snd))
 l.length) &&
 decide
 (mkN
 (nthD (0 : Int)
 (cycL N
 (mkN
 (fun (j : Nat) =>
 ((nthD ((0 : Int), (0 : Int)) l j).fst,
 (nthD ((0 : Int), (0 : Int)) l j).snd))
 l.length)))
 (AV.is
 (cycL N
 (mkN
 (fun (j : Nat) =>
 ((nthD ((0 : Int), (0 : Int)) l j).fst,
 (nthD ((0 : Int), (0 : Int)) l j).snd))
 l.length))).len =
 mkN
 (nthD (0 : Int)
 (cycL N
 (mkN
 (fun (j : Nat) =>
 ((nthD ((0 : Int), (0 : Int)) l j).fst,
 (nthD ((0 : Int), (0 : Int)) l j).snd))
 l.length)))
 (AV.is
 (cycL N
 (mkN
 (fun (j : Nat) =>
 ((nthD ((0 : Int), (0 : Int)) l j).fst,
 (nthD ((0 : Int), (0 : Int)) l j).snd))
 l.length))).len)) =
 true →
 l.length = l.length) ∧
 ((fndF N
 (mkN
 (fun (j : Nat) =>
 ((nthD ((0 : Int), (0 : Int)) l j).fst, (nthD ((0 : Int), (0 : Int)) l j).snd))
 l.length) ==
 fndF N
 (mkN
 (fun (j : Nat) =>
 ((nthD ((0 : Int), (0 : Int)) l j).fst, (nthD ((0 : Int), (0 : Int)) l j).snd))
 l.length) &&
 decide
 (mkN
 (nthD (0 : Int)
 (cycL N
 (mkN
 (fun (j : Nat) =>
 ((nthD ((0 : Int), (0 : Int)) l j).fst,
 (nthD ((0 : Int), (0 : Int)) l j).snd))
 l.length)))
 (AV.is
 (cycL N
 (mkN
 (fun (j : Nat) =>
 ((nthD ((0 : Int), (0 : Int)) l j).fst,
 (nthD ((0 : Int), (0 : Int)) l j).snd))
 l.length))).len =
 mkN
 (nthD (0 : Int)
 (cycL N
 (mkN
 (fun (j : Nat) =>
 ((nthD ((0 : Int), (0 : Int)) l j).fst,
 (nthD ((0 : Int), (0 : Int)) l j).snd))
 l.length)))
 (AV.is
 (cycL N
 (mkN
 (fun (j : Nat) =>
 ((nthD ((0 : Int), (0 : Int)) l j).fst,
 (nthD ((0 : Int), (0 : Int)) l j).snd))
 l.length))).len)) =
 true →
 (mkN
 (fun (j : Nat) =>
 ((nthD ((0 : Int), (0 : Int)) l j).fst, (nthD ((0 : Int), (0 : Int)) l j).snd))
 l.length).length ≤
 (1099511627776 : Nat)) ∧
 ((fndF N
 (mkN
 (fun (j : Nat) =>
 ((nthD ((0 : Int), (0 : Int)) l j).fst, (nthD ((0 : Int), (0 : Int)) l j).snd))
 l.length) ==
 fndF N
 (mkN
 (fun (j : Nat) =>
 ((nthD ((0 : Int), (0 : Int)) l j).fst, (nthD ((0 : Int), (0 : Int)) l j).snd))
 l.length) &&
 decide
 (mkN
 (nthD (0 : Int)
 (cycL N
 (mkN
 (fun (j : Nat) =>
 ((nthD ((0 : Int), (0 : Int)) l j).fst,
 (nthD ((0 : Int), (0 : Int)) l j).snd))
 l.length)))
 (AV.is
 (cycL N
 (mkN
 (fun (j : Nat) =>
 ((nthD ((0 : Int), (0 : Int)) l j).fst,
 (nthD ((0 : Int), (0 : Int)) l j).snd))
 l.length))).len =
 mkN
 (nthD (0 : Int)
 (cycL N
 (mkN
 (fun (j : Nat) =>
 ((nthD ((0 : Int), (0 : Int)) l j).fst,
 (nthD ((0 : Int), (0 : Int)) l j).snd))
 l.length)))
 (AV.is
 (cycL N
 (mkN
 (fun (j : Nat) =>
 ((nthD ((0 : Int), (0 : Int)) l j).fst,
 (nthD ((0 : Int), (0 : Int)) l j).snd))
 l.length))).len)) =
 true →
 l.length = l.length) ∧
 ((fndF N
 (mkN
 (fun (j : Nat) =>
 ((nthD ((0 : Int), (0 : Int)) l j).fst,
 (nthD ((0 : Int), (0 : Int)) l j).snd))
 l.length) ==
 fndF N
 (mkN
 (fun (j : Nat) =>
 ((nthD ((0 : Int), (0 : Int)) l j).fst,
 (nthD ((0 : Int), (0 : Int)) l j).snd))
 l.length) &&
 decide
 (mkN
 (nthD (0 : Int)
 (cycL N
 (mkN
 (fun (j : Nat) =>
 ((nthD ((0 : Int), (0 : Int)) l j).fst,
 (nthD ((0 : Int), (0 : Int)) l j).snd))
 l.length)))
 (AV.is
 (cycL N
 (mkN
 (fun (j : Nat) =>
 ((nthD ((0 : Int), (0 : Int)) l j).fst,
 (nthD ((0 : Int), (0 : Int)) l j).snd))
 l.length))).len =
 mkN
 (nthD (0 : Int)
 (cycL N
 (mkN
 (fun (j : Nat) =>
 ((nthD ((0 : Int), (0 : Int)) l j).fst,
 (nthD ((0 : Int), (0 : Int)) l j).snd))
 l.length)))
 (AV.is
 (cycL N
 (mkN
 (fun (j : Nat) =>
 ((nthD ((0 : Int), (0 : Int)) l j).fst,
 (nthD ((0 : Int), (0 : Int)) l j).snd))
 l.length))).len)) =
 true →
 (mkN
 (fun (j : Nat) =>
 ((nthD ((0 : Int), (0 : Int)) l j).fst, (nthD ((0 : Int), (0 : Int)) l j).snd))
 l.length).length ≤
 (1099511627776 : Nat)) ∧
 ((fndF N
 (mkN
 (fun (j : Nat) =>
 ((nthD ((0 : Int), (0 : Int)) l j).fst,
 (nthD ((0 : Int), (0 : Int)) l j).snd))
 l.length) ==
 fndF N
 (mkN
 (fun (j : Nat) =>
 ((nthD ((0 : Int), (0 : Int)) l j).fst,
 (nthD ((0 : Int), (0 : Int)) l j).snd))
 l.length) &&
 decide
 (mkN
 (nthD (0 : Int)
 (cycL N
 (mkN
 (fun (j : Nat) =>
 ((nthD ((0 : Int), (0 : Int)) l j).fst,
 (nthD ((0 : Int), (0 : Int)) l j).snd))
 l.length)))
 (AV.is
 (cycL N
 (mkN
 (fun (j : Nat) =>
 ((nthD ((0 : Int), (0 : Int)) l j).fst,
 (nthD ((0 : Int), (0 : Int)) l j).snd))
 l.length))).len =
 mkN
 (nthD (0 : Int)
 (cycL N
 (mkN
 (fun (j : Nat) =>
 ((nthD ((0 : Int), (0 : Int)) l j).fst,
 (nthD ((0 : Int), (0 : Int)) l j).snd))
 l.length)))
 (AV.is
 (cycL N
 (mkN
 (fun (j : Nat) =>
 ((nthD ((0 : Int), (0 : Int)) l j).fst,
 (nthD ((0 : Int), (0 : Int)) l j).snd))
 l.length))).len) &&
 (validF N
 (mkN
 (fun (j : Nat) =>
 ((nthD ((0 : Int), (0 : Int)) l j).fst,
 (nthD ((0 : Int), (0 : Int)) l j).snd))
 l.length) &&
 acyF N.toNat
 (wF
 (setF
 (mkN
 (fun (j : Nat) =>
 ((nthD ((0 : Int), (0 : Int)) l j).fst,
 (nthD ((0 : Int), (0 : Int)) l j).snd))
 l.length))
 N.toNat)) ==
 (validF N
 (mkN
 (fun (j : Nat) =>
 ((nthD ((0 : Int), (0 : Int)) l j).fst,
 (nthD ((0 : Int), (0 : Int)) l j).snd))
 l.length) &&
 acyF N.toNat
 (wF
 (setF
 (mkN
 (fun (j : Nat) =>
 ((nthD ((0 : Int), (0 : Int)) l j).fst,
 (nthD ((0 : Int), (0 : Int)) l j).snd))
 l.length))
 N.toNat))) =
 true →
 l.length = l.length) ∧
 ((fndF N
 (mkN
 (fun (j : Nat) =>
 ((nthD ((0 : Int), (0 : Int)) l j).fst,
 (nthD ((0 : Int), (0 : Int)) l j).snd))
 l.length) ==
 fndF N
 (mkN
 (fun (j : Nat) =>
 ((nthD ((0 : Int), (0 : Int)) l j).fst,
 (nthD ((0 : Int), (0 : Int)) l j).snd))
 l.length) &&
 decide
 (mkN
 (nthD (0 : Int)
 (cycL N
 (mkN
 (fun (j : Nat) =>
 ((nthD ((0 : Int), (0 : Int)) l j).fst,
 (nthD ((0 : Int), (0 : Int)) l j).snd))
 l.length)))
 (AV.is
 (cycL N
 (mkN
 (fun (j : Nat) =>
 ((nthD ((0 : Int), (0 : Int)) l j).fst,
 (nthD ((0 : Int), (0 : Int)) l j).snd))
 l.length))).len =
 mkN
 (nthD (0 : Int)
 (cycL N
 (mkN
 (fun (j : Nat) =>
 ((nthD ((0 : Int), (0 : Int)) l j).fst,
 (nthD ((0 : Int), (0 : Int)) l j).snd))
 l.length)))
 (AV.is
 (cycL N
 (mkN
 (fun (j : Nat) =>
 ((nthD ((0 : Int), (0 : Int)) l j).fst,
 (nthD ((0 : Int), (0 : Int)) l j).snd))
 l.length))).len) &&
 (validF N
 (mkN
 (fun (j : Nat) =>
 ((nthD ((0 : Int), (0 : Int)) l j).fst,
 (nthD ((0 : Int), (0 : Int)) l j).snd))
 l.length) &&
 acyF N.toNat
 (wF
 (setF
 (mkN
 (fun (j : Nat) =>
 ((nthD ((0 : Int), (0 : Int)) l j).fst,
 (nthD ((0 : Int), (0 : Int)) l j).snd))
 l.length))
 N.toNat)) ==
 (validF N
 (mkN
 (fun (j : Nat) =>
 ((nthD ((0 : Int), (0 : Int)) l j).fst,
 (nthD ((0 : Int), (0 : Int)) l j).snd))
 l.length) &&
 acyF N.toNat
 (wF
 (setF
 (mkN
 (fun (j : Nat) =>
 ((nthD ((0 : Int), (0 : Int)) l j).fst,
 (nthD ((0 : Int), (0 : Int)) l j).snd))
 l.length))
 N.toNat))) =
 true →
 (mkN
 (fun (j : Nat) =>
 ((nthD ((0 : Int), (0 : Int)) l j).fst,
 (nthD ((0 : Int), (0 : Int)) l j).snd))
 l.length).length ≤
 (1099511627776 : Nat)) ∧
 ((fndF N
 (mkN
 (fun (j : Nat) =>
 ((nthD ((0 : Int), (0 : Int)) l j).fst,
 (nthD ((0 : Int), (0 : Int)) l j).snd))
 l.length) ==
 fndF N
 (mkN
 (fun (j : Nat) =>
 ((nthD ((0 : Int), (0 : Int)) l j).fst,
 (nthD ((0 : Int), (0 : Int)) l j).snd))
 l.length) &&
 decide
 (mkN
 (nthD (0 : Int)
 (cycL N
 (mkN
 (fun (j : Nat) =>
 ((nthD ((0 : Int), (0 : Int)) l j).fst,
 (nthD ((0 : Int), (0 : Int)) l j).snd))
 l.length)))
 (AV.is
 (cycL N
 (mkN
 (fun (j : Nat) =>
 ((nthD ((0 : Int), (0 : Int)) l j).fst,
 (nthD ((0 : Int), (0 : Int)) l j).snd))
 l.length))).len =
 mkN
 (nthD (0 : Int)
 (cycL N
 (mkN
 (fun (j : Nat) =>
 ((nthD ((0 : Int), (0 : Int)) l j).fst,
 (nthD ((0 : Int), (0 : Int)) l j).snd))
 l.length)))
 (AV.is
 (cycL N
 (mkN
 (fun (j : Nat) =>
 ((nthD ((0 : Int), (0 : Int)) l j).fst,
 (nthD ((0 : Int), (0 : Int)) l j).snd))
 l.length))).len) &&
 (validF N
 (mkN
 (fun (j : Nat) =>
 ((nthD ((0 : Int), (0 : Int)) l j).fst,
 (nthD ((0 : Int), (0 : Int)) l j).snd))
 l.length) &&
 acyF N.toNat
 (wF
 (setF
 (mkN
 (fun (j : Nat) =>
 ((nthD ((0 : Int), (0 : Int)) l j).fst,
 (nthD ((0 : Int), (0 : Int)) l j).snd))
 l.length))
 N.toNat)) ==
 (validF N
 (mkN
 (fun (j : Nat) =>
 ((nthD ((0 : Int), (0 : Int)) l j).fst,
 (nthD ((0 : Int), (0 : Int)) l j).snd))
 l.length) &&
 acyF N.toNat
 (wF
 (setF
 (mkN
 (fun (j : Nat) =>
 ((nthD ((0 : Int), (0 : Int)) l j).fst,
 (nthD ((0 : Int), (0 : Int)) l j).snd))
 l.length))
 N.toNat))) =
 true →
 l.length = l.length) ∧
 ((fndF N
 (mkN
 (fun (j : Nat) =>
 ((nthD ((0 : Int), (0 : Int)) l j).fst,
 (nthD ((0 : Int), (0 : Int)) l j).snd))
 l.length) ==
 fndF N
 (mkN
 (fun (j : Nat) =>
 ((nthD ((0 : Int), (0 : Int)) l j).fst,
 (nthD ((0 : Int), (0 : Int)) l j).snd))
 l.length) &&
 decide
 (mkN
 (nthD (0 : Int)
 (cycL N
 (mkN
 (fun (j : Nat) =>
 ((nthD ((0 : Int), (0 : Int)) l j).fst,
 (nthD ((0 : Int), (0 : Int)) l j).snd))
 l.length)))
 (AV.is
 (cycL N
 (mkN
 (fun (j : Nat) =>
 ((nthD ((0 : Int), (0 : Int)) l j).fst,
 (nthD ((0 : Int), (0 : Int)) l j).snd))
 l.length))).len =
 mkN
 (nthD (0 : Int)
 (cycL N
 (mkN
 (fun (j : Nat) =>
 ((nthD ((0 : Int), (0 : Int)) l j).fst,
 (nthD ((0 : Int), (0 : Int)) l j).snd))
 l.length)))
 (AV.is
 (cycL N
 (mkN
 (fun (j : Nat) =>
 ((nthD ((0 : Int), (0 : Int)) l j).fst,
 (nthD ((0 : Int), (0 : Int)) l j).snd))
 l.length))).len) &&
 (validF N
 (mkN
 (fun (j : Nat) =>
 ((nthD ((0 : Int), (0 : Int)) l j).fst,
 (nthD ((0 : Int), (0 : Int)) l j).snd))
 l.length) &&
 acyF N.toNat
 (wF
 (setF
 (mkN
 (fun (j : Nat) =>
 ((nthD ((0 : Int), (0 : Int)) l j).fst,
 (nthD ((0 : Int), (0 : Int)) l j).snd))
 l.length))
 N.toNat)) ==
 (validF N
 (mkN
 (fun (j : Nat) =>
 ((nthD ((0 : Int), (0 : Int)) l j).fst,
 (nthD ((0 : Int), (0 : Int)) l j).snd))
 l.length) &&
 acyF N.toNat
 (wF
 (setF
 (mkN
 (fun (j : Nat) =>
 ((nthD ((0 : Int), (0 : Int)) l j).fst,
 (nthD ((0 : Int), (0 : Int)) l j).snd))
 l.length))
 N.toNat))) =
 true →
 (mkN
 (fun (j : Nat) =>
 ((nthD ((0 : Int), (0 : Int)) l j).fst,
 (nthD ((0 : Int), (0 : Int)) l j).snd))
 l.length).length ≤
 (1099511627776 : Nat)) ∧
 ((fndF N
 (mkN
 (fun (j : Nat) =>
 ((nthD ((0 : Int), (0 : Int)) l j).fst,
 (nthD ((0 : Int), (0 : Int)) l j).snd))
 l.length) ==
 fndF N
 (mkN
 (fun (j : Nat) =>
 ((nthD ((0 : Int), (0 : Int)) l j).fst,
 (nthD ((0 : Int), (0 : Int)) l j).snd))
 l.length) &&
 decide
 (mkN
 (nthD (0 : Int)
 (cycL N
 (mkN
 (fun (j : Nat) =>
 ((nthD ((0 : Int), (0 : Int)) l j).fst,
 (nthD ((0 : Int), (0 : Int)) l j).snd))
 l.length)))
 (AV.is
 (cycL N
 (mkN
 (fun (j : Nat) =>
 ((nthD ((0 : Int), (0 : Int)) l j).fst,
 (nthD ((0 : Int), (0 : Int)) l j).snd))
 l.length))).len =
 mkN
 (nthD (0 : Int)
 (cycL N
 (mkN
 (fun (j : Nat) =>
 ((nthD ((0 : Int), (0 : Int)) l j).fst,
 (nthD ((0 : Int), (0 : Int)) l j).snd))
 l.length)))
 (AV.is
 (cycL N
 (mkN
 (fun (j : Nat) =>
 ((nthD ((0 : Int), (0 : Int)) l j).fst,
 (nthD ((0 : Int), (0 : Int)) l j).snd))
 l.length))).len) &&
 (validF N
 (mkN
 (fun (j : Nat) =>
 ((nthD ((0 : Int), (0 : Int)) l j).fst,
 (nthD ((0 : Int), (0 : Int)) l j).snd))
 l.length) &&
 acyF N.toNat
 (wF
 (setF
 (mkN
 (fun (j : Nat) =>
 ((nthD ((0 : Int), (0 : Int)) l j).fst,
 (nthD ((0 : Int), (0 : Int)) l j).snd))
 l.length))
 N.toNat)) ==
 (validF N
 (mkN
 (fun (j : Nat) =>
 ((nthD ((0 : Int), (0 : Int)) l j).fst,
 (nthD ((0 : Int), (0 : Int)) l j).snd))
 l.length) &&
 acyF N.toNat
 (wF
 (setF
 (mkN
 (fun (j : Nat) =>
 ((nthD ((0 : Int), (0 : Int)) l j).fst,
 (nthD ((0 : Int), (0 : Int)) l j).snd))
 l.length))
 N.toNat))) =
 true →
 (AV.ps
 (bif
 validF N
 (mkN
 (fun (j : Nat) =>
 ((nthD ((0 : Int), (0 : Int)) l j).fst,
 (nthD ((0 : Int), (0 : Int)) l j).snd))
 l.length) then
 normL N
 (wF
 (setF
 (mkN
 (fun (j : Nat) =>
 ((nthD ((0 : Int), (0 : Int)) l j).fst,
 (nthD ((0 : Int), (0 : Int)) l j).snd))
 l.length))
 N.toNat)
 else [])).len =
 (AV.ps
 (bif
 validF N
 (mkN
 (fun (j : Nat) =>
 ((nthD ((0 : Int), (0 : Int)) l j).fst,
 (nthD ((0 : Int), (0 : Int)) l j).snd))
 l.length) then
 normL N
 (wF
 (setF
 (mkN
 (fun (j : Nat) =>
 ((nthD ((0 : Int), (0 : Int)) l j).fst,
 (nthD ((0 : Int), (0 : Int)) l j).snd))
 l.length))
 N.toNat)
 else [])).len) ∧
 ((fndF N
 (mkN
 (fun (j : Nat) =>
 ((nthD ((0 : Int), (0 : Int)) l j).fst,
 (nthD ((0 : Int), (0 : Int)) l j).snd))
 l.length) ==
 fndF N
 (mkN
 (fun (j : Nat) =>
 ((nthD ((0 : Int), (0 : Int)) l j).fst,
 (nthD ((0 : Int), (0 : Int)) l j).snd))
 l.length) &&
 decide
 (mkN
 (nthD (0 : Int)
 (cycL N
 (mkN
 (fun (j : Nat) =>
 ((nthD ((0 : Int), (0 : Int)) l j).fst,
 (nthD ((0 : Int), (0 : Int)) l j).snd))
 l.length)))
 (AV.is
 (cycL N
 (mkN
 (fun (j : Nat) =>
 ((nthD ((0 : Int), (0 : Int)) l j).fst,
 (nthD ((0 : Int), (0 : Int)) l j).snd))
 l.length))).len =
 mkN
 (nthD (0 : Int)
 (cycL N
 (mkN
 (fun (j : Nat) =>
 ((nthD ((0 : Int), (0 : Int)) l j).fst,
 (nthD ((0 : Int), (0 : Int)) l j).snd))
 l.length)))
 (AV.is
 (cycL N
 (mkN
 (fun (j : Nat) =>
 ((nthD ((0 : Int), (0 : Int)) l j).fst,
 (nthD ((0 : Int), (0 : Int)) l j).snd))
 l.length))).len) &&
 (validF N
 (mkN
 (fun (j : Nat) =>
 ((nthD ((0 : Int), (0 : Int)) l j).fst,
 (nthD ((0 : Int), (0 : Int)) l j).snd))
 l.length) &&
 acyF N.toNat
 (wF
 (setF
 (mkN
 (fun (j : Nat) =>
 ((nthD ((0 : Int), (0 : Int)) l j).fst,
 (nthD ((0 : Int), (0 : Int)) l j).snd))
 l.length))
 N.toNat)) ==
 (validF N
 (mkN
 (fun (j : Nat) =>
 ((nthD ((0 : Int), (0 : Int)) l j).fst,
 (nthD ((0 : Int), (0 : Int)) l j).snd))
 l.length) &&
 acyF N.toNat
 (wF
 (setF
 (mkN
 (fun (j : Nat) =>
 ((nthD ((0 : Int), (0 : Int)) l j).fst,
 (nthD ((0 : Int), (0 : Int)) l j).snd))
 l.length))
 N.toNat))) =
 true →
 (AV.ps
 (bif
 validF N
 (mkN
 (fun (j : Nat) =>
 ((nthD ((0 : Int), (0 : Int)) l j).fst,
 (nthD ((0 : Int), (0 : Int)) l j).snd))
 l.length) then
 normL N
 (wF
 (setF
 (mkN
 (fun (j : Nat) =>
 ((nthD ((0 : Int), (0 : Int)) l j).fst,
 (nthD ((0 : Int), (0 : Int)) l j).snd))
 l.length))
 N.toNat)
 else [])).len =
 (AV.ps
 (bif
 validF N
 (mkN
 (fun (j : Nat) =>
 ((nthD ((0 : Int), (0 : Int)) l j).fst,
 (nthD ((0 : Int), (0 : Int)) l j).snd))
 l.length) then
 normL N
 (wF
 (setF
 (mkN
 (fun (j : Nat) =>
 ((nthD ((0 : Int), (0 : Int)) l j).fst,
 (nthD ((0 : Int), (0 : Int)) l j).snd))
 l.length))
 N.toNat)
 else [])).len) ∧
 ((fndF N
 (mkN
 (fun (j : Nat) =>
 ((nthD ((0 : Int), (0 : Int)) l j).fst,
 (nthD ((0 : Int), (0 : Int)) l j).snd))
 l.length) ==
 fndF N
 (mkN
 (fun (j : Nat) =>
 ((nthD ((0 : Int), (0 : Int)) l j).fst,
 (nthD ((0 : Int), (0 : Int)) l j).snd))
 l.length) &&
 decide
 (mkN
 (nthD (0 : Int)
 (cycL N
 (mkN
 (fun (j : Nat) =>
 ((nthD ((0 : Int), (0 : Int)) l j).fst,
 (nthD ((0 : Int), (0 : Int)) l j).snd))
 l.length)))
 (AV.is
 (cycL N
 (mkN
 (fun (j : Nat) =>
 ((nthD ((0 : Int), (0 : Int)) l j).fst,
 (nthD ((0 : Int), (0 : Int)) l j).snd))
 l.length))).len =
 mkN
 (nthD (0 : Int)
 (cycL N
 (mkN
 (fun (j : Nat) =>
 ((nthD ((0 : Int), (0 : Int)) l j).fst,
 (nthD ((0 : Int), (0 : Int)) l j).snd))
 l.length)))
 (AV.is
 (cycL N
 (mkN
 (fun (j : Nat) =>
 ((nthD ((0 : Int), (0 : Int)) l j).fst,
 (nthD ((0 : Int), (0 : Int)) l j).snd))
 l.length))).len) &&
 (validF N
 (mkN
 (fun (j : Nat) =>
 ((nthD ((0 : Int), (0 : Int)) l j).fst,
 (nthD ((0 : Int), (0 : Int)) l j).snd))
 l.length) &&
 acyF N.toNat
 (wF
 (setF
 (mkN
 (fun (j : Nat) =>
 ((nthD ((0 : Int), (0 : Int)) l j).fst,
 (nthD ((0 : Int), (0 : Int)) l j).snd))
 l.length))
 N.toNat)) ==
 (validF N
 (mkN
 (fun (j : Nat) =>
 ((nthD ((0 : Int), (0 : Int)) l j).fst,
 (nthD ((0 : Int), (0 : Int)) l j).snd))
 l.length) &&
 acyF N.toNat
 (wF
 (setF
 (mkN
 (fun (j : Nat) =>
 ((nthD ((0 : Int), (0 : Int)) l j).fst,
 (nthD ((0 : Int), (0 : Int)) l j).snd))
 l.length))
 N.toNat))) =
 true →
 (mkN
 (fun (j : Nat) =>
 ((nthD ((0 : Int), (0 : Int))
 (bif
 validF N
 (mkN
 (fun (j : Nat) =>
 ((nthD ((0 : Int), (0 : Int)) l j).fst,
 (nthD ((0 : Int), (0 : Int)) l j).snd))
 l.length) then
 normL N
 (wF
 (setF
 (mkN
 (fun (j : Nat) =>
 ((nthD ((0 : Int), (0 : Int)) l j).fst,
 (nthD ((0 : Int), (0 : Int)) l j).snd))
 l.length))
 N.toNat)
 else [])
 j).fst,
 (nthD ((0 : Int), (0 : Int))
 (bif
 validF N
 (mkN
 (fun (j : Nat) =>
 ((nthD ((0 : Int), (0 : Int)) l j).fst,
 (nthD ((0 : Int), (0 : Int)) l j).snd))
 l.length) then
 normL N
 (wF
 (setF
 (mkN
 (fun (j : Nat) =>
 ((nthD ((0 : Int), (0 : Int)) l j).fst,
 (nthD ((0 : Int), (0 : Int)) l j).snd))
 l.length))
 N.toNat)
 else [])
 j).snd))
 (AV.ps
 (bif
 validF N
 (mkN
 (fun (j : Nat) =>
 ((nthD ((0 : Int), (0 : Int)) l j).fst,
 (nthD ((0 : Int), (0 : Int)) l j).snd))
 l.length) then
 normL N
 (wF
 (setF
 (mkN
 (fun (j : Nat) =>
 ((nthD ((0 : Int), (0 : Int)) l j).fst,
 (nthD ((0 : Int), (0 : Int)) l j).snd))
 l.length))
 N.toNat)
 else [])).len).length ≤
 (1099511627776 : Nat)) ∧
 ((fndF N
 (mkN
 (fun (j : Nat) =>
 ((nthD ((0 : Int), (0 : Int)) l j).fst,
 (nthD ((0 : Int), (0 : Int)) l j).snd))
 l.length) ==
 fndF N
 (mkN
 (fun (j : Nat) =>
 ((nthD ((0 : Int), (0 : Int)) l j).fst,
 (nthD ((0 : Int), (0 : Int)) l j).snd))
 l.length) &&
 decide
 (mkN
 (nthD (0 : Int)
 (cycL N
 (mkN
 (fun (j : Nat) =>
 ((nthD ((0 : Int), (0 : Int)) l j).fst,
 (nthD ((0 : Int), (0 : Int)) l j).snd))
 l.length)))
 (AV.is
 (cycL N
 (mkN
 (fun (j : Nat) =>
 ((nthD ((0 : Int), (0 : Int)) l j).fst,
 (nthD ((0 : Int), (0 : Int)) l j).snd))
 l.length))).len =
 mkN
 (nthD (0 : Int)
 (cycL N
 (mkN
 (fun (j : Nat) =>
 ((nthD ((0 : Int), (0 : Int)) l j).fst,
 (nthD ((0 : Int), (0 : Int)) l j).snd))
 l.length)))
 (AV.is
 (cycL N
 (mkN
 (fun (j : Nat) =>
 ((nthD ((0 : Int), (0 : Int)) l j).fst,
 (nthD ((0 : Int), (0 : Int)) l j).snd))
 l.length))).len) &&
 (validF N
 (mkN
 (fun (j : Nat) =>
 ((nthD ((0 : Int), (0 : Int)) l j).fst,
 (nthD ((0 : Int), (0 : Int)) l j).snd))
 l.length) &&
 acyF N.toNat
 (wF
 (setF
 (mkN
 (fun (j : Nat) =>
 ((nthD ((0 : Int), (0 : Int)) l j).fst,
 (nthD ((0 : Int), (0 : Int)) l j).snd))
 l.length))
 N.toNat)) ==
 (validF N
 (mkN
 (fun (j : Nat) =>
 ((nthD ((0 : Int), (0 : Int)) l j).fst,
 (nthD ((0 : Int), (0 : Int)) l j).snd))
 l.length) &&
 acyF N.toNat
 (wF
 (setF
 (mkN
 (fun (j : Nat) =>
 ((nthD ((0 : Int), (0 : Int)) l j).fst,
 (nthD ((0 : Int), (0 : Int)) l j).snd))
 l.length))
 N.toNat))) =
 true →
 (mkN
 (fun (j : Nat) =>
 ((nthD ((0 : Int), (0 : Int))
 (bif
 validF N
 (mkN
 (fun (j : Nat) =>
 ((nthD ((0 : Int), (0 : Int)) l j).fst,
 (nthD ((0 : Int), (0 : Int)) l j).snd))
 l.length) then
 normL N
 (wF
 (setF
 (mkN
 (fun (j : Nat) =>
 ((nthD ((0 : Int), (0 : Int)) l j).fst,
 (nthD ((0 : Int), (0 : Int)) l j).snd))
 l.length))
 N.toNat)
 else [])
 j).fst,
 (nthD ((0 : Int), (0 : Int))
 (bif
 validF N
 (mkN
 (fun (j : Nat) =>
 ((nthD ((0 : Int), (0 : Int)) l j).fst,
 (nthD ((0 : Int), (0 : Int)) l j).snd))
 l.length) then
 normL N
 (wF
 (setF
 (mkN
 (fun (j : Nat) =>
 ((nthD ((0 : Int), (0 : Int)) l j).fst,
 (nthD ((0 : Int), (0 : Int)) l j).snd))
 l.length))
 N.toNat)
 else [])
 j).snd))
 (AV.ps
 (bif
 validF N
 (mkN
 (fun (j : Nat) =>
 ((nthD ((0 : Int), (0 : Int)) l j).fst,
 (nthD ((0 : Int), (0 : Int)) l j).snd))
 l.length) then
 normL N
 (wF
 (setF
 (mkN
 (fun (j : Nat) =>
 ((nthD ((0 : Int), (0 : Int)) l j).fst,
 (nthD ((0 : Int), (0 : Int)) l j).snd))
 l.length))
 N.toNat)
 else [])).len).length ≤
 (1099511627776 : Nat)) ∧
 (fndF N
 (mkN
 (fun (j : Nat) =>
 ((nthD ((0 : Int), (0 : Int)) l j).fst,
 (nthD ((0 : Int), (0 : Int)) l j).snd))
 l.length) ==
 fndF N
 (mkN
 (fun (j : Nat) =>
 ((nthD ((0 : Int), (0 : Int)) l j).fst,
 (nthD ((0 : Int), (0 : Int)) l j).snd))
 l.length) &&
 decide
 (mkN
 (nthD (0 : Int)
 (cycL N
 (mkN
 (fun (j : Nat) =>
 ((nthD ((0 : Int), (0 : Int)) l j).fst,
 (nthD ((0 : Int), (0 : Int)) l j).snd))
 l.length)))
 (AV.is
 (cycL N
 (mkN
 (fun (j : Nat) =>
 ((nthD ((0 : Int), (0 : Int)) l j).fst,
 (nthD ((0 : Int), (0 : Int)) l j).snd))
 l.length))).len =
 mkN
 (nthD (0 : Int)
 (cycL N
 (mkN
 (fun (j : Nat) =>
 ((nthD ((0 : Int), (0 : Int)) l j).fst,
 (nthD ((0 : Int), (0 : Int)) l j).snd))
 l.length)))
 (AV.is
 (cycL N
 (mkN
 (fun (j : Nat) =>
 ((nthD ((0 : Int), (0 : Int)) l j).fst,
 (nthD ((0 : Int), (0 : Int)) l j).snd))
 l.length))).len) &&
 (validF N
 (mkN
 (fun (j : Nat) =>
 ((nthD ((0 : Int), (0 : Int)) l j).fst,
 (nthD ((0 : Int), (0 : Int)) l j).snd))
 l.length) &&
 acyF N.toNat
 (wF
 (setF
 (mkN
 (fun (j : Nat) =>
 ((nthD ((0 : Int), (0 : Int)) l j).fst,
 (nthD ((0 : Int), (0 : Int)) l j).snd))
 l.length))
 N.toNat)) ==
 (validF N
 (mkN
 (fun (j : Nat) =>
 ((nthD ((0 : Int), (0 : Int)) l j).fst,
 (nthD ((0 : Int), (0 : Int)) l j).snd))
 l.length) &&
 acyF N.toNat
 (wF
 (setF
 (mkN
 (fun (j : Nat) =>
 ((nthD ((0 : Int), (0 : Int)) l j).fst,
 (nthD ((0 : Int), (0 : Int)) l j).snd))
 l.length))
 N.toNat)) &&
 sameF
 (bif
 validF N
 (mkN
 (fun (j : Nat) =>
 ((nthD ((0 : Int), (0 : Int)) l j).fst,
 (nthD ((0 : Int), (0 : Int)) l j).snd))
 l.length) then
 N
 else (0 : Int))
 (mkN
 (fun (j : Nat) =>
 ((nthD ((0 : Int), (0 : Int))
 (bif
 validF N
 (mkN
 (fun (j : Nat) =>
 ((nthD ((0 : Int), (0 : Int)) l j).fst,
 (nthD ((0 : Int), (0 : Int)) l j).snd))
 l.length) then
 normL N
 (wF
 (setF
 (mkN
 (fun (j : Nat) =>
 ((nthD ((0 : Int), (0 : Int)) l j).fst,
 (nthD ((0 : Int), (0 : Int)) l j).snd))
 l.length))
 N.toNat)
 else [])
 j).fst,
 (nthD ((0 : Int), (0 : Int))
 (bif
 validF N
 (mkN
 (fun (j : Nat) =>
 ((nthD ((0 : Int), (0 : Int)) l j).fst,
 (nthD ((0 : Int), (0 : Int)) l j).snd))
 l.length) then
 normL N
 (wF
 (setF
 (mkN
 (fun (j : Nat) =>
 ((nthD ((0 : Int), (0 : Int)) l j).fst,
 (nthD ((0 : Int), (0 : Int)) l j).snd))
 l.length))
 N.toNat)
 else [])
 j).snd))
 (AV.ps
 (bif
 validF N
 (mkN
 (fun (j : Nat) =>
 ((nthD ((0 : Int), (0 : Int)) l j).fst,
 (nthD ((0 : Int), (0 : Int)) l j).snd))
 l.length) then
 normL N
 (wF
 (setF
 (mkN
 (fun (j : Nat) =>
 ((nthD ((0 : Int), (0 : Int)) l j).fst,
 (nthD ((0 : Int), (0 : Int)) l j).snd))
 l.length))
 N.toNat)
 else [])).len)
 (bif
 validF N
 (mkN
 (fun (j : Nat) =>
 ((nthD ((0 : Int), (0 : Int)) l j).fst,
 (nthD ((0 : Int), (0 : Int)) l j).snd))
 l.length) then
 N
 else (0 : Int))
 (mkN
 (fun (j : Nat) =>
 ((nthD ((0 : Int), (0 : Int))
 (bif
 validF N
 (mkN
 (fun (j : Nat) =>
 ((nthD ((0 : Int), (0 : Int)) l j).fst,
 (nthD ((0 : Int), (0 : Int)) l j).snd))
 l.length) then
 normL N
 (wF
 (setF
 (mkN
 (fun (j : Nat) =>
 ((nthD ((0 : Int), (0 : Int)) l j).fst,
 (nthD ((0 : Int), (0 : Int)) l j).snd))
 l.length))
 N.toNat)
 else [])
 j).fst,
 (nthD ((0 : Int), (0 : Int))
 (bif
 validF N
 (mkN
 (fun (j : Nat) =>
 ((nthD ((0 : Int), (0 : Int)) l j).fst,
 (nthD ((0 : Int), (0 : Int)) l j).snd))
 l.length) then
 normL N
 (wF
 (setF
 (mkN
 (fun (j : Nat) =>
 ((nthD ((0 : Int), (0 : Int)) l j).fst,
 (nthD ((0 : Int), (0 : Int)) l j).snd))
 l.length))
 N.toNat)
 else [])
 j).snd))
 (AV.ps
 (bif
 validF N
 (mkN
 (fun (j : Nat) =>
 ((nthD ((0 : Int), (0 : Int)) l j).fst,
 (nthD ((0 : Int), (0 : Int)) l j).snd))
 l.length) then
 normL N
 (wF
 (setF
 (mkN
 (fun (j : Nat) =>
 ((nthD ((0 : Int), (0 : Int)) l j).fst,
 (nthD ((0 : Int), (0 : Int)) l j).snd))
 l.length))
 N.toNat)
 else [])).len) &&
 true) =
 true)) := by kernel_rfl
theorem v3 (N : Int) (l : List Pq)  : fnVc (tab [kExa [], kCyc [], kCyc' [], kInt [], kAcy [], kAcy' [], kClo [], kClo' [], kSam []] []) Try.f3 [rlV N 0 l] [arP l] (plainIs .tt) := by
  rw [v3_eq]
  simp only [eq_self, true_and, and_true, implies_true, imp_self, mkN_ps, mkN_rs, mkN_self, mkN_len, PLoop.of, lCnt, AV.len]
  intro h
  have h1 := L9_300 (lt_of h)
  refine ⟨h1, h1, fun _ => cyc_len, fun _ => cyc_len, fun _ => h1, fun _ => h1, fun _ => h1, fun _ => h1, fun _ => bif_len, fun _ => bif_len, ?_⟩
  rw [sameF_refl]; simp
theorem v4_eq (N : Int) (l : List Pq) : (fnVc (tab [kExa [], kRed [], kRed' [], kSam []] []) Try.f4 [rlV N 0 l] [arP l] (plainIs .tt)) = ((decide ((↑l.length : Int) > (300 : Int)) = true → true = true) ∧
 (decide ((↑l.length : Int) > (300 : Int)) = false →
 l.length = l.length ∧
 (mkN (fun (j : Nat) => ((nthD ((0 : Int), (0 : Int)) l j).fst, (nthD ((0 : Int), (0 : Int)) l j).snd))
 l.length).length ≤
 (1099511627776 : Nat) ∧
 l.length = l.length ∧
 (mkN (fun (j : Nat) => ((nthD ((0 : Int), (0 : Int)) l j).fst, (nthD ((0 : Int), (0 : Int)) l j).snd))
 l.length).length ≤
 (1099511627776 : Nat) ∧
 ((errR N
 (mkN
 (fun (j : Nat) =>
 ((nthD ((0 : Int), (0 : Int)) l j).fst, (nthD ((0 : Int), (0 : Int)) l j).snd))
 l.length) ==
 errR N
 (mkN
 (fun (j : Nat) =>
 ((nthD ((0 : Int), (0 : Int)) l j).fst, (nthD ((0 : Int), (0 : Int)) l j).snd))
 l.length)) =
 true →
 (AV.ps
 (bif
 okR N
 (mkN
 (fun (j : Nat) =>
 ((nthD ((0 : Int), (0 : Int)) l j).fst, (nthD ((0 : Int), (0 : Int)) l j).snd))
 l.length) then
 redL N
 (mkN
 (fun (j : Nat) =>
 ((nthD ((0 : Int), (0 : Int)) l j).fst, (nthD ((0 : Int), (0 : Int)) l j).snd))
 l.length)
 else [])).len =
 (AV.ps
 (bif
 okR N
 (mkN
 (fun (j : Nat) =>
 ((nthD ((0 : Int), (0 : Int)) l j).fst, (nthD ((0 : Int), (0 : Int)) l j).snd))
 l.length) then
 redL N
 (mkN
 (fun (j : Nat) =>
 ((nthD ((0 : Int), (0 : Int)) l j).fst, (nthD ((0 : Int), (0 : Int)) l j).snd))
 l.length)
 else [])).len) ∧
 ((errR N
 (mkN
 (fun (j : Nat) =>
 ((nthD ((0 : Int), (0 : Int)) l j).fst, (nthD ((0 : Int), (0 : Int)) l j).snd))
 l.length) ==
 errR N
 (mkN
 (fun (j : Nat) =>
 ((nthD ((0 : Int), (0 : Int)) l j).fst, (nthD ((0 : Int), (0 : Int)) l j).snd))
 l.length)) =
 true →
 (AV.ps
 (bif
 okR N
 (mkN
 (fun (j : Nat) =>
 ((nthD ((0 : Int), (0 : Int)) l j).fst, (nthD ((0 : Int), (0 : Int)) l j).snd))
 l.length) then
 redL N
 (mkN
 (fun (j : Nat) =>
 ((nthD ((0 : Int), (0 : Int)) l j).fst, (nthD ((0 : Int), (0 : Int)) l j).snd))
 l.length)
 else [])).len =
 (AV.ps
 (bif
 okR N
 (mkN
 (fun (j : Nat) =>
 ((nthD ((0 : Int), (0 : Int)) l j).fst, (nthD ((0 : Int), (0 : Int)) l j).snd))
 l.length) then
 redL N
 (mkN
 (fun (j : Nat) =>
 ((nthD ((0 : Int), (0 : Int)) l j).fst, (nthD ((0 : Int), (0 : Int)) l j).snd))
 l.length)
 else [])).len) ∧
 ((errR N
 (mkN
 (fun (j : Nat) =>
 ((nthD ((0 : Int), (0 : Int)) l j).fst, (nthD ((0 : Int), (0 : Int)) l j).snd))
 l.length) ==
 errR N
 (mkN
 (fun (j : Nat) =>
 ((nthD ((0 : Int), (0 : Int)) l j).fst, (nthD ((0 : Int), (0 : Int)) l j).snd))
 l.length)) =
 true →
 (mkN
 (fun (j : Nat) =>
 ((nthD ((0 : Int), (0 : Int))
 (bif
 okR N
 (mkN
 (fun (j : Nat) =>
 ((nthD ((0 : Int), (0 : Int)) l j).fst,
 (nthD ((0 : Int), (0 : Int)) l j).snd))
 l.length) then
 redL N
 (mkN
 (fun (j : Nat) =>
 ((nthD ((0 : Int), (0 : Int)) l j).fst,
 (nthD ((0 : Int), (0 : Int)) l j).snd))
 l.length)
 else [])
 j).fst,
 (nthD ((0 : Int), (0 : Int))
 (bif
 okR N
 (mkN
 (fun (j : Nat) =>
 ((nthD ((0 : Int), (0 : Int)) l j).fst,
 (nthD ((0 : Int), (0 : Int)) l j).snd))
 l.length) then
 redL N
 (mkN
 (fun (j : Nat) =>
 ((nthD ((0 : Int), (0 : Int)) l j).fst,
 (nthD ((0 : Int), (0 : Int)) l j).snd))
 l.length)
 else [])
 j).snd))
 (AV.ps
 (bif
 okR N
 (mkN
 (fun (j : Nat) =>
 ((nthD ((0 : Int), (0 : Int)) l j).fst, (nthD ((0 : Int), (0 : Int)) l j).snd))
 l.length) then
 redL N
 (mkN
 (fun (j : Nat) =>
 ((nthD ((0 : Int), (0 : Int)) l j).fst, (nthD ((0 : Int), (0 : Int)) l j).snd))
 l.length)
 else [])).len).length ≤
 (1099511627776 : Nat)) ∧
 ((errR N
 (mkN
 (fun (j : Nat) =>
 ((nthD ((0 : Int), (0 : Int)) l j).fst, (nthD ((0 : Int), (0 : Int)) l j).snd))
 l.length) ==
 errR N
 (mkN
 (fun (j : Nat) =>
 ((nthD ((0 : Int), (0 : Int)) l j).fst, (nthD ((0 : Int), (0 : Int)) l j).snd))
 l.length)) =
 true →
 (mkN
 (fun (j : Nat) =>
 ((nthD ((0 : Int), (0 : Int))
 (bif
 okR N
 (mkN
 (fun (j : Nat) =>
 ((nthD ((0 : Int), (0 : Int)) l j).fst,
 (nthD ((0 : Int), (0 : Int)) l j).snd))
 l.length) then
 redL N
 (mkN
 (fun (j : Nat) =>
 ((nthD ((0 : Int), (0 : Int)) l j).fst,
 (nthD ((0 : Int), (0 : Int)) l j).snd))
 l.length)
 else [])
 j).fst,
 (nthD ((0 : Int), (0 : Int))
 (bif
 okR N
 (mkN
 (fun (j : Nat) =>
 ((nthD ((0 : Int), (0 : Int)) l j).fst,
 (nthD ((0 : Int), (0 : Int)) l j).snd))
 l.length) then
 redL N
 (mkN
 (fun (j : Nat) =>
 ((nthD ((0 : Int), (0 : Int)) l j).fst,
 (nthD ((0 : Int), (0 : Int)) l j).snd))
 l.length)
 else [])
 j).snd))
 (AV.ps
 (bif
 okR N
 (mkN
 (fun (j : Nat) =>
 ((nthD ((0 : Int), (0 : Int)) l j).fst,
 (nthD ((0 : Int), (0 : Int)) l j).snd))
 l.length) then
 redL N
 (mkN
 (fun (j : Nat) =>
 ((nthD ((0 : Int), (0 : Int)) l j).fst, (nthD ((0 : Int), (0 : Int)) l j).snd))
 l.length)
 else [])).len).length ≤
 (1099511627776 : Nat)) ∧
 (errR N
 (mkN
 (fun (j : Nat) =>
 ((nthD ((0 : Int), (0 : Int)) l j).fst, (nthD ((0 : Int), (0 : Int)) l j).snd))
 l.length) ==
 errR N
 (mkN
 (fun (j : Nat) =>
 ((nthD ((0 : Int), (0 : Int)) l j).fst, (nthD ((0 : Int), (0 : Int)) l j).snd))
 l.length) &&
 sameF
 (bif
 okR N
 (mkN
 (fun (j : Nat) =>
 ((nthD ((0 : Int), (0 : Int)) l j).fst, (nthD ((0 : Int), (0 : Int)) l j).snd))
 l.length) then
 N
 else (0 : Int))
 (mkN
 (fun (j : Nat) =>
 ((nthD ((0 : Int), (0 : Int))
 (bif
 okR N
 (mkN
 (fun (j : Nat) =>
 ((nthD ((0 : Int), (0 : Int)) l j).fst,
 (nthD ((0 : Int), (0 : Int)) l j).snd))
 l.length) then
 redL N
 (mkN
 (fun (j : Nat) =>
 ((nthD ((0 : Int), (0 : Int)) l j).fst,
 (nthD ((0 : Int), (0 : Int)) l j).snd))
 l.length)
 else [])
 j).fst,
 (nthD ((0 : Int), (0 : Int))
 (bif
 okR N
 (mkN
 (fun (j : Nat) =>
 ((nthD ((0 : Int), (0 : Int)) l j).fst,
 (nthD ((0 : Int), (0 : Int)) l j).snd))
 l.length) then
 redL N
 (mkN
 (fun (j : Nat) =>
 ((nthD ((0 : Int), (0 : Int)) l j).fst,
 (nthD ((0 : Int), (0 : Int)) l j).snd))
 l.length)
 else [])
 j).snd))
 (AV.ps
 (bif
 okR N
 (mkN
 (fun (j : Nat) =>
 ((nthD ((0 : Int), (0 : Int)) l j).fst,
 (nthD ((0 : Int), (0 : Int)) l j).snd))
 l.length) then
 redL N
 (mkN
 (fun (j : Nat) =>
 ((nthD ((0 : Int), (0 : Int)) l j).fst,
 (nthD ((0 : Int), (0 : Int)) l j).snd))
 l.length)
 else [])).len)
 (bif
 okR N
 (mkN
 (fun (j : Nat) =>
 ((nthD ((0 : Int), (0 : Int)) l j).fst, (nthD ((0 : Int), (0 : Int)) l j).snd))
 l.length) then
 N
 else (0 : Int))
 (mkN
 (fun (j : Nat) =>
 ((nthD ((0 : Int), (0 : Int))
 (bif
 okR N
 (mkN
 (fun (j : Nat) =>
 ((nthD ((0 : Int), (0 : Int)) l j).fst,
 (nthD ((0 : Int), (0 : Int)) l j).snd))
 l.length) then
 redL N
 (mkN
 (fun (j : Nat) =>
 ((nthD ((0 : Int), (0 : Int)) l j).fst,
 (nthD ((0 : Int), (0 : Int)) l j).snd))
 l.length)
 else [])
 j).fst,
 (nthD ((0 : Int), (0 : Int))
 (bif
 okR N
 (mkN
 (fun (j : Nat) =>
 ((nthD ((0 : Int), (0 : Int)) l j).fst,
 (nthD ((0 : Int), (0 : Int)) l j).snd))
 l.length) then
 redL N
 (mkN
 (fun (j : Nat) =>
 ((nthD ((0 : Int), (0 : Int)) l j).fst,
 (nthD ((0 : Int), (0 : Int)) l j).snd))
 l.length)
 else [])
 j).snd))
 (AV.ps
 (bif
 okR N
 (mkN
 (fun (j : Nat) =>
 ((nthD ((0 : Int), (0 : Int)) l j).fst,
 (nthD ((0 : Int), (0 : Int)) l j).snd))
 l.length) then
 redL N
 (mkN
 (fun (j : Nat) =>
 ((nthD ((0 : Int), (0 : Int)) l j).fst,
 (nthD ((0 : Int), (0 : Int)) l j).snd))
 l.length)
 else [])).len) &&
 true) =
 true)) := by kernel_rfl
theorem v4 (N : Int) (l : List Pq)  : fnVc (tab [kExa [], kRed [], kRed' [], kSam []] []) Try.f4 [rlV N 0 l] [arP l] (plainIs .tt) := by
  rw [v4_eq]
  simp only [eq_self, true_and, and_true, implies_true, imp_self, mkN_ps, mkN_rs, mkN_self, mkN_len, PLoop.of, lCnt, AV.len]
  intro h
  have h1 := L9_300 (lt_of h)
  refine ⟨h1, h1, fun _ => red_len, fun _ => red_len, ?_⟩
  rw [sameF_refl]; simp
theorem v5_eq (N : Int) (l : List Pq) (a b : Int) : (fnVc (tab [kExa [], kVal [], kVal' [], kHas [], kHas' [], kNml [], kNml' [], kSam []] []) Try.f5 [rlV N 0 l, .i .i64 a, .i .i64 b] [arP l] (plainIs .tt)) = ((decide ((↑l.length : Int) > (300 : Int)) = true → true = true) ∧
 (decide ((↑l.length : Int) > (300 : Int)) = false →
 l.length = l.length ∧
 (mkN (fun (j : Nat) => ((nthD ((0 : Int), (0 : Int)) l j).fst, (nthD ((0 : Int), (0 : Int)) l j).snd))
 l.length).length ≤
 (1099511627776 : Nat) ∧
 l.length = l.length ∧
 (mkN (fun (j : Nat) => ((nthD ((0 : Int), (0 : Int)) l j).fst, (nthD ((0 : Int), (0 : Int)) l j).snd))
 l.length).length ≤
 (1099511627776 : Nat) ∧
 ((validF N
 (mkN
 (fun (j : Nat) =>
 ((nthD ((0 : Int), (0 : Int)) l j).fst, (nthD ((0 : Int), (0 : Int)) l j).snd))
 l.length) ==
 validF N
 (mkN
 (fun (j : Nat) =>
 ((nthD ((0 : Int), (0 : Int)) l j).fst, (nthD ((0 : Int), (0 : Int)) l j).snd))
 l.length)) =
 true →
 l.length = l.length) ∧
 ((validF N
 (mkN
 (fun (j : Nat) =>
 ((nthD ((0 : Int), (0 : Int)) l j).fst, (nthD ((0 : Int), (0 : Int)) l j).snd))
 l.length) ==
 validF N
 (mkN
 (fun (j : Nat) =>
 ((nthD ((0 : Int), (0 : Int)) l j).fst, (nthD ((0 : Int), (0 : Int)) l j).snd))
 l.length)) =
 true →
 (mkN (fun (j : Nat) => ((nthD ((0 : Int), (0 : Int)) l j).fst, (nthD ((0 : Int), (0 : Int)) l j).snd))
 l.length).length ≤
 (1099511627776 : Nat)) ∧
 ((validF N
 (mkN
 (fun (j : Nat) =>
 ((nthD ((0 : Int), (0 : Int)) l j).fst, (nthD ((0 : Int), (0 : Int)) l j).snd))
 l.length) ==
 validF N
 (mkN
 (fun (j : Nat) =>
 ((nthD ((0 : Int), (0 : Int)) l j).fst, (nthD ((0 : Int), (0 : Int)) l j).snd))
 l.length)) =
 true →
 l.length = l.length) ∧
 ((validF N
 (mkN
 (fun (j : Nat) =>
 ((nthD ((0 : Int), (0 : Int)) l j).fst, (nthD ((0 : Int), (0 : Int)) l j).snd))
 l.length) ==
 validF N
 (mkN
 (fun (j : Nat) =>
 ((nthD ((0 : Int), (0 : Int)) l j).fst, (nthD ((0 : Int), (0 : Int)) l j).snd))
 l.length)) =
 true →
 (mkN
 (fun (j : Nat) =>
 ((nthD ((0 : Int), (0 : Int)) l j).fst, (nthD ((0 : Int), (0 : Int)) l j).snd))
 l.length).length ≤
 (1099511627776 : Nat)) ∧
 ((validF N
 (mkN
 (fun (j : Nat) =>
 ((nthD ((0 : Int), (0 : Int)) l j).fst, (nthD ((0 : Int), (0 : Int)) l j).snd))
 l.length) ==
 validF N
 (mkN
 (fun (j : Nat) =>
 ((nthD ((0 : Int), (0 : Int)) l j).fst, (nthD ((0 : Int), (0 : Int)) l j).snd))
 l.length) &&
 (validF N
 (mkN
 (fun (j : Nat) =>
 ((nthD ((0 : Int), (0 : Int)) l j).fst, (nthD ((0 : Int), (0 : Int)) l j).snd))
 l.length) &&
 setF
 (mkN
 (fun (j : Nat) =>
 ((nthD ((0 : Int), (0 : Int)) l j).fst, (nthD ((0 : Int), (0 : Int)) l j).snd))
 l.length)
 a b) ==
 (validF N
 (mkN
 (fun (j : Nat) =>
 ((nthD ((0 : Int), (0 : Int)) l j).fst, (nthD ((0 : Int), (0 : Int)) l j).snd))
 l.length) &&
 setF
 (mkN
 (fun (j : Nat) =>
 ((nthD ((0 : Int), (0 : Int)) l j).fst, (nthD ((0 : Int), (0 : Int)) l j).snd))
 l.length)
 a b)) =
 true →
 l.length = l.length) ∧
 ((validF N
 (mkN
 (fun (j : Nat) =>
 ((nthD ((0 : Int), (0 : Int)) l j).fst, (nthD ((0 : Int), (0 : Int)) l j).snd))
 l.length) ==
 validF N
 (mkN
 (fun (j : Nat) =>
 ((nthD ((0 : Int), (0 : Int)) l j).fst, (nthD ((0 : Int), (0 : Int)) l j).snd))
 l.length) &&
 (validF N
 (mkN
 (fun (j : Nat) =>
 ((nthD ((0 : Int), (0 : Int)) l j).fst, (nthD ((0 : Int), (0 : Int)) l j).snd))
 l.length) &&
 setF
 (mkN
 (fun (j : Nat) =>
 ((nthD ((0 : Int), (0 : Int)) l j).fst, (nthD ((0 : Int), (0 : Int)) l j).snd))
 l.length)
 a b) ==
 (validF N
 (mkN
 (fun (j : Nat) =>
 ((nthD ((0 : Int), (0 : Int)) l j).fst, (nthD ((0 : Int), (0 : Int)) l j).snd))
 l.length) &&
 setF
 (mkN
 (fun (j : Nat) =>
 ((nthD ((0 : Int), (0 : Int)) l j).fst, (nthD ((0 : Int), (0 : Int)) l j).snd))
 l.length)
 a b)) =
 true →
 (mkN
 (fun (j : Nat) =>
 ((nthD ((0 : Int), (0 : Int)) l j).fst, (nthD ((0 : Int), (0 : Int)) l j).snd))
 l.length).length ≤
 (1099511627776 : Nat)) ∧
 ((validF N
 (mkN
 (fun (j : Nat) =>
 ((nthD ((0 : Int), (0 : Int)) l j).fst, (nthD ((0 : Int), (0 : Int)) l j).snd))
 l.length) ==
 validF N
 (mkN
 (fun (j : Nat) =>
 ((nthD ((0 : Int), (0 : Int)) l j).fst, (nthD ((0 : Int), (0 : Int)) l j).snd))
 l.length) &&
 (validF N
 (mkN
 (fun (j : Nat) =>
 ((nthD ((0 : Int), (0 : Int)) l j).fst,
 (nthD ((0 : Int), (0 : Int)) l j).snd))
 l.length) &&
 setF
 (mkN
 (fun (j : Nat) =>
 ((nthD ((0 : Int), (0 : Int)) l j).fst,
 (nthD ((0 : Int), (0 : Int)) l j).snd))
 l.length)
 a b) ==
 (validF N
 (mkN
 (fun (j : Nat) =>
 ((nthD ((0 : Int), (0 : Int)) l j).fst,
 (nthD ((0 : Int), (0 : Int)) l j).snd))
 l.length) &&
 setF
 (mkN
 (fun (j : Nat) =>
 ((nthD ((0 : Int), (0 : Int)) l j).fst,
 (nthD ((0 : Int), (0 : Int)) l j).snd))
 l.length)
 a b)) =
 true →
 l.length = l.length) ∧
 ((validF N
 (mkN
 (fun (j : Nat) =>
 ((nthD ((0 : Int), (0 : Int)) l j).fst,
 (nthD ((0 : Int), (0 : Int)) l j).snd))
 l.length) ==
 validF N
 (mkN
 (fun (j : Nat) =>
 ((nthD ((0 : Int), (0 : Int)) l j).fst,
 (nthD ((0 : Int), (0 : Int)) l j).snd))
 l.length) &&
 (validF N
 (mkN
 (fun (j : Nat) =>
 ((nthD ((0 : Int), (0 : Int)) l j).fst,
 (nthD ((0 : Int), (0 : Int)) l j).snd))
 l.length) &&
 setF
 (mkN
 (fun (j : Nat) =>
 ((nthD ((0 : Int), (0 : Int)) l j).fst,
 (nthD ((0 : Int), (0 : Int)) l j).snd))
 l.length)
 a b) ==
 (validF N
 (mkN
 (fun (j : Nat) =>
 ((nthD ((0 : Int), (0 : Int)) l j).fst,
 (nthD ((0 : Int), (0 : Int)) l j).snd))
 l.length) &&
 setF
 (mkN
 (fun (j : Nat) =>
 ((nthD ((0 : Int), (0 : Int)) l j).fst,
 (nthD ((0 : Int), (0 : Int)) l j).snd))
 l.length)
 a b)) =
 true →
 (mkN
 (fun (j : Nat) =>
 ((nthD ((0 : Int), (0 : Int)) l j).fst, (nthD ((0 : Int), (0 : Int)) l j).snd))
 l.length).length ≤
 (1099511627776 : Nat)) ∧
 ((validF N
 (mkN
 (fun (j : Nat) =>
 ((nthD ((0 : Int), (0 : Int)) l j).fst,
 (nthD ((0 : Int), (0 : Int)) l j).snd))
 l.length) ==
 validF N
 (mkN
 (fun (j : Nat) =>
 ((nthD ((0 : Int), (0 : Int)) l j).fst,
 (nthD ((0 : Int), (0 : Int)) l j).snd))
 l.length) &&
 (validF N
 (mkN
 (fun (j : Nat) =>
 ((nthD ((0 : Int), (0 : Int)) l j).fst,
 (nthD ((0 : Int), (0 : Int)) l j).snd))
 l.length) &&
 setF
 (mkN
 (fun (j : Nat) =>
 ((nthD ((0 : Int), (0 : Int)) l j).fst,
 (nthD ((0 : Int), (0 : Int)) l j).snd))
 l.length)
 a b) ==
 (validF N
 (mkN
 (fun (j : Nat) =>
 ((nthD ((0 : Int), (0 : Int)) l j).fst,
 (nthD ((0 : Int), (0 : Int)) l j).snd))
 l.length) &&
 setF
 (mkN
 (fun (j : Nat) =>
 ((nthD ((0 : Int), (0 : Int)) l j).fst,
 (nthD ((0 : Int), (0 : Int)) l j).snd))
 l.length)
 a b)) =
 true →
 (AV.ps
 (bif
 validF N
 (mkN
 (fun (j : Nat) =>
 ((nthD ((0 : Int), (0 : Int)) l j).fst,
 (nthD ((0 : Int), (0 : Int)) l j).snd))
 l.length) then
 normL N
 (setF
 (mkN
 (fun (j : Nat) =>
 ((nthD ((0 : Int), (0 : Int)) l j).fst,
 (nthD ((0 : Int), (0 : Int)) l j).snd))
 l.length))
 else [])).len =
 (AV.ps
 (bif
 validF N
 (mkN
 (fun (j : Nat) =>
 ((nthD ((0 : Int), (0 : Int)) l j).fst,
 (nthD ((0 : Int), (0 : Int)) l j).snd))
 l.length) then
 normL N
 (setF
 (mkN
 (fun (j : Nat) =>
 ((nthD ((0 : Int), (0 : Int)) l j).fst,
 (nthD ((0 : Int), (0 : Int)) l j).snd))
 l.length))
 else [])).len) ∧
 ((validF N
 (mkN
 (fun (j : Nat) =>
 ((nthD ((0 : Int), (0 : Int)) l j).fst,
 (nthD ((0 : Int), (0 : Int)) l j).snd))
 l.length) ==
 validF N
 (mkN
 (fun (j : Nat) =>
 ((nthD ((0 : Int), (0 : Int)) l j).fst,
 (nthD ((0 : Int), (0 : Int)) l j).snd))
 l.length) &&
 (validF N
 (mkN
 (fun (j : Nat) =>
 ((nthD ((0 : Int), (0 : Int)) l j).fst,
 (nthD ((0 : Int), (0 : Int)) l j).snd))
 l.length) &&
 setF
 (mkN
 (fun (j : Nat) =>
 ((nthD ((0 : Int), (0 : Int)) l j).fst,
 (nthD ((0 : Int), (0 : Int)) l j).snd))
 l.length)
 a b) ==
 (validF N
 (mkN
 (fun (j : Nat) =>
 ((nthD ((0 : Int), (0 : Int)) l j).fst,
 (nthD ((0 : Int), (0 : Int)) l j).snd))
 l.length) &&
 setF
 (mkN
 (fun (j : Nat) =>
 ((nthD ((0 : Int), (0 : Int)) l j).fst,
 (nthD ((0 : Int), (0 : Int)) l j).snd))
 l.length)
 a b)) =
 true →
 (AV.ps
 (bif
 validF N
 (mkN
 (fun (j : Nat) =>
 ((nthD ((0 : Int), (0 : Int)) l j).fst,
 (nthD ((0 : Int), (0 : Int)) l j).snd))
 l.length) then
 normL N
 (setF
 (mkN
 (fun (j : Nat) =>
 ((nthD ((0 : Int), (0 : Int)) l j).fst,
 (nthD ((0 : Int), (0 : Int)) l j).snd))
 l.length))
 else [])).len =
 (AV.ps
 (bif
 validF N
 (mkN
 (fun (j : Nat) =>
 ((nthD ((0 : Int), (0 : Int)) l j).fst,
 (nthD ((0 : Int), (0 : Int)) l j).snd))
 l.length) then
 normL N
 (setF
 (mkN
 (fun (j : Nat) =>
 ((nthD ((0 : Int), (0 : Int)) l j).fst,
 (nthD ((0 : Int), (0 : Int)) l j).snd))
 l.length))
 else [])).len) ∧
 ((validF N
 (mkN
 (fun (j : Nat) =>
 ((nthD ((0 : Int), (0 : Int)) l j).fst,
 (nthD ((0 : Int), (0 : Int)) l j).snd))
 l.length) ==
 validF N
 (mkN
 (fun (j : Nat) =>
 ((nthD ((0 : Int), (0 : Int)) l j).fst,
 (nthD ((0 : Int), (0 : Int)) l j).snd))
 l.length) &&
 (validF N
 (mkN
 (fun (j : Nat) =>
 ((nthD ((0 : Int), (0 : Int)) l j).fst,
 (nthD ((0 : Int), (0 : Int)) l j).snd))
 l.length) &&
 setF
 (mkN
 (fun (j : Nat) =>
 ((nthD ((0 : Int), (0 : Int)) l j).fst,
 (nthD ((0 : Int), (0 : Int)) l j).snd))
 l.length)
 a b) ==
 (validF N
 (mkN
 (fun (j : Nat) =>
 ((nthD ((0 : Int), (0 : Int)) l j).fst,
 (nthD ((0 : Int), (0 : Int)) l j).snd))
 l.length) &&
 setF
 (mkN
 (fun (j : Nat) =>
 ((nthD ((0 : Int), (0 : Int)) l j).fst,
 (nthD ((0 : Int), (0 : Int)) l j).snd))
 l.length)
 a b)) =
 true →
 (mkN
 (fun (j : Nat) =>
 ((nthD ((0 : Int), (0 : Int))
 (bif
 validF N
 (mkN
 (fun (j : Nat) =>
 ((nthD ((0 : Int), (0 : Int)) l j).fst,
 (nthD ((0 : Int), (0 : Int)) l j).snd))
 l.length) then
 normL N
 (setF
 (mkN
 (fun (j : Nat) =>
 ((nthD ((0 : Int), (0 : Int)) l j).fst,
 (nthD ((0 : Int), (0 : Int)) l j).snd))
 l.length))
 else [])
 j).fst,
 (nthD ((0 : Int), (0 : Int))
 (bif
 validF N
 (mkN
 (fun (j : Nat) =>
 ((nthD ((0 : Int), (0 : Int)) l j).fst,
 (nthD ((0 : Int), (0 : Int)) l j).snd))
 l.length) then
 normL N
 (setF
 (mkN
 (fun (j : Nat) =>
 ((nthD ((0 : Int), (0 : Int)) l j).fst,
 (nthD ((0 : Int), (0 : Int)) l j).snd))
 l.length))
 else [])
 j).snd))
 (AV.ps
 (bif
 validF N
 (mkN
 (fun (j : Nat) =>
 ((nthD ((0 : Int), (0 : Int)) l j).fst,
 (nthD ((0 : Int), (0 : Int)) l j).snd))
 l.length) then
 normL N
 (setF
 (mkN
 (fun (j : Nat) =>
 ((nthD ((0 : Int), (0 : Int)) l j).fst,
 (nthD ((0 : Int), (0 : Int)) l j).snd))
 l.length))
 else [])).len).length ≤
 (1099511627776 : Nat)) ∧
 ((validF N
 (mkN
 (fun (j : Nat) =>
 ((nthD ((0 : Int), (0 : Int)) l j).fst,
 (nthD ((0 : Int), (0 : Int)) l j).snd))
 l.length) ==
 validF N
 (mkN
 (fun (j : Nat) =>
 ((nthD ((0 : Int), (0 : Int)) l j).fst,
 (nthD ((0 : Int), (0 : Int)) l j).snd))
 l.length) &&
 (validF N
 (mkN
 (fun (j : Nat) =>
 ((nthD ((0 : Int), (0 : Int)) l j).fst,
 (nthD ((0 : Int), (0 : Int)) l j).snd))
 l.length) &&
 setF
 (mkN
 (fun (j : Nat) =>
 ((nthD ((0 : Int), (0 : Int)) l j).fst,
 (nthD ((0 : Int), (0 : Int)) l j).snd))
 l.length)
 a b) ==
 (validF N
 (mkN
 (fun (j : Nat) =>
 ((nthD ((0 : Int), (0 : Int)) l j).fst,
 (nthD ((0 : Int), (0 : Int)) l j).snd))
 l.length) &&
 setF
 (mkN
 (fun (j : Nat) =>
 ((nthD ((0 : Int), (0 : Int)) l j).fst,
 (nthD ((0 : Int), (0 : Int)) l j).snd))
 l.length)
 a b)) =
 true →
 (mkN
 (fun (j : Nat) =>
 ((nthD ((0 : Int), (0 : Int))
 (bif
 validF N
 (mkN
 (fun (j : Nat) =>
 ((nthD ((0 : Int), (0 : Int)) l j).fst,
 (nthD ((0 : Int), (0 : Int)) l j).snd))
 l.length) then
 normL N
 (setF
 (mkN
 (fun (j : Nat) =>
 ((nthD ((0 : Int), (0 : Int)) l j).fst,
 (nthD ((0 : Int), (0 : Int)) l j).snd))
 l.length))
 else [])
 j).fst,
 (nthD ((0 : Int), (0 : Int))
 (bif
 validF N
 (mkN
 (fun (j : Nat) =>
 ((nthD ((0 : Int), (0 : Int)) l j).fst,
 (nthD ((0 : Int), (0 : Int)) l j).snd))
 l.length) then
 normL N
 (setF
 (mkN
 (fun (j : Nat) =>
 ((nthD ((0 : Int), (0 : Int)) l j).fst,
 (nthD ((0 : Int), (0 : Int)) l j).snd))
 l.length))
 else [])
 j).snd))
 (AV.ps
 (bif
 validF N
 (mkN
 (fun (j : Nat) =>
 ((nthD ((0 : Int), (0 : Int)) l j).fst,
 (nthD ((0 : Int), (0 : Int)) l j).snd))
 l.length) then
 normL N
 (setF
 (mkN
 (fun (j : Nat) =>
 ((nthD ((0 : Int), (0 : Int)) l j).fst,
 (nthD ((0 : Int), (0 : Int)) l j).snd))
 l.length))
 else [])).len).length ≤
 (1099511627776 : Nat)) ∧
 (validF N
 (mkN
 (fun (j : Nat) =>
 ((nthD ((0 : Int), (0 : Int)) l j).fst,
 (nthD ((0 : Int), (0 : Int)) l j).snd))
 l.length) ==
 validF N
 (mkN
 (fun (j : Nat) =>
 ((nthD ((0 : Int), (0 : Int)) l j).fst,
 (nthD ((0 : Int), (0 : Int)) l j).snd))
 l.length) &&
 (validF N
 (mkN
 (fun (j : Nat) =>
 ((nthD ((0 : Int), (0 : Int)) l j).fst,
 (nthD ((0 : Int), (0 : Int)) l j).snd))
 l.length) &&
 setF
 (mkN
 (fun (j : Nat) =>
 ((nthD ((0 : Int), (0 : Int)) l j).fst,
 (nthD ((0 : Int), (0 : Int)) l j).snd))
 l.length)
 a b) ==
 (validF N
 (mkN
 (fun (j : Nat) =>
 ((nthD ((0 : Int), (0 : Int)) l j).fst,
 (nthD ((0 : Int), (0 : Int)) l j).snd))
 l.length) &&
 setF
 (mkN
 (fun (j : Nat) =>
 ((nthD ((0 : Int), (0 : Int)) l j).fst,
 (nthD ((0 : Int), (0 : Int)) l j).snd))
 l.length)
 a b) &&
 sameF
 (bif
 validF N
 (mkN
 (fun (j : Nat) =>
 ((nthD ((0 : Int), (0 : Int)) l j).fst,
 (nthD ((0 : Int), (0 : Int)) l j).snd))
 l.length) then
 N
 else (0 : Int))
 (mkN
 (fun (j : Nat) =>
 ((nthD ((0 : Int), (0 : Int))
 (bif
 validF N
 (mkN
 (fun (j : Nat) =>
 ((nthD ((0 : Int), (0 : Int)) l j).fst,
 (nthD ((0 : Int), (0 : Int)) l j).snd))
 l.length) then
 normL N
 (setF
 (mkN
 (fun (j : Nat) =>
 ((nthD ((0 : Int), (0 : Int)) l j).fst,
 (nthD ((0 : Int), (0 : Int)) l j).snd))
 l.length))
 else [])
 j).fst,
 (nthD ((0 : Int), (0 : Int))
 (bif
 validF N
 (mkN
 (fun (j : Nat) =>
 ((nthD ((0 : Int), (0 : Int)) l j).fst,
 (nthD ((0 : Int), (0 : Int)) l j).snd))
 l.length) then
 normL N
 (setF
 (mkN
 (fun (j : Nat) =>
 ((nthD ((0 : Int), (0 : Int)) l j).fst,
 (nthD ((0 : Int), (0 : Int)) l j).snd))
 l.length))
 else [])
 j).snd))
 (AV.ps
 (bif
 validF N
 (mkN
 (fun (j : Nat) =>
 ((nthD ((0 : Int), (0 : Int)) l j).fst,
 (nthD ((0 : Int), (0 : Int)) l j).snd))
 l.length) then
 normL N
 (setF
 (mkN
 (fun (j : Nat) =>
 ((nthD ((0 : Int), (0 : Int)) l j).fst,
 (nthD ((0 : Int), (0 : Int)) l j).snd))
 l.length))
 else [])).len)
 (bif
 validF N
 (mkN
 (fun (j : Nat) =>
 ((nthD ((0 : Int), (0 : Int)) l j).fst,
 (nthD ((0 : Int), (0 : Int)) l j).snd))
 l.length) then
 N
 else (0 : Int))
 (mkN
 (fun (j : Nat) =>
 ((nthD ((0 : Int), (0 : Int))
 (bif
 validF N
 (mkN
 (fun (j : Nat) =>
 ((nthD ((0 : Int), (0 : Int)) l j).fst,
 (nthD ((0 : Int), (0 : Int)) l j).snd))
 l.length) then
 normL N
 (setF
 (mkN
 (fun (j : Nat) =>
 ((nthD ((0 : Int), (0 : Int)) l j).fst,
 (nthD ((0 : Int), (0 : Int)) l j).snd))
 l.length))
 else [])
 j).fst,
 (nthD ((0 : Int), (0 : Int))
 (bif
 validF N
 (mkN
 (fun (j : Nat) =>
 ((nthD ((0 : Int), (0 : Int)) l j).fst,
 (nthD ((0 : Int), (0 : Int)) l j).snd))
 l.length) then
 normL N
 (setF
 (mkN
 (fun (j : Nat) =>
 ((nthD ((0 : Int), (0 : Int)) l j).fst,
 (nthD ((0 : Int), (0 : Int)) l j).snd))
 l.length))
 else [])
 j).snd))
 (AV.ps
 (bif
 validF N
 (mkN
 (fun (j : Nat) =>
 ((nthD ((0 : Int), (0 : Int)) l j).fst,
 (nthD ((0 : Int), (0 : Int)) l j).snd))
 l.length) then
 normL N
 (setF
 (mkN
 (fun (j : Nat) =>
 ((nthD ((0 : Int), (0 : Int)) l j).fst,
 (nthD ((0 : Int), (0 : Int)) l j).snd))
 l.length))
 else [])).len) &&
 true) =
 true)) := by kernel_rfl
theorem v5 (N : Int) (l : List Pq) (a b : Int)  : fnVc (tab [kExa [], kVal [], kVal' [], kHas [], kHas' [], kNml [], kNml' [], kSam []] []) Try.f5 [rlV N 0 l, .i .i64 a, .i .i64 b] [arP l] (plainIs .tt) := by
  rw [v5_eq]
  simp only [eq_self, true_and, and_true, implies_true, imp_self, mkN_ps, mkN_rs, mkN_self, mkN_len, PLoop.of, lCnt, AV.len]
  intro h
  have h1 := L9_300 (lt_of h)
  refine ⟨h1, h1, fun _ => h1, fun _ => h1, fun _ => h1, fun _ => h1, fun _ => bif_len, fun _ => bif_len, ?_⟩
  rw [sameF_refl]; simp
theorem v9_eq (A : Int) (a : List Pq) (B : Int) (b : List Pq) (U X I : List Pq) : (fnVc (tab [kExa [], kUni [none, none, none, none, o U], kUni' [none, none, none, none, none, none, o U], kCmp [none, none, none, none, none, none, none, none, o X], kCmp' [none, none, none, none, none, none, none, none, none, none, o X], kInv [none, none, none, none, none, none, none, none, none, none, none, none, o I], kInv' [none, none, none, none, none, none, none, none, none, none, none, none, none, o I], kSam [none, none, none, none, o U, none, o U, none, o X, none, o X, none, o I, o I]] []) Try.f9 [rlV A 0 a, rlV B 1 b] [arP a, arP b] (plainIs .tt)) = (((decide ((↑a.length : Int) > (300 : Int)) || decide ((↑b.length : Int) > (300 : Int))) = true → true = true) ∧
 ((decide ((↑a.length : Int) > (300 : Int)) || decide ((↑b.length : Int) > (300 : Int))) = false →
 a.length = a.length ∧
 b.length = b.length ∧
 (mkN (fun (j : Nat) => ((nthD ((0 : Int), (0 : Int)) a j).fst, (nthD ((0 : Int), (0 : Int)) a j).snd))
 a.length).length ≤
 (1099511627776 : Nat) ∧
 (mkN (fun (j : Nat) => ((nthD ((0 : Int), (0 : Int)) b j).fst, (nthD ((0 : Int), (0 : Int)) b j).snd))
 b.length).length ≤
 (1099511627776 : Nat) ∧
 (mkN (fun (j : Nat) => ((nthD ((0 : Int), (0 : Int)) a j).fst, (nthD ((0 : Int), (0 : Int)) a j).snd))
 a.length ++
 mkN
 (fun (j : Nat) => ((nthD ((0 : Int), (0 : Int)) b j).fst, (nthD ((0 : Int), (0 : Int)) b j).snd))
 b.length).length ≤
 (1099511627776 : Nat) ∧
 (bif
 bothF A
 (mkN
 (fun (j : Nat) =>
 ((nthD ((0 : Int), (0 : Int)) a j).fst, (nthD ((0 : Int), (0 : Int)) a j).snd))
 a.length)
 B
 (mkN
 (fun (j : Nat) =>
 ((nthD ((0 : Int), (0 : Int)) b j).fst, (nthD ((0 : Int), (0 : Int)) b j).snd))
 b.length) then
 normL A
 (setF
 (mkN
 (fun (j : Nat) =>
 ((nthD ((0 : Int), (0 : Int)) a j).fst, (nthD ((0 : Int), (0 : Int)) a j).snd))
 a.length ++
 mkN
 (fun (j : Nat) =>
 ((nthD ((0 : Int), (0 : Int)) b j).fst, (nthD ((0 : Int), (0 : Int)) b j).snd))
 b.length))
 else []) =
 U ∧
 a.length = a.length ∧
 b.length = b.length ∧
 (mkN
 (fun (j : Nat) =>
 ((nthD ((0 : Int), (0 : Int)) a j).fst, (nthD ((0 : Int), (0 : Int)) a j).snd))
 a.length).length ≤
 (1099511627776 : Nat) ∧
 (mkN
 (fun (j : Nat) =>
 ((nthD ((0 : Int), (0 : Int)) b j).fst, (nthD ((0 : Int), (0 : Int)) b j).snd))
 b.length).length ≤
 (1099511627776 : Nat) ∧
 (mkN
 (fun (j : Nat) =>
 ((nthD ((0 : Int), (0 : Int)) a j).fst, (nthD ((0 : Int), (0 : Int)) a j).snd))
 a.length ++
 mkN
 (fun (j : Nat) =>
 ((nthD ((0 : Int), (0 : Int)) b j).fst, (nthD ((0 : Int), (0 : Int)) b j).snd))
 b.length).length ≤
 (1099511627776 : Nat) ∧
 (bif
 bothF A
 (mkN
 (fun (j : Nat) =>
 ((nthD ((0 : Int), (0 : Int)) a j).fst, (nthD ((0 : Int), (0 : Int)) a j).snd))
 a.length)
 B
 (mkN
 (fun (j : Nat) =>
 ((nthD ((0 : Int), (0 : Int)) b j).fst, (nthD ((0 : Int), (0 : Int)) b j).snd))
 b.length) then
 normL A
 (setF
 (mkN
 (fun (j : Nat) =>
 ((nthD ((0 : Int), (0 : Int)) a j).fst,
 (nthD ((0 : Int), (0 : Int)) a j).snd))
 a.length ++
 mkN
 (fun (j : Nat) =>
 ((nthD ((0 : Int), (0 : Int)) b j).fst,
 (nthD ((0 : Int), (0 : Int)) b j).snd))
 b.length))
 else []) =
 U ∧
 a.length = a.length ∧
 b.length = b.length ∧
 (mkN
 (fun (j : Nat) =>
 ((nthD ((0 : Int), (0 : Int)) a j).fst,
 (nthD ((0 : Int), (0 : Int)) a j).snd))
 a.length).length ≤
 (1099511627776 : Nat) ∧
 (mkN
 (fun (j : Nat) =>
 ((nthD ((0 : Int), (0 : Int)) b j).fst,
 (nthD ((0 : Int), (0 : Int)) b j).snd))
 b.length).length ≤
 (1099511627776 : Nat) ∧
 (bif
 bothF A
 (mkN
 (fun (j : Nat) =>
 ((nthD ((0 : Int), (0 : Int)) a j).fst,
 (nthD ((0 : Int), (0 : Int)) a j).snd))
 a.length)
 B
 (mkN
 (fun (j : Nat) =>
 ((nthD ((0 : Int), (0 : Int)) b j).fst,
 (nthD ((0 : Int), (0 : Int)) b j).snd))
 b.length) then
 normL A
 (cmpK
 (setF
 (mkN
 (fun (j : Nat) =>
 ((nthD ((0 : Int), (0 : Int)) a j).fst,
 (nthD ((0 : Int), (0 : Int)) a j).snd))
 a.length))
 (setF
 (mkN
 (fun (j : Nat) =>
 ((nthD ((0 : Int), (0 : Int)) b j).fst,
 (nthD ((0 : Int), (0 : Int)) b j).snd))
 b.length))
 A.toNat)
 else []) =
 X ∧
 a.length = a.length ∧
 b.length = b.length ∧
 (mkN
 (fun (j : Nat) =>
 ((nthD ((0 : Int), (0 : Int)) a j).fst,
 (nthD ((0 : Int), (0 : Int)) a j).snd))
 a.length).length ≤
 (1099511627776 : Nat) ∧
 (mkN
 (fun (j : Nat) =>
 ((nthD ((0 : Int), (0 : Int)) b j).fst,
 (nthD ((0 : Int), (0 : Int)) b j).snd))
 b.length).length ≤
 (1099511627776 : Nat) ∧
 (bif
 bothF A
 (mkN
 (fun (j : Nat) =>
 ((nthD ((0 : Int), (0 : Int)) a j).fst,
 (nthD ((0 : Int), (0 : Int)) a j).snd))
 a.length)
 B
 (mkN
 (fun (j : Nat) =>
 ((nthD ((0 : Int), (0 : Int)) b j).fst,
 (nthD ((0 : Int), (0 : Int)) b j).snd))
 b.length) then
 normL A
 (cmpK
 (setF
 (mkN
 (fun (j : Nat) =>
 ((nthD ((0 : Int), (0 : Int)) a j).fst,
 (nthD ((0 : Int), (0 : Int)) a j).snd))
 a.length))
 (setF
 (mkN
 (fun (j : Nat) =>
 ((nthD ((0 : Int), (0 : Int)) b j).fst,
 (nthD ((0 : Int), (0 : Int)) b j).snd))
 b.length))
 A.toNat)
 else []) =
 X ∧
 ((((bif
 bothF A
 (mkN
 (fun (j : Nat) =>
 ((nthD ((0 : Int), (0 : Int)) a j).fst,
 (nthD ((0 : Int), (0 : Int)) a j).snd))
 a.length)
 B
 (mkN
 (fun (j : Nat) =>
 ((nthD ((0 : Int), (0 : Int)) b j).fst,
 (nthD ((0 : Int), (0 : Int)) b j).snd))
 b.length) then
 (0 : Int)
 else (1 : Int)) ==
 bif
 bothF A
 (mkN
 (fun (j : Nat) =>
 ((nthD ((0 : Int), (0 : Int)) a j).fst,
 (nthD ((0 : Int), (0 : Int)) a j).snd))
 a.length)
 B
 (mkN
 (fun (j : Nat) =>
 ((nthD ((0 : Int), (0 : Int)) b j).fst,
 (nthD ((0 : Int), (0 : Int)) b j).snd))
 b.length) then
 (0 : Int)
 else (1 : Int)) &&
 (bif
 bothF A
 (mkN
 (fun (j : Nat) =>
 ((nthD ((0 : Int), (0 : Int)) a j).fst,
 (nthD ((0 : Int), (0 : Int)) a j).snd))
 a.length)
 B
 (mkN
 (fun (j : Nat) =>
 ((nthD ((0 : Int), (0 : Int)) b j).fst,
 (nthD ((0 : Int), (0 : Int)) b j).snd))
 b.length) then
 (0 : Int)
 else (1 : Int)) ==
 bif
 bothF A
 (mkN
 (fun (j : Nat) =>
 ((nthD ((0 : Int), (0 : Int)) a j).fst,
 (nthD ((0 : Int), (0 : Int)) a j).snd))
 a.length)
 B
 (mkN
 (fun (j : Nat) =>
 ((nthD ((0 : Int), (0 : Int)) b j).fst,
 (nthD ((0 : Int), (0 : Int)) b j).snd))
 b.length) then
 (0 : Int)
 else (1 : Int)) =
 true →
 (AV.ps U).len = (AV.ps U).len) ∧
 ((((bif
 bothF A
 (mkN
 (fun (j : Nat) =>
 ((nthD ((0 : Int), (0 : Int)) a j).fst,
 (nthD ((0 : Int), (0 : Int)) a j).snd))
 a.length)
 B
 (mkN
 (fun (j : Nat) =>
 ((nthD ((0 : Int), (0 : Int)) b j).fst,
 (nthD ((0 : Int), (0 : Int)) b j).snd))
 b.length) then
 (0 : Int)
 else (1 : Int)) ==
 bif
 bothF A
 (mkN
 (fun (j : Nat) =>
 ((nthD ((0 : Int), (0 : Int)) a j).fst,
 (nthD ((0 : Int), (0 : Int)) a j).snd))
 a.length)
 B
 (mkN
 (fun (j : Nat) =>
 ((nthD ((0 : Int), (0 : Int)) b j).fst,
 (nthD ((0 : Int), (0 : Int)) b j).snd))
 b.length) then
 (0 : Int)
 else (1 : Int)) &&
 (bif
 bothF A
 (mkN
 (fun (j : Nat) =>
 ((nthD ((0 : Int), (0 : Int)) a j).fst,
 (nthD ((0 : Int), (0 : Int)) a j).snd))
 a.length)
 B
 (mkN
 (fun (j : Nat) =>
 ((nthD ((0 : Int), (0 : Int)) b j).fst,
 (nthD ((0 : Int), (0 : Int)) b j).snd))
 b.length) then
 (0 : Int)
 else (1 : Int)) ==
 bif
 bothF A
 (mkN
 (fun (j : Nat) =>
 ((nthD ((0 : Int), (0 : Int)) a j).fst,
 (nthD ((0 : Int), (0 : Int)) a j).snd))
 a.length)
 B
 (mkN
 (fun (j : Nat) =>
 ((nthD ((0 : Int), (0 : Int)) b j).fst,
 (nthD ((0 : Int), (0 : Int)) b j).snd))
 b.length) then
 (0 : Int)
 else (1 : Int)) =
 true →
 (AV.ps U).len = (AV.ps U).len) ∧
 ((((bif
 bothF A
 (mkN
 (fun (j : Nat) =>
 ((nthD ((0 : Int), (0 : Int)) a j).fst,
 (nthD ((0 : Int), (0 : Int)) a j).snd))
 a.length)
 B
 (mkN
 (fun (j : Nat) =>
 ((nthD ((0 : Int), (0 : Int)) b j).fst,
 (nthD ((0 : Int), (0 : Int)) b j).snd))
 b.length) then
 (0 : Int)
 else (1 : Int)) ==
 bif
 bothF A
 (mkN
 (fun (j : Nat) =>
 ((nthD ((0 : Int), (0 : Int)) a j).fst,
 (nthD ((0 : Int), (0 : Int)) a j).snd))
 a.length)
 B
 (mkN
 (fun (j : Nat) =>
 ((nthD ((0 : Int), (0 : Int)) b j).fst,
 (nthD ((0 : Int), (0 : Int)) b j).snd))
 b.length) then
 (0 : Int)
 else (1 : Int)) &&
 (bif
 bothF A
 (mkN
 (fun (j : Nat) =>
 ((nthD ((0 : Int), (0 : Int)) a j).fst,
 (nthD ((0 : Int), (0 : Int)) a j).snd))
 a.length)
 B
 (mkN
 (fun (j : Nat) =>
 ((nthD ((0 : Int), (0 : Int)) b j).fst,
 (nthD ((0 : Int), (0 : Int)) b j).snd))
 b.length) then
 (0 : Int)
 else (1 : Int)) ==
 bif
 bothF A
 (mkN
 (fun (j : Nat) =>
 ((nthD ((0 : Int), (0 : Int)) a j).fst,
 (nthD ((0 : Int), (0 : Int)) a j).snd))
 a.length)
 B
 (mkN
 (fun (j : Nat) =>
 ((nthD ((0 : Int), (0 : Int)) b j).fst,
 (nthD ((0 : Int), (0 : Int)) b j).snd))
 b.length) then
 (0 : Int)
 else (1 : Int)) =
 true →
 mkN
 (fun (j : Nat) =>
 ((nthD ((0 : Int), (0 : Int)) U j).fst,
 (nthD ((0 : Int), (0 : Int)) U j).snd))
 (AV.ps U).len =
 U) ∧
 ((((bif
 bothF A
 (mkN
 (fun (j : Nat) =>
 ((nthD ((0 : Int), (0 : Int)) a j).fst,
 (nthD ((0 : Int), (0 : Int)) a j).snd))
 a.length)
 B
 (mkN
 (fun (j : Nat) =>
 ((nthD ((0 : Int), (0 : Int)) b j).fst,
 (nthD ((0 : Int), (0 : Int)) b j).snd))
 b.length) then
 (0 : Int)
 else (1 : Int)) ==
 bif
 bothF A
 (mkN
 (fun (j : Nat) =>
 ((nthD ((0 : Int), (0 : Int)) a j).fst,
 (nthD ((0 : Int), (0 : Int)) a j).snd))
 a.length)
 B
 (mkN
 (fun (j : Nat) =>
 ((nthD ((0 : Int), (0 : Int)) b j).fst,
 (nthD ((0 : Int), (0 : Int)) b j).snd))
 b.length) then
 (0 : Int)
 else (1 : Int)) &&
 (bif
 bothF A
 (mkN
 (fun (j : Nat) =>
 ((nthD ((0 : Int), (0 : Int)) a j).fst,
 (nthD ((0 : Int), (0 : Int)) a j).snd))
 a.length)
 B
 (mkN
 (fun (j : Nat) =>
 ((nthD ((0 : Int), (0 : Int)) b j).fst,
 (nthD ((0 : Int), (0 : Int)) b j).snd))
 b.length) then
 (0 : Int)
 else (1 : Int)) ==
 bif
 bothF A
 (mkN
 (fun (j : Nat) =>
 ((nthD ((0 : Int), (0 : Int)) a j).fst,
 (nthD ((0 : Int), (0 : Int)) a j).snd))
 a.length)
 B
 (mkN
 (fun (j : Nat) =>
 ((nthD ((0 : Int), (0 : Int)) b j).fst,
 (nthD ((0 : Int), (0 : Int)) b j).snd))
 b.length) then
 (0 : Int)
 else (1 : Int)) =
 true →
 mkN
 (fun (j : Nat) =>
 ((nthD ((0 : Int), (0 : Int)) U j).fst,
 (nthD ((0 : Int), (0 : Int)) U j).snd))
 (AV.ps U).len =
 U) ∧
 ((((bif
 bothF A
 (mkN
 (fun (j : Nat) =>
 ((nthD ((0 : Int), (0 : Int)) a j).fst,
 (nthD ((0 : Int), (0 : Int)) a j).snd))
 a.length)
 B
 (mkN
 (fun (j : Nat) =>
 ((nthD ((0 : Int), (0 : Int)) b j).fst,
 (nthD ((0 : Int), (0 : Int)) b j).snd))
 b.length) then
 (0 : Int)
 else (1 : Int)) ==
 bif
 bothF A
 (mkN
 (fun (j : Nat) =>
 ((nthD ((0 : Int), (0 : Int)) a j).fst,
 (nthD ((0 : Int), (0 : Int)) a j).snd))
 a.length)
 B
 (mkN
 (fun (j : Nat) =>
 ((nthD ((0 : Int), (0 : Int)) b j).fst,
 (nthD ((0 : Int), (0 : Int)) b j).snd))
 b.length) then
 (0 : Int)
 else (1 : Int)) &&
 (bif
 bothF A
 (mkN
 (fun (j : Nat) =>
 ((nthD ((0 : Int), (0 : Int)) a j).fst,
 (nthD ((0 : Int), (0 : Int)) a j).snd))
 a.length)
 B
 (mkN
 (fun (j : Nat) =>
 ((nthD ((0 : Int), (0 : Int)) b j).fst,
 (nthD ((0 : Int), (0 : Int)) b j).snd))
 b.length) then
 (0 : Int)
 else (1 : Int)) ==
 bif
 bothF A
 (mkN
 (fun (j : Nat) =>
 ((nthD ((0 : Int), (0 : Int)) a j).fst,
 (nthD ((0 : Int), (0 : Int)) a j).snd))
 a.length)
 B
 (mkN
 (fun (j : Nat) =>
 ((nthD ((0 : Int), (0 : Int)) b j).fst,
 (nthD ((0 : Int), (0 : Int)) b j).snd))
 b.length) then
 (0 : Int)
 else (1 : Int)) =
 true →
 U.length ≤ (1099511627776 : Nat)) ∧
 ((((bif
 bothF A
 (mkN
 (fun (j : Nat) =>
 ((nthD ((0 : Int), (0 : Int)) a j).fst,
 (nthD ((0 : Int), (0 : Int)) a j).snd))
 a.length)
 B
 (mkN
 (fun (j : Nat) =>
 ((nthD ((0 : Int), (0 : Int)) b j).fst,
 (nthD ((0 : Int), (0 : Int)) b j).snd))
 b.length) then
 (0 : Int)
 else (1 : Int)) ==
 bif
 bothF A
 (mkN
 (fun (j : Nat) =>
 ((nthD ((0 : Int), (0 : Int)) a j).fst,
 (nthD ((0 : Int), (0 : Int)) a j).snd))
 a.length)
 B
 (mkN
 (fun (j : Nat) =>
 ((nthD ((0 : Int), (0 : Int)) b j).fst,
 (nthD ((0 : Int), (0 : Int)) b j).snd))
 b.length) then
 (0 : Int)
 else (1 : Int)) &&
 (bif
 bothF A
 (mkN
 (fun (j : Nat) =>
 ((nthD ((0 : Int), (0 : Int)) a j).fst,
 (nthD ((0 : Int), (0 : Int)) a j).snd))
 a.length)
 B
 (mkN
 (fun (j : Nat) =>
 ((nthD ((0 : Int), (0 : Int)) b j).fst,
 (nthD ((0 : Int), (0 : Int)) b j).snd))
 b.length) then
 (0 : Int)
 else (1 : Int)) ==
 bif
 bothF A
 (mkN
 (fun (j : Nat) =>
 ((nthD ((0 : Int), (0 : Int)) a j).fst,
 (nthD ((0 : Int), (0 : Int)) a j).snd))
 a.length)
 B
 (mkN
 (fun (j : Nat) =>
 ((nthD ((0 : Int), (0 : Int)) b j).fst,
 (nthD ((0 : Int), (0 : Int)) b j).snd))
 b.length) then
 (0 : Int)
 else (1 : Int)) =
 true →
 U.length ≤ (1099511627776 : Nat)) ∧
 (((((bif
 bothF A
 (mkN
 (fun (j : Nat) =>
 ((nthD ((0 : Int), (0 : Int)) a
 j).fst,
 (nthD ((0 : Int), (0 : Int)) a
 j).snd))
 a.length)
 B
 (mkN
 (fun (j : Nat) =>
 ((nthD ((0 : Int), (0 : Int)) b
 j).fst,
 (nthD ((0 : Int), (0 : Int)) b
 j).snd))
 b.length) then
 (0 : Int)
 else (1 : Int)) ==
 bif
 bothF A
 (mkN
 (fun (j : Nat) =>
 ((nthD ((0 : Int), (0 : Int)) a
 j).fst,
 (nthD ((0 : Int), (0 : Int)) a
 j).snd))
 a.length)
 B
 (mkN
 (fun (j : Nat) =>
 ((nthD ((0 : Int), (0 : Int)) b
 j).fst,
 (nthD ((0 : Int), (0 : Int)) b
 j).snd))
 b.length) then
 (0 : Int)
 else (1 : Int)) &&
 (bif
 bothF A
 (mkN
 (fun (j : Nat) =>
 ((nthD ((0 : Int), (0 : Int)) a
 j).fst,
 (nthD ((0 : Int), (0 : Int)) a
 j).snd))
 a.length)
 B
 (mkN
 (fun (j : Nat) =>
 ((nthD ((0 : Int), (0 : Int)) b
 j).fst,
 (nthD ((0 : Int), (0 : Int)) b
 j).snd))
 b.length) then
 (0 : Int)
 else (1 : Int)) ==
 bif
 bothF A
 (mkN
 (fun (j : Nat) =>
 ((nthD ((0 : Int), (0 : Int)) a
 j).fst,
 (nthD ((0 : Int), (0 : Int)) a
 j).snd))
 a.length)
 B
 (mkN
 (fun (j : Nat) =>
 ((nthD ((0 : Int), (0 : Int)) b
 j).fst,
 (nthD ((0 : Int), (0 : Int)) b
 j).snd))
 b.length) then
 (0 : Int)
 else (1 : Int)) &&
 sameF
 (bif
 bothF A
 (mkN
 (fun (j : Nat) =>
 ((nthD ((0 : Int), (0 : Int)) a j).fst,
 (nthD ((0 : Int), (0 : Int)) a
 j).snd))
 a.length)
 B
 (mkN
 (fun (j : Nat) =>
 ((nthD ((0 : Int), (0 : Int)) b j).fst,
 (nthD ((0 : Int), (0 : Int)) b
 j).snd))
 b.length) then
 A
 else (0 : Int))
 U
 (bif
 bothF A
 (mkN
 (fun (j : Nat) =>
 ((nthD ((0 : Int), (0 : Int)) a j).fst,
 (nthD ((0 : Int), (0 : Int)) a
 j).snd))
 a.length)
 B
 (mkN
 (fun (j : Nat) =>
 ((nthD ((0 : Int), (0 : Int)) b j).fst,
 (nthD ((0 : Int), (0 : Int)) b
 j).snd))
 b.length) then
 A
 else (0 : Int))
 U) =
 true →
 (AV.ps X).len = (AV.ps X).len) ∧
 (((((bif
 bothF A
 (mkN
 (fun (j : Nat) =>
 ((nthD ((0 : Int), (0 : Int)) a
 j).fst,
 (nthD ((0 : Int), (0 : Int)) a
 j).snd))
 a.length)
 B
 (mkN
 (fun (j : Nat) =>
 ((nthD ((0 : Int), (0 : Int)) b
 j).fst,
 (nthD ((0 : Int), (0 : Int)) b
 j).snd))
 b.length) then
 (0 : Int)
 else (1 : Int)) ==
 bif
 bothF A
 (mkN
 (fun (j : Nat) =>
 ((nthD ((0 : Int), (0 : Int)) a
 j).fst,
 (nthD ((0 : Int), (0 : Int)) a
 j).snd))
 a.length)
 B
 (mkN
 (fun (j : Nat) =>
 ((nthD ((0 : Int), (0 : Int)) b
 j).fst,
 (nthD ((0 : Int), (0 : Int)) b
 j).snd))
 b.length) then
 (0 : Int)
 else (1 : Int)) &&
 (bif
 bothF A
 (mkN
 (fun (j : Nat) =>
 ((nthD ((0 : Int), (0 : Int)) a
 j).fst,
 (nthD ((0 : Int), (0 : Int)) a
 j).snd))
 a.length)
 B
 (mkN
 (fun (j : Nat) =>
 ((nthD ((0 : Int), (0 : Int)) b
 j).fst,
 (nthD ((0 : Int), (0 : Int)) b
 j).snd))
 b.length) then
 (0 : Int)
 else (1 : Int)) ==
 bif
 bothF A
 (mkN
 (fun (j : Nat) =>
 ((nthD ((0 : Int), (0 : Int)) a
 j).fst,
 (nthD ((0 : Int), (0 : Int)) a
 j).snd))
 a.length)
 B
 (mkN
 (fun (j : Nat) =>
 ((nthD ((0 : Int), (0 : Int)) b
 j).fst,
 (nthD ((0 : Int), (0 : Int)) b
 j).snd))
 b.length) then
 (0 : Int)
 else (1 : Int)) &&
 sameF
 (bif
 bothF A
 (mkN
 (fun (j : Nat) =>
 ((nthD ((0 : Int), (0 : Int)) a
 j).fst,
 (nthD ((0 : Int), (0 : Int)) a
 j).snd))
 a.length)
 B
 (mkN
 (fun (j : Nat) =>
 ((nthD ((0 : Int), (0 : Int)) b
 j).fst,
 (nthD ((0 : Int), (0 : Int)) b
 j).snd))
 b.length) then
 A
 else (0 : Int))
 U
 (bif
 bothF A
 (mkN
 (fun (j : Nat) =>
 ((nthD ((0 : Int), (0 : Int)) a
 j).fst,
 (nthD ((0 : Int), (0 : Int)) a
 j).snd))
 a.length)
 B
 (mkN
 (fun (j : Nat) =>
 ((nthD ((0 : Int), (0 : Int)) b
 j).fst,
 (nthD ((0 : Int), (0 : Int)) b
 j).snd))
 b.length) then
 A
 else (0 : Int))
 U) =
 true →
 (AV.ps X).len = (AV.ps X).len) ∧
 (((((bif
 bothF A
 (mkN
 (fun (j : Nat) =>
 ((nthD ((0 : Int), (0 : Int)) a
 j).fst,
 (nthD ((0 : Int), (0 : Int)) a
 j).snd))
 a.length)
 B
 (mkN
 (fun (j : Nat) =>
 ((nthD ((0 : Int), (0 : Int)) b
 j).fst,
 (nthD ((0 : Int), (0 : Int)) b
 j).snd))
 b.length) then
 (0 : Int)
 else (1 : Int)) ==
 bif
 bothF A
 (mkN
 (fun (j : Nat) =>
 ((nthD ((0 : Int), (0 : Int)) a
 j).fst,
 (nthD ((0 : Int), (0 : Int)) a
 j).snd))
 a.length)
 B
 (mkN
 (fun (j : Nat) =>
 ((nthD ((0 : Int), (0 : Int)) b
 j).fst,
 (nthD ((0 : Int), (0 : Int)) b
 j).snd))
 b.length) then
 (0 : Int)
 else (1 : Int)) &&
 (bif
 bothF A
 (mkN
 (fun (j : Nat) =>
 ((nthD ((0 : Int), (0 : Int)) a
 j).fst,
 (nthD ((0 : Int), (0 : Int)) a
 j).snd))
 a.length)
 B
 (mkN
 (fun (j : Nat) =>
 ((nthD ((0 : Int), (0 : Int)) b
 j).fst,
 (nthD ((0 : Int), (0 : Int)) b
 j).snd))
 b.length) then
 (0 : Int)
 else (1 : Int)) ==
 bif
 bothF A
 (mkN
 (fun (j : Nat) =>
 ((nthD ((0 : Int), (0 : Int)) a
 j).fst,
 (nthD ((0 : Int), (0 : Int)) a
 j).snd))
 a.length)
 B
 (mkN
 (fun (j : Nat) =>
 ((nthD ((0 : Int), (0 : Int)) b
 j).fst,
 (nthD ((0 : Int), (0 : Int)) b
 j).snd))
 b.length) then
 (0 : Int)
 else (1 : Int)) &&
 sameF
 (bif
 bothF A
 (mkN
 (fun (j : Nat) =>
 ((nthD ((0 : Int), (0 : Int)) a
 j).fst,
 (nthD ((0 : Int), (0 : Int)) a
 j).snd))
 a.length)
 B
 (mkN
 (fun (j : Nat) =>
 ((nthD ((0 : Int), (0 : Int)) b
 j).fst,
 (nthD ((0 : Int), (0 : Int)) b
 j).snd))
 b.length) then
 A
 else (0 : Int))
 U
 (bif
 bothF A
 (mkN
 (fun (j : Nat) =>
 ((nthD ((0 : Int), (0 : Int)) a
 j).fst,
 (nthD ((0 : Int), (0 : Int)) a
 j).snd))
 a.length)
 B
 (mkN
 (fun (j : Nat) =>
 ((nthD ((0 : Int), (0 : Int)) b
 j).fst,
 (nthD ((0 : Int), (0 : Int)) b
 j).snd))
 b.length) then
 A
 else (0 : Int))
 U) =
 true →
 mkN
 (fun (j : Nat) =>
 ((nthD ((0 : Int), (0 : Int)) X j).fst,
 (nthD ((0 : Int), (0 : Int)) X j).snd))
 (AV.ps X).len =
 X) ∧
 (((((bif
 bothF A
 (mkN
 (fun (j : Nat) =>
 ((nthD ((0 : Int), (0 : Int)) a
 j).fst,
 (nthD ((0 : Int), (0 : Int)) a
 j).snd))
 a.length)
 B
 (mkN
 (fun (j : Nat) =>
 ((nthD ((0 : Int), (0 : Int)) b
 j).fst,
 (nthD ((0 : Int), (0 : Int)) b
 j).snd))
 b.length) then
 (0 : Int)
 else (1 : Int)) ==
 bif
 bothF A
 (mkN
 (fun (j : Nat) =>
 ((nthD ((0 : Int), (0 : Int)) a
 j).fst,
 (nthD ((0 : Int), (0 : Int)) a
 j).snd))
 a.length)
 B
 (mkN
 (fun (j : Nat) =>
 ((nthD ((0 : Int), (0 : Int)) b
 j).fst,
 (nthD ((0 : Int), (0 : Int)) b
 j).snd))
 b.length) then
 (0 : Int)
 else (1 : Int)) &&
 (bif
 bothF A
 (mkN
 (fun (j : Nat) =>
 ((nthD ((0 : Int), (0 : Int)) a
 j).fst,
 (nthD ((0 : Int), (0 : Int)) a
 j).snd))
 a.length)
 B
 (mkN
 (fun (j : Nat) =>
 ((nthD ((0 : Int), (0 : Int)) b
 j).fst,
 (nthD ((0 : Int), (0 : Int)) b
 j).snd))
 b.length) then
 (0 : Int)
 else (1 : Int)) ==
 bif
 bothF A
 (mkN
 (fun (j : Nat) =>
 ((nthD ((0 : Int), (0 : Int)) a
 j).fst,
 (nthD ((0 : Int), (0 : Int)) a
 j).snd))
 a.length)
 B
 (mkN
 (fun (j : Nat) =>
 ((nthD ((0 : Int), (0 : Int)) b
 j).fst,
 (nthD ((0 : Int), (0 : Int)) b
 j).snd))
 b.length) then
 (0 : Int)
 else (1 : Int)) &&
 sameF
 (bif
 bothF A
 (mkN
 (fun (j : Nat) =>
 ((nthD ((0 : Int), (0 : Int)) a
 j).fst,
 (nthD ((0 : Int), (0 : Int)) a
 j).snd))
 a.length)
 B
 (mkN
 (fun (j : Nat) =>
 ((nthD ((0 : Int), (0 : Int)) b
 j).fst,
 (nthD ((0 : Int), (0 : Int)) b
 j).snd))
 b.length) then
 A
 else (0 : Int))
 U
 (bif
 bothF A
 (mkN
 (fun (j : Nat) =>
 ((nthD ((0 : Int), (0 : Int)) a
 j).fst,
 (nthD ((0 : Int), (0 : Int)) a
 j).snd))
 a.length)
 B
 (mkN
 (fun (j : Nat) =>
 ((nthD ((0 : Int), (0 : Int)) b
 j).fst,
 (nthD ((0 : Int), (0 : Int)) b
 j).snd))
 b.length) then
 A
 else (0 : Int))
 U) =
 true →
 mkN
 (fun (j : Nat) =>
 ((nthD ((0 : Int), (0 : Int)) X j).fst,
 (nthD ((0 : Int), (0 : Int)) X j).snd))
 (AV.ps X).len =
 X) ∧
 (((((bif
 bothF A
 (mkN
 (fun (j : Nat) =>
 ((nthD ((0 : Int), (0 : Int))
 a j).fst,
 (nthD ((0 : Int), (0 : Int))
 a j).snd))
 a.length)
 B
 (mkN
 (fun (j : Nat) =>
 ((nthD ((0 : Int), (0 : Int))
 b j).fst,
 (nthD ((0 : Int), (0 : Int))
 b j).snd))
 b.length) then
 (0 : Int)
 else (1 : Int)) ==
 bif
 bothF A
 (mkN
 (fun (j : Nat) =>
 ((nthD ((0 : Int), (0 : Int))
 a j).fst,
 (nthD ((0 : Int), (0 : Int))
 a j).snd))
 a.length)
 B
 (mkN
 (fun (j : Nat) =>
 ((nthD ((0 : Int), (0 : Int))
 b j).fst,
 (nthD ((0 : Int), (0 : Int))
 b j).snd))
 b.length) then
 (0 : Int)
 else (1 : Int)) &&
 (bif
 bothF A
 (mkN
 (fun (j : Nat) =>
 ((nthD ((0 : Int), (0 : Int))
 a j).fst,
 (nthD ((0 : Int), (0 : Int))
 a j).snd))
 a.length)
 B
 (mkN
 (fun (j : Nat) =>
 ((nthD ((0 : Int), (0 : Int))
 b j).fst,
 (nthD ((0 : Int), (0 : Int))
 b j).snd))
 b.length) then
 (0 : Int)
 else (1 : Int)) ==
 bif
 bothF A
 (mkN
 (fun (j : Nat) =>
 ((nthD ((0 : Int), (0 : Int))
 a j).fst,
 (nthD ((0 : Int), (0 : Int))
 a j).snd))
 a.length)
 B
 (mkN
 (fun (j : Nat) =>
 ((nthD ((0 : Int), (0 : Int))
 b j).fst,
 (nthD ((0 : Int), (0 : Int))
 b j).snd))
 b.length) then
 (0 : Int)
 else (1 : Int)) &&
 sameF
 (bif
 bothF A
 (mkN
 (fun (j : Nat) =>
 ((nthD ((0 : Int), (0 : Int)) a
 j).fst,
 (nthD ((0 : Int), (0 : Int)) a
 j).snd))
 a.length)
 B
 (mkN
 (fun (j : Nat) =>
 ((nthD ((0 : Int), (0 : Int)) b
 j).fst,
 (nthD ((0 : Int), (0 : Int)) b
 j).snd))
 b.length) then
 A
 else (0 : Int))
 U
 (bif
 bothF A
 (mkN
 (fun (j : Nat) =>
 ((nthD ((0 : Int), (0 : Int)) a
 j).fst,
 (nthD ((0 : Int), (0 : Int)) a
 j).snd))
 a.length)
 B
 (mkN
 (fun (j : Nat) =>
 ((nthD ((0 : Int), (0 : Int)) b
 j).fst,
 (nthD ((0 : Int), (0 : Int)) b
 j).snd))
 b.length) then
 A
 else (0 : Int))
 U) =
 true →
 X.length ≤ (1099511627776 : Nat)) ∧
 (((((bif
 bothF A
 (mkN
 (fun (j : Nat) =>
 ((nthD
 ((0 : Int), (0 : Int))
 a j).fst,
 (nthD
 ((0 : Int), (0 : Int))
 a j).snd))
 a.length)
 B
 (mkN
 (fun (j : Nat) =>
 ((nthD
 ((0 : Int), (0 : Int))
 b j).fst,
 (nthD
 ((0 : Int), (0 : Int))
 b j).snd))
 b.length) then
 (0 : Int)
 else (1 : Int)) ==
 bif
 bothF A
 (mkN
 (fun (j : Nat) =>
 ((nthD
 ((0 : Int), (0 : Int))
 a j).fst,
 (nthD
 ((0 : Int), (0 : Int))
 a j).snd))
 a.length)
 B
 (mkN
 (fun (j : Nat) =>
 ((nthD
 ((0 : Int), (0 : Int))
 b j).fst,
 (nthD
 ((0 : Int), (0 : Int))
 b j).snd))
 b.length) then
 (0 : Int)
 else (1 : Int)) &&
 (bif
 bothF A
 (mkN
 (fun (j : Nat) =>
 ((nthD
 ((0 : Int), (0 : Int))
 a j).fst,
 (nthD
 ((0 : Int), (0 : Int))
 a j).snd))
 a.length)
 B
 (mkN
 (fun (j : Nat) =>
 ((nthD
 ((0 : Int), (0 : Int))
 b j).fst,
 (nthD
 ((0 : Int), (0 : Int))
 b j).snd))
 b.length) then
 (0 : Int)
 else (1 : Int)) ==
 bif
 bothF A
 (mkN
 (fun (j : Nat) =>
 ((nthD
 ((0 : Int), (0 : Int))
 a j).fst,
 (nthD
 ((0 : Int), (0 : Int))
 a j).snd))
 a.length)
 B
 (mkN
 (fun (j : Nat) =>
 ((nthD
 ((0 : Int), (0 : Int))
 b j).fst,
 (nthD
 ((0 : Int), (0 : Int))
 b j).snd))
 b.length) then
 (0 : Int)
 else (1 : Int)) &&
 sameF
 (bif
 bothF A
 (mkN
 (fun (j : Nat) =>
 ((nthD ((0 : Int), (0 : Int))
 a j).fst,
 (nthD ((0 : Int), (0 : Int))
 a j).snd))
 a.length)
 B
 (mkN
 (fun (j : Nat) =>
 ((nthD ((0 : Int), (0 : Int))
 b j).fst,
 (nthD ((0 : Int), (0 : Int))
 b j).snd))
 b.length) then
 A
 else (0 : Int))
 U
 (bif
 bothF A
 (mkN
 (fun (j : Nat) =>
 ((nthD ((0 : Int), (0 : Int))
 a j).fst,
 (nthD ((0 : Int), (0 : Int))
 a j).snd))
 a.length)
 B
 (mkN
 (fun (j : Nat) =>
 ((nthD ((0 : Int), (0 : Int))
 b j).fst,
 (nthD ((0 : Int), (0 : Int))
 b j).snd))
 b.length) then
 A
 else (0 : Int))
 U) =
 true →
 X.length ≤ (1099511627776 : Nat)) ∧
 (((((bif
 bothF A
 (mkN
 (fun (j : Nat) =>
 ((nthD
 ((0 : Int),
 (0 : Int))
 a j).fst,
 (nthD
 ((0 : Int),
 (0 : Int))
 a j).snd))
 a.length)
 B
 (mkN
 (fun (j : Nat) =>
 ((nthD
 ((0 : Int),
 (0 : Int))
 b j).fst,
 (nthD
 ((0 : Int),
 (0 : Int))
 b j).snd))
 b.length) then
 (0 : Int)
 else (1 : Int)) ==
 bif
 bothF A
 (mkN
 (fun (j : Nat) =>
 ((nthD
 ((0 : Int),
 (0 : Int))
 a j).fst,
 (nthD
 ((0 : Int),
 (0 : Int))
 a j).snd))
 a.length)
 B
 (mkN
 (fun (j : Nat) =>
 ((nthD
 ((0 : Int),
 (0 : Int))
 b j).fst,
 (nthD
 ((0 : Int),
 (0 : Int))
 b j).snd))
 b.length) then
 (0 : Int)
 else (1 : Int)) &&
 (bif
 bothF A
 (mkN
 (fun (j : Nat) =>
 ((nthD
 ((0 : Int),
 (0 : Int))
 a j).fst,
 (nthD
 ((0 : Int),
 (0 : Int))
 a j).snd))
 a.length)
 B
 (mkN
 (fun (j : Nat) =>
 ((nthD
 ((0 : Int),
 (0 : Int))
 b j).fst,
 (nthD
 ((0 : Int),
 (0 : Int))
 b j).snd))
 b.length) then
 (0 : Int)
 else (1 : Int)) ==
 bif
 bothF A
 (mkN
 (fun (j : Nat) =>
 ((nthD
 ((0 : Int),
 (0 : Int))
 a j).fst,
 (nthD
 ((0 : Int),
 (0 : Int))
 a j).snd))
 a.length)
 B
 (mkN
 (fun (j : Nat) =>
 ((nthD
 ((0 : Int),
 (0 : Int))
 b j).fst,
 (nthD
 ((0 : Int),
 (0 : Int))
 b j).snd))
 b.length) then
 (0 : Int)
 else (1 : Int)) &&
 sameF
 (bif
 bothF A
 (mkN
 (fun (j : Nat) =>
 ((nthD
 ((0 : Int),
 (0 : Int))
 a j).fst,
 (nthD
 ((0 : Int),
 (0 : Int))
 a j).snd))
 a.length)
 B
 (mkN
 (fun (j : Nat) =>
 ((nthD
 ((0 : Int),
 (0 : Int))
 b j).fst,
 (nthD
 ((0 : Int),
 (0 : Int))
 b j).snd))
 b.length) then
 A
 else (0 : Int))
 U
 (bif
 bothF A
 (mkN
 (fun (j : Nat) =>
 ((nthD
 ((0 : Int),
 (0 : Int))
 a j).fst,
 (nthD
 ((0 : Int),
 (0 : Int))
 a j).snd))
 a.length)
 B
 (mkN
 (fun (j : Nat) =>
 ((nthD
 ((0 : Int),
 (0 : Int))
 b j).fst,
 (nthD
 ((0 : Int),
 (0 : Int))
 b j).snd))
 b.length) then
 A
 else (0 : Int))
 U &&
 sameF
 (bif
 bothF A
 (mkN
 (fun (j : Nat) =>
 ((nthD
 ((0 : Int), (0 : Int))
 a j).fst,
 (nthD
 ((0 : Int), (0 : Int))
 a j).snd))
 a.length)
 B
 (mkN
 (fun (j : Nat) =>
 ((nthD
 ((0 : Int), (0 : Int))
 b j).fst,
 (nthD
 ((0 : Int), (0 : Int))
 b j).snd))
 b.length) then
 A
 else (0 : Int))
 X
 (bif
 bothF A
 (mkN
 (fun (j : Nat) =>
 ((nthD
 ((0 : Int), (0 : Int))
 a j).fst,
 (nthD
 ((0 : Int), (0 : Int))
 a j).snd))
 a.length)
 B
 (mkN
 (fun (j : Nat) =>
 ((nthD
 ((0 : Int), (0 : Int))
 b j).fst,
 (nthD
 ((0 : Int), (0 : Int))
 b j).snd))
 b.length) then
 A
 else (0 : Int))
 X) =
 true →
 a.length = a.length) ∧
 (((((bif
 bothF A
 (mkN
 (fun (j : Nat) =>
 ((nthD
 ((0 : Int),
 (0 : Int))
 a j).fst,
 (nthD
 ((0 : Int),
 (0 : Int))
 a j).snd))
 a.length)
 B
 (mkN
 (fun (j : Nat) =>
 ((nthD
 ((0 : Int),
 (0 : Int))
 b j).fst,
 (nthD
 ((0 : Int),
 (0 : Int))
 b j).snd))
 b.length) then
 (0 : Int)
 else (1 : Int)) ==
 bif
 bothF A
 (mkN
 (fun (j : Nat) =>
 ((nthD
 ((0 : Int),
 (0 : Int))
 a j).fst,
 (nthD
 ((0 : Int),
 (0 : Int))
 a j).snd))
 a.length)
 B
 (mkN
 (fun (j : Nat) =>
 ((nthD
 ((0 : Int),
 (0 : Int))
 b j).fst,
 (nthD
 ((0 : Int),
 (0 : Int))
 b j).snd))
 b.length) then
 (0 : Int)
 else (1 : Int)) &&
 (bif
 bothF A
 (mkN
 (fun (j : Nat) =>
 ((nthD
 ((0 : Int),
 (0 : Int))
 a j).fst,
 (nthD
 ((0 : Int),
 (0 : Int))
 a j).snd))
 a.length)
 B
 (mkN
 (fun (j : Nat) =>
 ((nthD
 ((0 : Int),
 (0 : Int))
 b j).fst,
 (nthD
 ((0 : Int),
 (0 : Int))
 b j).snd))
 b.length) then
 (0 : Int)
 else (1 : Int)) ==
 bif
 bothF A
 (mkN
 (fun (j : Nat) =>
 ((nthD
 ((0 : Int),
 (0 : Int))
 a j).fst,
 (nthD
 ((0 : Int),
 (0 : Int))
 a j).snd))
 a.length)
 B
 (mkN
 (fun (j : Nat) =>
 ((nthD
 ((0 : Int),
 (0 : Int))
 b j).fst,
 (nthD
 ((0 : Int),
 (0 : Int))
 b j).snd))
 b.length) then
 (0 : Int)
 else (1 : Int)) &&
 sameF
 (bif
 bothF A
 (mkN
 (fun (j : Nat) =>
 ((nthD
 ((0 : Int),
 (0 : Int))
 a j).fst,
 (nthD
 ((0 : Int),
 (0 : Int))
 a j).snd))
 a.length)
 B
 (mkN
 (fun (j : Nat) =>
 ((nthD
 ((0 : Int),
 (0 : Int))
 b j).fst,
 (nthD
 ((0 : Int),
 (0 : Int))
 b j).snd))
 b.length) then
 A
 else (0 : Int))
 U
 (bif
 bothF A
 (mkN
 (fun (j : Nat) =>
 ((nthD
 ((0 : Int),
 (0 : Int))
 a j).fst,
 (nthD
 ((0 : Int),
 (0 : Int))
 a j).snd))
 a.length)
 B
 (mkN
 (fun (j : Nat) =>
 ((nthD
 ((0 : Int),
 (0 : Int))
 b j).fst,
 (nthD
 ((0 : Int),
 (0 : Int))
 b j).snd))
 b.length) then
 A
 else (0 : Int))
 U &&
 sameF
 (bif
 bothF A
 (mkN
 (fun (j : Nat) =>
 ((nthD
 ((0 : Int),
 (0 : Int))
 a j).fst,
 (nthD
 ((0 : Int),
 (0 : Int))
 a j).snd))
 a.length)
 B
 (mkN
 (fun (j : Nat) =>
 ((nthD
 ((0 : Int),
 (0 : Int))
 b j).fst,
 (nthD
 ((0 : Int),
 (0 : Int))
 b j).snd))
 b.length) then
 A
 else (0 : Int))
 X
 (bif
 bothF A
 (mkN
 (fun (j : Nat) =>
 ((nthD
 ((0 : Int),
 (0 : Int))
 a j).fst,
 (nthD
 ((0 : Int),
 (0 : Int))
 a j).snd))
 a.length)
 B
 (mkN
 (fun (j : Nat) =>
 ((nthD
 ((0 : Int),
 (0 : Int))
 b j).fst,
 (nthD
 ((0 : Int),
 (0 : Int))
 b j).snd))
 b.length) then
 A
 else (0 : Int))
 X) =
 true →
 (mkN
 (fun (j : Nat) =>
 ((nthD ((0 : Int), (0 : Int)) a
 j).fst,
 (nthD ((0 : Int), (0 : Int)) a
 j).snd))
 a.length).length ≤
 (1099511627776 : Nat)) ∧
 (((((bif
 bothF A
 (mkN
 (fun (j : Nat) =>
 ((nthD
 ((0 : Int),
 (0 : Int))
 a j).fst,
 (nthD
 ((0 : Int),
 (0 : Int))
 a j).snd))
 a.length)
 B
 (mkN
 (fun (j : Nat) =>
 ((nthD
 ((0 : Int),
 (0 : Int))
 b j).fst,
 (nthD
 ((0 : Int),
 (0 : Int))
 b j).snd))
 b.length) then
 (0 : Int)
 else (1 : Int)) ==
 bif
 bothF A
 (mkN
 (fun (j : Nat) =>
 ((nthD
 ((0 : Int),
 (0 : Int))
 a j).fst,
 (nthD
 ((0 : Int),
 (0 : Int))
 a j).snd))
 a.length)
 B
 (mkN
 (fun (j : Nat) =>
 ((nthD
 ((0 : Int),
 (0 : Int))
 b j).fst,
 (nthD
 ((0 : Int),
 (0 : Int))
 b j).snd))
 b.length) then
 (0 : Int)
 else (1 : Int)) &&
 (bif
 bothF A
 (mkN
 (fun (j : Nat) =>
 ((nthD
 ((0 : Int),
 (0 : Int))
 a j).fst,
 (nthD
 ((0 : Int),
 (0 : Int))
 a j).snd))
 a.length)
 B
 (mkN
 (fun (j : Nat) =>
 ((nthD
 ((0 : Int),
 (0 : Int))
 b j).fst,
 (nthD
 ((0 : Int),
 (0 : Int))
 b j).snd))
 b.length) then
 (0 : Int)
 else (1 : Int)) ==
 bif
 bothF A
 (mkN
 (fun (j : Nat) =>
 ((nthD
 ((0 : Int),
 (0 : Int))
 a j).fst,
 (nthD
 ((0 : Int),
 (0 : Int))
 a j).snd))
 a.length)
 B
 (mkN
 (fun (j : Nat) =>
 ((nthD
 ((0 : Int),
 (0 : Int))
 b j).fst,
 (nthD
 ((0 : Int),
 (0 : Int))
 b j).snd))
 b.length) then
 (0 : Int)
 else (1 : Int)) &&
 sameF
 (bif
 bothF A
 (mkN
 (fun (j : Nat) =>
 ((nthD
 ((0 : Int),
 (0 : Int))
 a j).fst,
 (nthD
 ((0 : Int),
 (0 : Int))
 a j).snd))
 a.length)
 B
 (mkN
 (fun (j : Nat) =>
 ((nthD
 ((0 : Int),
 (0 : Int))
 b j).fst,
 (nthD
 ((0 : Int),
 (0 : Int))
 b j).snd))
 b.length) then
 A
 else (0 : Int))
 U
 (bif
 bothF A
 (mkN
 (fun (j : Nat) =>
 ((nthD
 ((0 : Int),
 (0 : Int))
 a j).fst,
 (nthD
 ((0 : Int),
 (0 : Int))
 a j).snd))
 a.length)
 B
 (mkN
 (fun (j : Nat) =>
 ((nthD
 ((0 : Int),
 (0 : Int))
 b j).fst,
 (nthD
 ((0 : Int),
 (0 : Int))
 b j).snd))
 b.length) then
 A
 else (0 : Int))
 U &&
 sameF
 (bif
 bothF A
 (mkN
 (fun (j : Nat) =>
 ((nthD
 ((0 : Int),
 (0 : Int))
 a j).fst,
 (nthD
 ((0 : Int),
 (0 : Int))
 a j).snd))
 a.length)
 B
 (mkN
 (fun (j : Nat) =>
 ((nthD
 ((0 : Int),
 (0 : Int))
 b j).fst,
 (nthD
 ((0 : Int),
 (0 : Int))
 b j).snd))
 b.length) then
 A
 else (0 : Int))
 X
 (bif
 bothF A
 (mkN
 (fun (j : Nat) =>
 ((nthD
 ((0 : Int),
 (0 : Int))
 a j).fst,
 (nthD
 ((0 : Int),
 (0 : Int))
 a j).snd))
 a.length)
 B
 (mkN
 (fun (j : Nat) =>
 ((nthD
 ((0 : Int),
 (0 : Int))
 b j).fst,
 (nthD
 ((0 : Int),
 (0 : Int))
 b j).snd))
 b.length) then
 A
 else (0 : Int))
 X) =
 true →
 (bif
 validF A
 (mkN
 (fun (j : Nat) =>
 ((nthD
 ((0 : Int), (0 : Int))
 a j).fst,
 (nthD
 ((0 : Int), (0 : Int))
 a j).snd))
 a.length) then
 normL A
 (setF
 (swapL
 (mkN
 (fun (j : Nat) =>
 ((nthD
 ((0 : Int),
 (0 : Int))
 a j).fst,
 (nthD
 ((0 : Int),
 (0 : Int))
 a j).snd))
 a.length)))
 else []) =
 I) ∧
 (((((bif
 bothF A
 (mkN
 (fun (j : Nat) =>
 ((nthD
 ((0 : Int),
 (0 : Int))
 a j).fst,
 (nthD
 ((0 : Int),
 (0 : Int))
 a j).snd))
 a.length)
 B
 (mkN
 (fun (j : Nat) =>
 ((nthD
 ((0 : Int),
 (0 : Int))
 b j).fst,
 (nthD
 ((0 : Int),
 (0 : Int))
 b j).snd))
 b.length) then
 (0 : Int)
 else (1 : Int)) ==
 bif
 bothF A
 (mkN
 (fun (j : Nat) =>
 ((nthD
 ((0 : Int),
 (0 : Int))
 a j).fst,
 (nthD
 ((0 : Int),
 (0 : Int))
 a j).snd))
 a.length)
 B
 (mkN
 (fun (j : Nat) =>
 ((nthD
 ((0 : Int),
 (0 : Int))
 b j).fst,
 (nthD
 ((0 : Int),
 (0 : Int))
 b j).snd))
 b.length) then
 (0 : Int)
 else (1 : Int)) &&
 (bif
 bothF A
 (mkN
 (fun (j : Nat) =>
 ((nthD
 ((0 : Int),
 (0 : Int))
 a j).fst,
 (nthD
 ((0 : Int),
 (0 : Int))
 a j).snd))
 a.length)
 B
 (mkN
 (fun (j : Nat) =>
 ((nthD
 ((0 : Int),
 (0 : Int))
 b j).fst,
 (nthD
 ((0 : Int),
 (0 : Int))
 b j).snd))
 b.length) then
 (0 : Int)
 else (1 : Int)) ==
 bif
 bothF A
 (mkN
 (fun (j : Nat) =>
 ((nthD
 ((0 : Int),
 (0 : Int))
 a j).fst,
 (nthD
 ((0 : Int),
 (0 : Int))
 a j).snd))
 a.length)
 B
 (mkN
 (fun (j : Nat) =>
 ((nthD
 ((0 : Int),
 (0 : Int))
 b j).fst,
 (nthD
 ((0 : Int),
 (0 : Int))
 b j).snd))
 b.length) then
 (0 : Int)
 else (1 : Int)) &&
 sameF
 (bif
 bothF A
 (mkN
 (fun (j : Nat) =>
 ((nthD
 ((0 : Int),
 (0 : Int))
 a j).fst,
 (nthD
 ((0 : Int),
 (0 : Int))
 a j).snd))
 a.length)
 B
 (mkN
 (fun (j : Nat) =>
 ((nthD
 ((0 : Int),
 (0 : Int))
 b j).fst,
 (nthD
 ((0 : Int),
 (0 : Int))
 b j).snd))
 b.length) then
 A
 else (0 : Int))
 U
 (bif
 bothF A
 (mkN
 (fun (j : Nat) =>
 ((nthD
 ((0 : Int),
 (0 : Int))
 a j).fst,
 (nthD
 ((0 : Int),
 (0 : Int))
 a j).snd))
 a.length)
 B
 (mkN
 (fun (j : Nat) =>
 ((nthD
 ((0 : Int),
 (0 : Int))
 b j).fst,
 (nthD
 ((0 : Int),
 (0 : Int))
 b j).snd))
 b.length) then
 A
 else (0 : Int))
 U &&
 sameF
 (bif
 bothF A
 (mkN
 (fun (j : Nat) =>
 ((nthD
 ((0 : Int),
 (0 : Int))
 a j).fst,
 (nthD
 ((0 : Int),
 (0 : Int))
 a j).snd))
 a.length)
 B
 (mkN
 (fun (j : Nat) =>
 ((nthD
 ((0 : Int),
 (0 : Int))
 b j).fst,
 (nthD
 ((0 : Int),
 (0 : Int))
 b j).snd))
 b.length) then
 A
 else (0 : Int))
 X
 (bif
 bothF A
 (mkN
 (fun (j : Nat) =>
 ((nthD
 ((0 : Int),
 (0 : Int))
 a j).fst,
 (nthD
 ((0 : Int),
 (0 : Int))
 a j).snd))
 a.length)
 B
 (mkN
 (fun (j : Nat) =>
 ((nthD
 ((0 : Int),
 (0 : Int))
 b j).fst,
 (nthD
 ((0 : Int),
 (0 : Int))
 b j).snd))
 b.length) then
 A
 else (0 : Int))
 X) =
 true →
 a.length = a.length) ∧
 (((((bif
 bothF A
 (mkN
 (fun (j : Nat) =>
 ((nthD
 ((0 :
 Int),
 (0 :
 Int))
 a j).fst,
 (nthD
 ((0 :
 Int),
 (0 :
 Int))
 a j).snd))
 a.length)
 B
 (mkN
 (fun (j : Nat) =>
 ((nthD
 ((0 :
 Int),
 (0 :
 Int))
 b j).fst,
 (nthD
 ((0 :
 Int),
 (0 :
 Int))
 b j).snd))
 b.length) then
 (0 : Int)
 else (1 : Int)) ==
 bif
 bothF A
 (mkN
 (fun (j : Nat) =>
 ((nthD
 ((0 :
 Int),
 (0 :
 Int))
 a j).fst,
 (nthD
 ((0 :
 Int),
 (0 :
 Int))
 a j).snd))
 a.length)
 B
 (mkN
 (fun (j : Nat) =>
 ((nthD
 ((0 :
 Int),
 (0 :
 Int))
 b j).fst,
 (nthD
 ((0 :
 Int),
 (0 :
 Int))
 b j).snd))
 b.length) then
 (0 : Int)
 else (1 : Int)) &&
 (bif
 bothF A
 (mkN
 (fun (j : Nat) =>
 ((nthD
 ((0 :
 Int),
 (0 :
 Int))
 a j).fst,
 (nthD
 ((0 :
 Int),
 (0 :
 Int))
 a j).snd))
 a.length)
 B
 (mkN
 (fun (j : Nat) =>
 ((nthD
 ((0 :
 Int),
 (0 :
 Int))
 b j).fst,
 (nthD
 ((0 :
 Int),
 (0 :
 Int))
 b j).snd))
 b.length) then
 (0 : Int)
 else (1 : Int)) ==
 bif
 bothF A
 (mkN
 (fun (j : Nat) =>
 ((nthD
 ((0 :
 Int),
 (0 :
 Int))
 a j).fst,
 (nthD
 ((0 :
 Int),
 (0 :
 Int))
 a j).snd))
 a.length)
 B
 (mkN
 (fun (j : Nat) =>
 ((nthD
 ((0 :
 Int),
 (0 :
 Int))
 b j).fst,
 (nthD
 ((0 :
 Int),
 (0 :
 Int))
 b j).snd))
 b.length) then
 (0 : Int)
 else (1 : Int)) &&
 sameF
 (bif
 bothF A
 (mkN
 (fun (j : Nat) =>
 ((nthD
 ((0 : Int),
 (0 : Int))
 a j).fst,
 (nthD
 ((0 : Int),
 (0 : Int))
 a j).snd))
 a.length)
 B
 (mkN
 (fun (j : Nat) =>
 ((nthD
 ((0 : Int),
 (0 : Int))
 b j).fst,
 (nthD
 ((0 : Int),
 (0 : Int))
 b j).snd))
 b.length) then
 A
 else (0 : Int))
 U
 (bif
 bothF A
 (mkN
 (fun (j : Nat) =>
 ((nthD
 ((0 : Int),
 (0 : Int))
 a j).fst,
 (nthD
 ((0 : Int),
 (0 : Int))
 a j).snd))
 a.length)
 B
 (mkN
 (fun (j : Nat) =>
 ((nthD
 ((0 : Int),
 (0 : Int))
 b j).fst,
 (nthD
 ((0 : Int),
 (0 : Int))
 b j).snd))
 b.length) then
 A
 else (0 : Int))
 U &&
 sameF
 (bif
 bothF A
 (mkN
 (fun (j : Nat) =>
 ((nthD
 ((0 : Int),
 (0 : Int))
 a j).fst,
 (nthD
 ((0 : Int),
 (0 : Int))
 a j).snd))
 a.length)
 B
 (mkN
 (fun (j : Nat) =>
 ((nthD
 ((0 : Int),
 (0 : Int))
 b j).fst,
 (nthD
 ((0 : Int),
 (0 : Int))
 b j).snd))
 b.length) then
 A
 else (0 : Int))
 X
 (bif
 bothF A
 (mkN
 (fun (j : Nat) =>
 ((nthD
 ((0 : Int),
 (0 : Int))
 a j).fst,
 (nthD
 ((0 : Int),
 (0 : Int))
 a j).snd))
 a.length)
 B
 (mkN
 (fun (j : Nat) =>
 ((nthD
 ((0 : Int),
 (0 : Int))
 b j).fst,
 (nthD
 ((0 : Int),
 (0 : Int))
 b j).snd))
 b.length) then
 A
 else (0 : Int))
 X) =
 true →
 (mkN
 (fun (j : Nat) =>
 ((nthD
 ((0 : Int), (0 : Int))
 a j).fst,
 (nthD
 ((0 : Int), (0 : Int))
 a j).snd))
 a.length).length ≤
 (1099511627776 : Nat)) ∧
 (((((bif
 bothF A
 (mkN
 (fun
 (j : Nat) =>
 ((nthD
 ((0 :
 Int),
 (0 :
 Int))
 a
 j).fst,
 (nthD
 ((0 :
 Int),
 (0 :
 Int))
 a
 j).snd))
 a.length)
 B
 (mkN
 (fun
 (j : Nat) =>
 ((nthD
 ((0 :
 Int),
 (0 :
 Int))
 b
 j).fst,
 (nthD
 ((0 :
 Int),
 (0 :
 Int))
 b
 j).snd))
 b.length) then
 (0 : Int)
 else (1 : Int)) ==
 bif
 bothF A
 (mkN
 (fun
 (j : Nat) =>
 ((nthD
 ((0 :
 Int),
 (0 :
 Int))
 a
 j).fst,
 (nthD
 ((0 :
 Int),
 (0 :
 Int))
 a
 j).snd))
 a.length)
 B
 (mkN
 (fun
 (j : Nat) =>
 ((nthD
 ((0 :
 Int),
 (0 :
 Int))
 b
 j).fst,
 (nthD
 ((0 :
 Int),
 (0 :
 Int))
 b
 j).snd))
 b.length) then
 (0 : Int)
 else (1 : Int)) &&
 (bif
 bothF A
 (mkN
 (fun
 (j : Nat) =>
 ((nthD
 ((0 :
 Int),
 (0 :
 Int))
 a
 j).fst,
 (nthD
 ((0 :
 Int),
 (0 :
 Int))
 a
 j).snd))
 a.length)
 B
 (mkN
 (fun
 (j : Nat) =>
 ((nthD
 ((0 :
 Int),
 (0 :
 Int))
 b
 j).fst,
 (nthD
 ((0 :
 Int),
 (0 :
 Int))
 b
 j).snd))
 b.length) then
 (0 : Int)
 else (1 : Int)) ==
 bif
 bothF A
 (mkN
 (fun
 (j : Nat) =>
 ((nthD
 ((0 :
 Int),
 (0 :
 Int))
 a
 j).fst,
 (nthD
 ((0 :
 Int),
 (0 :
 Int))
 a
 j).snd))
 a.length)
 B
 (mkN
 (fun
 (j : Nat) =>
 ((nthD
 ((0 :
 Int),
 (0 :
 Int))
 b
 j).fst,
 (nthD
 ((0 :
 Int),
 (0 :
 Int))
 b
 j).snd))
 b.length) then
 (0 : Int)
 else (1 : Int)) &&
 sameF
 (bif
 bothF A
 (mkN
 (fun (j : Nat) =>
 ((nthD
 ((0 :
 Int),
 (0 :
 Int))
 a j).fst,
 (nthD
 ((0 :
 Int),
 (0 :
 Int))
 a j).snd))
 a.length)
 B
 (mkN
 (fun (j : Nat) =>
 ((nthD
 ((0 :
 Int),
 (0 :
 Int))
 b j).fst,
 (nthD
 ((0 :
 Int),
 (0 :
 Int))
 b j).snd))
 b.length) then
 A
 else (0 : Int))
 U
 (bif
 bothF A
 (mkN
 (fun (j : Nat) =>
 ((nthD
 ((0 :
 Int),
 (0 :
 Int))
 a j).fst,
 (nthD
 ((0 :
 Int),
 (0 :
 Int))
 a j).snd))
 a.length)
 B
 (mkN
 (fun (j : Nat) =>
 ((nthD
 ((0 :
 Int),
 (0 :
 Int))
 b j).fst,
 (nthD
 ((0 :
 Int),
 (0 :
 Int))
 b j).snd))
 b.length) then
 A
 else (0 : Int))
 U &&
 sameF
 (bif
 bothF A
 (mkN
 (fun (j : Nat) =>
 ((nthD
 ((0 : Int),
 (0 : Int))
 a j).fst,
 (nthD
 ((0 : Int),
 (0 : Int))
 a j).snd))
 a.length)
 B
 (mkN
 (fun (j : Nat) =>
 ((nthD
 ((0 : Int),
 (0 : Int))
 b j).fst,
 (nthD
 ((0 : Int),
 (0 : Int))
 b j).snd))
 b.length) then
 A
 else (0 : Int))
 X
 (bif
 bothF A
 (mkN
 (fun (j : Nat) =>
 ((nthD
 ((0 : Int),
 (0 : Int))
 a j).fst,
 (nthD
 ((0 : Int),
 (0 : Int))
 a j).snd))
 a.length)
 B
 (mkN
 (fun (j : Nat) =>
 ((nthD
 ((0 : Int),
 (0 : Int))
 b j).fst,
 (nthD
 ((0 : Int),
 (0 : Int))
 b j).snd))
 b.length) then
 A
 else (0 : Int))
 X) =
 true →
 (bif
 validF A
 (mkN
 (fun (j : Nat) =>
 ((nthD
 ((0 : Int),
 (0 : Int))
 a j).fst,
 (nthD
 ((0 : Int),
 (0 : Int))
 a j).snd))
 a.length) then
 normL A
 (setF
 (swapL
 (mkN
 (fun (j : Nat) =>
 ((nthD
 ((0 : Int),
 (0 : Int))
 a j).fst,
 (nthD
 ((0 : Int),
 (0 : Int))
 a j).snd))
 a.length)))
 else []) =
 I) ∧
 (((((bif
 bothF A
 (mkN
 (fun
 (j :
 Nat) =>
 ((nthD
 ((0 :
 Int),
 (0 :
 Int))
 a
 j).fst,
 (nthD
 ((0 :
 Int),
 (0 :
 Int))
 a
 j).snd))
 a.length)
 B
 (mkN
 (fun
 (j :
 Nat) =>
 ((nthD
 ((0 :
 Int),
 (0 :
 Int))
 b
 j).fst,
 (nthD
 ((0 :
 Int),
 (0 :
 Int))
 b
 j).snd))
 b.length) then
 (0 : Int)
 else (1 : Int)) ==
 bif
 bothF A
 (mkN
 (fun
 (j :
 Nat) =>
 ((nthD
 ((0 :
 Int),
 (0 :
 Int))
 a
 j).fst,
 (nthD
 ((0 :
 Int),
 (0 :
 Int))
 a
 j).snd))
 a.length)
 B
 (mkN
 (fun
 (j :
 Nat) =>
 ((nthD
 ((0 :
 Int),
 (0 :
 Int))
 b
 j).fst,
 (nthD
 ((0 :
 Int),
 (0 :
 Int))
 b
 j).snd))
 b.length) then
 (0 : Int)
 else (1 : Int)) &&
 (bif
 bothF A
 (mkN
 (fun
 (j :
 Nat) =>
 ((nthD
 ((0 :
 Int),
 (0 :
 Int))
 a
 j).fst,
 (nthD
 ((0 :
 Int),
 (0 :
 Int))
 a
 j).snd))
 a.length)
 B
 (mkN
 (fun
 (j :
 Nat) =>
 ((nthD
 ((0 :
 Int),
 (0 :
 Int))
 b
 j).fst,
 (nthD
 ((0 :
 Int),
 (0 :
 Int))
 b
 j).snd))
 b.length) then
 (0 : Int)
 else (1 : Int)) ==
 bif
 bothF A
 (mkN
 (fun
 (j :
 Nat) =>
 ((nthD
 ((0 :
 Int),
 (0 :
 Int))
 a
 j).fst,
 (nthD
 ((0 :
 Int),
 (0 :
 Int))
 a
 j).snd))
 a.length)
 B
 (mkN
 (fun
 (j :
 Nat) =>
 ((nthD
 ((0 :
 Int),
 (0 :
 Int))
 b
 j).fst,
 (nthD
 ((0 :
 Int),
 (0 :
 Int))
 b
 j).snd))
 b.length) then
 (0 : Int)
 else (1 : Int)) &&
 sameF
 (bif
 bothF A
 (mkN
 (fun
 (j : Nat) =>
 ((nthD
 ((0 :
 Int),
 (0 :
 Int))
 a
 j).fst,
 (nthD
 ((0 :
 Int),
 (0 :
 Int))
 a
 j).snd))
 a.length)
 B
 (mkN
 (fun
 (j : Nat) =>
 ((nthD
 ((0 :
 Int),
 (0 :
 Int))
 b
 j).fst,
 (nthD
 ((0 :
 Int),
 (0 :
 Int))
 b
 j).snd))
 b.length) then
 A
 else (0 : Int))
 U
 (bif
 bothF A
 (mkN
 (fun
 (j : Nat) =>
 ((nthD
 ((0 :
 Int),
 (0 :
 Int))
 a
 j).fst,
 (nthD
 ((0 :
 Int),
 (0 :
 Int))
 a
 j).snd))
 a.length)
 B
 (mkN
 (fun
 (j : Nat) =>
 ((nthD
 ((0 :
 Int),
 (0 :
 Int))
 b
 j).fst,
 (nthD
 ((0 :
 Int),
 (0 :
 Int))
 b
 j).snd))
 b.length) then
 A
 else (0 : Int))
 U &&
 sameF
 (bif
 bothF A
 (mkN
 (fun (j : Nat) =>
 ((nthD
 ((0 :
 Int),
 (0 :
 Int))
 a j).fst,
 (nthD
 ((0 :
 Int),
 (0 :
 Int))
 a j).snd))
 a.length)
 B
 (mkN
 (fun (j : Nat) =>
 ((nthD
 ((0 :
 Int),
 (0 :
 Int))
 b j).fst,
 (nthD
 ((0 :
 Int),
 (0 :
 Int))
 b j).snd))
 b.length) then
 A
 else (0 : Int))
 X
 (bif
 bothF A
 (mkN
 (fun (j : Nat) =>
 ((nthD
 ((0 :
 Int),
 (0 :
 Int))
 a j).fst,
 (nthD
 ((0 :
 Int),
 (0 :
 Int))
 a j).snd))
 a.length)
 B
 (mkN
 (fun (j : Nat) =>
 ((nthD
 ((0 :
 Int),
 (0 :
 Int))
 b j).fst,
 (nthD
 ((0 :
 Int),
 (0 :
 Int))
 b j).snd))
 b.length) then
 A
 else (0 : Int))
 X) =
 true →
 (AV.ps I).len = (AV.ps I).len) ∧
 (((((bif
 bothF A
 (mkN
 (fun
 (j :
 Nat) =>
 ((nthD
 ((0 :
 Int),
 (0 :
 Int))
 a
 j).fst,
 (nthD
 ((0 :
 Int),
 (0 :
 Int))
 a
 j).snd))
 a.length)
 B
 (mkN
 (fun
 (j :
 Nat) =>
 ((nthD
 ((0 :
 Int),
 (0 :
 Int))
 b
 j).fst,
 (nthD
 ((0 :
 Int),
 (0 :
 Int))
 b
 j).snd))
 b.length) then
 (0 : Int)
 else (1 : Int)) ==
 bif
 bothF A
 (mkN
 (fun
 (j :
 Nat) =>
 ((nthD
 ((0 :
 Int),
 (0 :
 Int))
 a
 j).fst,
 (nthD
 ((0 :
 Int),
 (0 :
 Int))
 a
 j).snd))
 a.length)
 B
 (mkN
 (fun
 (j :
 Nat) =>
 ((nthD
 ((0 :
 Int),
 (0 :
 Int))
 b
 j).fst,
 (nthD
 ((0 :
 Int),
 (0 :
 Int))
 b
 j).snd))
 b.length) then
 (0 : Int)
 else (1 : Int)) &&
 (bif
 bothF A
 (mkN
 (fun
 (j :
 Nat) =>
 ((nthD
 ((0 :
 Int),
 (0 :
 Int))
 a
 j).fst,
 (nthD
 ((0 :
 Int),
 (0 :
 Int))
 a
 j).snd))
 a.length)
 B
 (mkN
 (fun
 (j :
 Nat) =>
 ((nthD
 ((0 :
 Int),
 (0 :
 Int))
 b
 j).fst,
 (nthD
 ((0 :
 Int),
 (0 :
 Int))
 b
 j).snd))
 b.length) then
 (0 : Int)
 else (1 : Int)) ==
 bif
 bothF A
 (mkN
 (fun
 (j :
 Nat) =>
 ((nthD
 ((0 :
 Int),
 (0 :
 Int))
 a
 j).fst,
 (nthD
 ((0 :
 Int),
 (0 :
 Int))
 a
 j).snd))
 a.length)
 B
 (mkN
 (fun
 (j :
 Nat) =>
 ((nthD
 ((0 :
 Int),
 (0 :
 Int))
 b
 j).fst,
 (nthD
 ((0 :
 Int),
 (0 :
 Int))
 b
 j).snd))
 b.length) then
 (0 : Int)
 else (1 : Int)) &&
 sameF
 (bif
 bothF A
 (mkN
 (fun
 (j :
 Nat) =>
 ((nthD
 ((0 :
 Int),
 (0 :
 Int))
 a
 j).fst,
 (nthD
 ((0 :
 Int),
 (0 :
 Int))
 a
 j).snd))
 a.length)
 B
 (mkN
 (fun
 (j :
 Nat) =>
 ((nthD
 ((0 :
 Int),
 (0 :
 Int))
 b
 j).fst,
 (nthD
 ((0 :
 Int),
 (0 :
 Int))
 b
 j).snd))
 b.length) then
 A
 else (0 : Int))
 U
 (bif
 bothF A
 (mkN
 (fun
 (j :
 Nat) =>
 ((nthD
 ((0 :
 Int),
 (0 :
 Int))
 a
 j).fst,
 (nthD
 ((0 :
 Int),
 (0 :
 Int))
 a
 j).snd))
 a.length)
 B
 (mkN
 (fun
 (j :
 Nat) =>
 ((nthD
 ((0 :
 Int),
 (0 :
 Int))
 b
 j).fst,
 (nthD
 ((0 :
 Int),
 (0 :
 Int))
 b
 j).snd))
 b.length) then
 A
 else (0 : Int))
 U &&
 sameF
 (bif
 bothF A
 (mkN
 (fun
 (j : Nat) =>
 ((nthD
 ((0 :
 Int),
 (0 :
 Int))
 a
 j).fst,
 (nthD
 ((0 :
 Int),
 (0 :
 Int))
 a
 j).snd))
 a.length)
 B
 (mkN
 (fun
 (j : Nat) =>
 ((nthD
 ((0 :
 Int),
 (0 :
 Int))
 b
 j).fst,
 (nthD
 ((0 :
 Int),
 (0 :
 Int))
 b
 j).snd))
 b.length) then
 A
 else (0 : Int))
 X
 (bif
 bothF A
 (mkN
 (fun
 (j : Nat) =>
 ((nthD
 ((0 :
 Int),
 (0 :
 Int))
 a
 j).fst,
 (nthD
 ((0 :
 Int),
 (0 :
 Int))
 a
 j).snd))
 a.length)
 B
 (mkN
 (fun
 (j : Nat) =>
 ((nthD
 ((0 :
 Int),
 (0 :
 Int))
 b
 j).fst,
 (nthD
 ((0 :
 Int),
 (0 :
 Int))
 b
 j).snd))
 b.length) then
 A
 else (0 : Int))
 X) =
 true →
 (AV.ps I).len =
 (AV.ps I).len) ∧
 (((((bif
 bothF A
 (mkN
 (fun
 (j :
 Nat) =>
 ((nthD
 ((0 :
 Int),
 (0 :
 Int))
 a
 j).fst,
 (nthD
 ((0 :
 Int),
 (0 :
 Int))
 a
 j).snd))
 a.length)
 B
 (mkN
 (fun
 (j :
 Nat) =>
 ((nthD
 ((0 :
 Int),
 (0 :
 Int))
 b
 j).fst,
 (nthD
 ((0 :
 Int),
 (0 :
 Int))
 b
 j).snd))
 b.length) then
 (0 : Int)
 else (1 : Int)) ==
 bif
 bothF A
 (mkN
 (fun
 (j :
 Nat) =>
 ((nthD
 ((0 :
 Int),
 (0 :
 Int))
 a
 j).fst,
 (nthD
 ((0 :
 Int),
 (0 :
 Int))
 a
 j).snd))
 a.length)
 B
 (mkN
 (fun
 (j :
 Nat) =>
 ((nthD
 ((0 :
 Int),
 (0 :
 Int))
 b
 j).fst,
 (nthD
 ((0 :
 Int),
 (0 :
 Int))
 b
 j).snd))
 b.length) then
 (0 : Int)
 else (1 : Int)) &&
 (bif
 bothF A
 (mkN
 (fun
 (j :
 Nat) =>
 ((nthD
 ((0 :
 Int),
 (0 :
 Int))
 a
 j).fst,
 (nthD
 ((0 :
 Int),
 (0 :
 Int))
 a
 j).snd))
 a.length)
 B
 (mkN
 (fun
 (j :
 Nat) =>
 ((nthD
 ((0 :
 Int),
 (0 :
 Int))
 b
 j).fst,
 (nthD
 ((0 :
 Int),
 (0 :
 Int))
 b
 j).snd))
 b.length) then
 (0 : Int)
 else (1 : Int)) ==
 bif
 bothF A
 (mkN
 (fun
 (j :
 Nat) =>
 ((nthD
 ((0 :
 Int),
 (0 :
 Int))
 a
 j).fst,
 (nthD
 ((0 :
 Int),
 (0 :
 Int))
 a
 j).snd))
 a.length)
 B
 (mkN
 (fun
 (j :
 Nat) =>
 ((nthD
 ((0 :
 Int),
 (0 :
 Int))
 b
 j).fst,
 (nthD
 ((0 :
 Int),
 (0 :
 Int))
 b
 j).snd))
 b.length) then
 (0 : Int)
 else (1 : Int)) &&
 sameF
 (bif
 bothF A
 (mkN
 (fun
 (j :
 Nat) =>
 ((nthD
 ((0 :
 Int),
 (0 :
 Int))
 a
 j).fst,
 (nthD
 ((0 :
 Int),
 (0 :
 Int))
 a
 j).snd))
 a.length)
 B
 (mkN
 (fun
 (j :
 Nat) =>
 ((nthD
 ((0 :
 Int),
 (0 :
 Int))
 b
 j).fst,
 (nthD
 ((0 :
 Int),
 (0 :
 Int))
 b
 j).snd))
 b.length) then
 A
 else (0 : Int))
 U
 (bif
 bothF A
 (mkN
 (fun
 (j :
 Nat) =>
 ((nthD
 ((0 :
 Int),
 (0 :
 Int))
 a
 j).fst,
 (nthD
 ((0 :
 Int),
 (0 :
 Int))
 a
 j).snd))
 a.length)
 B
 (mkN
 (fun
 (j :
 Nat) =>
 ((nthD
 ((0 :
 Int),
 (0 :
 Int))
 b
 j).fst,
 (nthD
 ((0 :
 Int),
 (0 :
 Int))
 b
 j).snd))
 b.length) then
 A
 else (0 : Int))
 U &&
 sameF
 (bif
 bothF A
 (mkN
 (fun
 (j :
 Nat) =>
 ((nthD
 ((0 :
 Int),
 (0 :
 Int))
 a
 j).fst,
 (nthD
 ((0 :
 Int),
 (0 :
 Int))
 a
 j).snd))
 a.length)
 B
 (mkN
 (fun
 (j :
 Nat) =>
 ((nthD
 ((0 :
 Int),
 (0 :
 Int))
 b
 j).fst,
 (nthD
 ((0 :
 Int),
 (0 :
 Int))
 b
 j).snd))
 b.length) then
 A
 else (0 : Int))
 X
 (bif
 bothF A
 (mkN
 (fun
 (j :
 Nat) =>
 ((nthD
 ((0 :
 Int),
 (0 :
 Int))
 a
 j).fst,
 (nthD
 ((0 :
 Int),
 (0 :
 Int))
 a
 j).snd))
 a.length)
 B
 (mkN
 (fun
 (j :
 Nat) =>
 ((nthD
 ((0 :
 Int),
 (0 :
 Int))
 b
 j).fst,
 (nthD
 ((0 :
 Int),
 (0 :
 Int))
 b
 j).snd))
 b.length) then
 A
 else (0 : Int))
 X) =
 true →
 mkN
 (fun (j : Nat) =>
 ((nthD
 ((0 : Int),
 (0 : Int))
 I j).fst,
 (nthD
 ((0 : Int),
 (0 : Int))
 I j).snd))
 (AV.ps I).len =
 I) ∧
 (((((bif
 bothF A
 (mkN
 (fun
 (j :
 Nat) =>
 ((nthD
 ((0 :
 Int),
 (0 :
 Int))
 a
 j).fst,
 (nthD
 ((0 :
 Int),
 (0 :
 Int))
 a
 j).snd))
 a.length)
 B
 (mkN
 (fun
 (j :
 Nat) =>
 ((nthD
 ((0 :
 Int),
 (0 :
 Int))
 b
 j).fst,
 (nthD
 ((0 :
 Int),
 (0 :
 Int))
 b
 j).snd))
 b.length) then
 (0 : Int)
 else
 (1 : Int)) ==
 bif
 bothF A
 (mkN
 (fun
 (j :
 Nat) =>
 ((nthD
 ((0 :
 Int),
 (0 :
 Int))
 a
 j).fst,
 (nthD
 ((0 :
 Int),
 (0 :
 Int))
 a
 j).snd))
 a.length)
 B
 (mkN
 (fun
 (j :
 Nat) =>
 ((nthD
 ((0 :
 Int),
 (0 :
 Int))
 b
 j).fst,
 (nthD
 ((0 :
 Int),
 (0 :
 Int))
 b
 j).snd))
 b.length) then
 (0 : Int)
 else
 (1 : Int)) &&
 (bif
 bothF A
 (mkN
 (fun
 (j :
 Nat) =>
 ((nthD
 ((0 :
 Int),
 (0 :
 Int))
 a
 j).fst,
 (nthD
 ((0 :
 Int),
 (0 :
 Int))
 a
 j).snd))
 a.length)
 B
 (mkN
 (fun
 (j :
 Nat) =>
 ((nthD
 ((0 :
 Int),
 (0 :
 Int))
 b
 j).fst,
 (nthD
 ((0 :
 Int),
 (0 :
 Int))
 b
 j).snd))
 b.length) then
 (0 : Int)
 else
 (1 : Int)) ==
 bif
 bothF A
 (mkN
 (fun
 (j :
 Nat) =>
 ((nthD
 ((0 :
 Int),
 (0 :
 Int))
 a
 j).fst,
 (nthD
 ((0 :
 Int),
 (0 :
 Int))
 a
 j).snd))
 a.length)
 B
 (mkN
 (fun
 (j :
 Nat) =>
 ((nthD
 ((0 :
 Int),
 (0 :
 Int))
 b
 j).fst,
 (nthD
 ((0 :
 Int),
 (0 :
 Int))
 b
 j).snd))
 b.length) then
 (0 : Int)
 else
 (1 : Int)) &&
 sameF
 (bif
 bothF A
 (mkN
 (fun
 (j :
 Nat) =>
 ((nthD
 ((0 :
 Int),
 (0 :
 Int))
 a
 j).fst,
 (nthD
 ((0 :
 Int),
 (0 :
 Int))
 a
 j).snd))
 a.length)
 B
 (mkN
 (fun
 (j :
 Nat) =>
 ((nthD
 ((0 :
 Int),
 (0 :
 Int))
 b
 j).fst,
 (nthD
 ((0 :
 Int),
 (0 :
 Int))
 b
 j).snd))
 b.length) then
 A
 else (0 : Int))
 U
 (bif
 bothF A
 (mkN
 (fun
 (j :
 Nat) =>
 ((nthD
 ((0 :
 Int),
 (0 :
 Int))
 a
 j).fst,
 (nthD
 ((0 :
 Int),
 (0 :
 Int))
 a
 j).snd))
 a.length)
 B
 (mkN
 (fun
 (j :
 Nat) =>
 ((nthD
 ((0 :
 Int),
 (0 :
 Int))
 b
 j).fst,
 (nthD
 ((0 :
 Int),
 (0 :
 Int))
 b
 j).snd))
 b.length) then
 A
 else (0 : Int))
 U &&
 sameF
 (bif
 bothF A
 (mkN
 (fun
 (j :
 Nat) =>
 ((nthD
 ((0 :
 Int),
 (0 :
 Int))
 a
 j).fst,
 (nthD
 ((0 :
 Int),
 (0 :
 Int))
 a
 j).snd))
 a.length)
 B
 (mkN
 (fun
 (j :
 Nat) =>
 ((nthD
 ((0 :
 Int),
 (0 :
 Int))
 b
 j).fst,
 (nthD
 ((0 :
 Int),
 (0 :
 Int))
 b
 j).snd))
 b.length) then
 A
 else (0 : Int))
 X
 (bif
 bothF A
 (mkN
 (fun
 (j :
 Nat) =>
 ((nthD
 ((0 :
 Int),
 (0 :
 Int))
 a
 j).fst,
 (nthD
 ((0 :
 Int),
 (0 :
 Int))
 a
 j).snd))
 a.length)
 B
 (mkN
 (fun
 (j :
 Nat) =>
 ((nthD
 ((0 :
 Int),
 (0 :
 Int))
 b
 j).fst,
 (nthD
 ((0 :
 Int),
 (0 :
 Int))
 b
 j).snd))
 b.length) then
 A
 else (0 : Int))
 X) =
 true →
 mkN
 (fun (j : Nat) =>
 ((nthD
 ((0 : Int),
 (0 : Int))
 I j).fst,
 (nthD
 ((0 : Int),
 (0 : Int))
 I j).snd))
 (AV.ps I).len =
 I) ∧
 (((((bif
 bothF A
 (mkN
 (fun
 (j :
 Nat) =>
 ((nthD
 ((0 :
 Int),
 (0 :
 Int))
 a
 j).fst,
 (nthD
 ((0 :
 Int),
 (0 :
 Int))
 a
 j).snd))
 a.length)
 B
 (mkN
 (fun
 (j :
 Nat) =>
 ((nthD
 ((0 :
 Int),
 (0 :
 Int))
 b
 j).fst,
 (nthD
 ((0 :
 Int),
 (0 :
 Int))
 b
 j).snd))
 b.length) then
 (0 : Int)
 else
 (1 :
 Int)) ==
 bif
 bothF A
 (mkN
 (fun
 (j :
 Nat) =>
 ((nthD
 ((0 :
 Int),
 (0 :
 Int))
 a
 j).fst,
 (nthD
 ((0 :
 Int),
 (0 :
 Int))
 a
 j).snd))
 a.length)
 B
 (mkN
 (fun
 (j :
 Nat) =>
 ((nthD
 ((0 :
 Int),
 (0 :
 Int))
 b
 j).fst,
 (nthD
 ((0 :
 Int),
 (0 :
 Int))
 b
 j).snd))
 b.length) then
 (0 : Int)
 else
 (1 :
 Int)) &&
 (bif
 bothF A
 (mkN
 (fun
 (j :
 Nat) =>
 ((nthD
 ((0 :
 Int),
 (0 :
 Int))
 a
 j).fst,
 (nthD
 ((0 :
 Int),
 (0 :
 Int))
 a
 j).snd))
 a.length)
 B
 (mkN
 (fun
 (j :
 Nat) =>
 ((nthD
 ((0 :
 Int),
 (0 :
 Int))
 b
 j).fst,
 (nthD
 ((0 :
 Int),
 (0 :
 Int))
 b
 j).snd))
 b.length) then
 (0 : Int)
 else
 (1 :
 Int)) ==
 bif
 bothF A
 (mkN
 (fun
 (j :
 Nat) =>
 ((nthD
 ((0 :
 Int),
 (0 :
 Int))
 a
 j).fst,
 (nthD
 ((0 :
 Int),
 (0 :
 Int))
 a
 j).snd))
 a.length)
 B
 (mkN
 (fun
 (j :
 Nat) =>
 ((nthD
 ((0 :
 Int),
 (0 :
 Int))
 b
 j).fst,
 (nthD
 ((0 :
 Int),
 (0 :
 Int))
 b
 j).snd))
 b.length) then
 (0 : Int)
 else
 (1 :
 Int)) &&
 sameF
 (bif
 bothF A
 (mkN
 (fun
 (j :
 Nat) =>
 ((nthD
 ((0 :
 Int),
 (0 :
 Int))
 a
 j).fst,
 (nthD
 ((0 :
 Int),
 (0 :
 Int))
 a
 j).snd))
 a.length)
 B
 (mkN
 (fun
 (j :
 Nat) =>
 ((nthD
 ((0 :
 Int),
 (0 :
 Int))
 b
 j).fst,
 (nthD
 ((0 :
 Int),
 (0 :
 Int))
 b
 j).snd))
 b.length) then
 A
 else (0 : Int))
 U
 (bif
 bothF A
 (mkN
 (fun
 (j :
 Nat) =>
 ((nthD
 ((0 :
 Int),
 (0 :
 Int))
 a
 j).fst,
 (nthD
 ((0 :
 Int),
 (0 :
 Int))
 a
 j).snd))
 a.length)
 B
 (mkN
 (fun
 (j :
 Nat) =>
 ((nthD
 ((0 :
 Int),
 (0 :
 Int))
 b
 j).fst,
 (nthD
 ((0 :
 Int),
 (0 :
 Int))
 b
 j).snd))
 b.length) then
 A
 else (0 : Int))
 U &&
 sameF
 (bif
 bothF A
 (mkN
 (fun
 (j :
 Nat) =>
 ((nthD
 ((0 :
 Int),
 (0 :
 Int))
 a
 j).fst,
 (nthD
 ((0 :
 Int),
 (0 :
 Int))
 a
 j).snd))
 a.length)
 B
 (mkN
 (fun
 (j :
 Nat) =>
 ((nthD
 ((0 :
 Int),
 (0 :
 Int))
 b
 j).fst,
 (nthD
 ((0 :
 Int),
 (0 :
 Int))
 b
 j).snd))
 b.length) then
 A
 else (0 : Int))
 X
 (bif
 bothF A
 (mkN
 (fun
 (j :
 Nat) =>
 ((nthD
 ((0 :
 Int),
 (0 :
 Int))
 a
 j).fst,
 (nthD
 ((0 :
 Int),
 (0 :
 Int))
 a
 j).snd))
 a.length)
 B
 (mkN
 (fun
 (j :
 Nat) =>
 ((nthD
 ((0 :
 Int),
 (0 :
 Int))
 b
 j).fst,
 (nthD
 ((0 :
 Int),
 (0 :
 Int))
 b
 j).snd))
 b.length) then
 A
 else (0 : Int))
 X) =
 true →
 I.length ≤
 (1099511627776 :
 Nat)) ∧
 (((((bif
 bothF A
 (mkN
 (fun
 (j :
 Nat) =>
 ((nthD
 ((0 :
 Int),
 (0 :
 Int))
 a
 j).fst,
 (nthD
 ((0 :
 Int),
 (0 :
 Int))
 a
 j).snd))
 a.length)
 B
 (mkN
 (fun
 (j :
 Nat) =>
 ((nthD
 ((0 :
 Int),
 (0 :
 Int))
 b
 j).fst,
 (nthD
 ((0 :
 Int),
 (0 :
 Int))
 b
 j).snd))
 b.length) then
 (0 : Int)
 else
 (1 :
 Int)) ==
 bif
 bothF A
 (mkN
 (fun
 (j :
 Nat) =>
 ((nthD
 ((0 :
 Int),
 (0 :
 Int))
 a
 j).fst,
 (nthD
 ((0 :
 Int),
 (0 :
 Int))
 a
 j).snd))
 a.length)
 B
 (mkN
 (fun
 (j :
 Nat) =>
 ((nthD
 ((0 :
 Int),
 (0 :
 Int))
 b
 j).fst,
 (nthD
 ((0 :
 Int),
 (0 :
 Int))
 b
 j).snd))
 b.length) then
 (0 : Int)
 else
 (1 :
 Int)) &&
 (bif
 bothF A
 (mkN
 (fun
 (j :
 Nat) =>
 ((nthD
 ((0 :
 Int),
 (0 :
 Int))
 a
 j).fst,
 (nthD
 ((0 :
 Int),
 (0 :
 Int))
 a
 j).snd))
 a.length)
 B
 (mkN
 (fun
 (j :
 Nat) =>
 ((nthD
 ((0 :
 Int),
 (0 :
 Int))
 b
 j).fst,
 (nthD
 ((0 :
 Int),
 (0 :
 Int))
 b
 j).snd))
 b.length) then
 (0 : Int)
 else
 (1 :
 Int)) ==
 bif
 bothF A
 (mkN
 (fun
 (j :
 Nat) =>
 ((nthD
 ((0 :
 Int),
 (0 :
 Int))
 a
 j).fst,
 (nthD
 ((0 :
 Int),
 (0 :
 Int))
 a
 j).snd))
 a.length)
 B
 (mkN
 (fun
 (j :
 Nat) =>
 ((nthD
 ((0 :
 Int),
 (0 :
 Int))
 b
 j).fst,
 (nthD
 ((0 :
 Int),
 (0 :
 Int))
 b
 j).snd))
 b.length) then
 (0 : Int)
 else
 (1 :
 Int)) &&
 sameF
 (bif
 bothF A
 (mkN
 (fun
 (j :
 Nat) =>
 ((nthD
 ((0 :
 Int),
 (0 :
 Int))
 a
 j).fst,
 (nthD
 ((0 :
 Int),
 (0 :
 Int))
 a
 j).snd))
 a.length)
 B
 (mkN
 (fun
 (j :
 Nat) =>
 ((nthD
 ((0 :
 Int),
 (0 :
 Int))
 b
 j).fst,
 (nthD
 ((0 :
 Int),
 (0 :
 Int))
 b
 j).snd))
 b.length) then
 A
 else
 (0 : Int))
 U
 (bif
 bothF A
 (mkN
 (fun
 (j :
 Nat) =>
 ((nthD
 ((0 :
 Int),
 (0 :
 Int))
 a
 j).fst,
 (nthD
 ((0 :
 Int),
 (0 :
 Int))
 a
 j).snd))
 a.length)
 B
 (mkN
 (fun
 (j :
 Nat) =>
 ((nthD
 ((0 :
 Int),
 (0 :
 Int))
 b
 j).fst,
 (nthD
 ((0 :
 Int),
 (0 :
 Int))
 b
 j).snd))
 b.length) then
 A
 else
 (0 : Int))
 U &&
 sameF
 (bif
 bothF A
 (mkN
 (fun
 (j :
 Nat) =>
 ((nthD
 ((0 :
 Int),
 (0 :
 Int))
 a
 j).fst,
 (nthD
 ((0 :
 Int),
 (0 :
 Int))
 a
 j).snd))
 a.length)
 B
 (mkN
 (fun
 (j :
 Nat) =>
 ((nthD
 ((0 :
 Int),
 (0 :
 Int))
 b
 j).fst,
 (nthD
 ((0 :
 Int),
 (0 :
 Int))
 b
 j).snd))
 b.length) then
 A
 else (0 : Int))
 X
 (bif
 bothF A
 (mkN
 (fun
 (j :
 Nat) =>
 ((nthD
 ((0 :
 Int),
 (0 :
 Int))
 a
 j).fst,
 (nthD
 ((0 :
 Int),
 (0 :
 Int))
 a
 j).snd))
 a.length)
 B
 (mkN
 (fun
 (j :
 Nat) =>
 ((nthD
 ((0 :
 Int),
 (0 :
 Int))
 b
 j).fst,
 (nthD
 ((0 :
 Int),
 (0 :
 Int))
 b
 j).snd))
 b.length) then
 A
 else (0 : Int))
 X) =
 true →
 I.length ≤
 (1099511627776 :
 Nat)) ∧
 ((((bif
 bothF
 A
 (mkN
 (fun
 (j :
 Nat) =>
 ((nthD
 ((0 :
 Int),
 (0 :
 Int))
 a
 j).fst,
 (nthD
 ((0 :
 Int),
 (0 :
 Int))
 a
 j).snd))
 a.length)
 B
 (mkN
 (fun
 (j :
 Nat) =>
 ((nthD
 ((0 :
 Int),
 (0 :
 Int))
 b
 j).fst,
 (nthD
 ((0 :
 Int),
 (0 :
 Int))
 b
 j).snd))
 b.length) then
 (0 :
 Int)
 else
 (1 :
 Int)) ==
 bif
 bothF
 A
 (mkN
 (fun
 (j :
 Nat) =>
 ((nthD
 ((0 :
 Int),
 (0 :
 Int))
 a
 j).fst,
 (nthD
 ((0 :
 Int),
 (0 :
 Int))
 a
 j).snd))
 a.length)
 B
 (mkN
 (fun
 (j :
 Nat) =>
 ((nthD
 ((0 :
 Int),
 (0 :
 Int))
 b
 j).fst,
 (nthD
 ((0 :
 Int),
 (0 :
 Int))
 b
 j).snd))
 b.length) then
 (0 :
 Int)
 else
 (1 :
 Int)) &&
 (bif
 bothF
 A
 (mkN
 (fun
 (j :
 Nat) =>
 ((nthD
 ((0 :
 Int),
 (0 :
 Int))
 a
 j).fst,
 (nthD
 ((0 :
 Int),
 (0 :
 Int))
 a
 j).snd))
 a.length)
 B
 (mkN
 (fun
 (j :
 Nat) =>
 ((nthD
 ((0 :
 Int),
 (0 :
 Int))
 b
 j).fst,
 (nthD
 ((0 :
 Int),
 (0 :
 Int))
 b
 j).snd))
 b.length) then
 (0 :
 Int)
 else
 (1 :
 Int)) ==
 bif
 bothF
 A
 (mkN
 (fun
 (j :
 Nat) =>
 ((nthD
 ((0 :
 Int),
 (0 :
 Int))
 a
 j).fst,
 (nthD
 ((0 :
 Int),
 (0 :
 Int))
 a
 j).snd))
 a.length)
 B
 (mkN
 (fun
 (j :
 Nat) =>
 ((nthD
 ((0 :
 Int),
 (0 :
 Int))
 b
 j).fst,
 (nthD
 ((0 :
 Int),
 (0 :
 Int))
 b
 j).snd))
 b.length) then
 (0 :
 Int)
 else
 (1 :
 Int)) &&
 sameF
 (bif
 bothF A
 (mkN
 (fun
 (j :
 Nat) =>
 ((nthD
 ((0 :
 Int),
 (0 :
 Int))
 a
 j).fst,
 (nthD
 ((0 :
 Int),
 (0 :
 Int))
 a
 j).snd))
 a.length)
 B
 (mkN
 (fun
 (j :
 Nat) =>
 ((nthD
 ((0 :
 Int),
 (0 :
 Int))
 b
 j).fst,
 (nthD
 ((0 :
 Int),
 (0 :
 Int))
 b
 j).snd))
 b.length) then
 A
 else
 (0 : Int))
 U
 (bif
 bothF A
 (mkN
 (fun
 (j :
 Nat) =>
 ((nthD
 ((0 :
 Int),
 (0 :
 Int))
 a
 j).fst,
 (nthD
 ((0 :
 Int),
 (0 :
 Int))
 a
 j).snd))
 a.length)
 B
 (mkN
 (fun
 (j :
 Nat) =>
 ((nthD
 ((0 :
 Int),
 (0 :
 Int))
 b
 j).fst,
 (nthD
 ((0 :
 Int),
 (0 :
 Int))
 b
 j).snd))
 b.length) then
 A
 else
 (0 : Int))
 U &&
 sameF
 (bif
 bothF A
 (mkN
 (fun
 (j :
 Nat) =>
 ((nthD
 ((0 :
 Int),
 (0 :
 Int))
 a
 j).fst,
 (nthD
 ((0 :
 Int),
 (0 :
 Int))
 a
 j).snd))
 a.length)
 B
 (mkN
 (fun
 (j :
 Nat) =>
 ((nthD
 ((0 :
 Int),
 (0 :
 Int))
 b
 j).fst,
 (nthD
 ((0 :
 Int),
 (0 :
 Int))
 b
 j).snd))
 b.length) then
 A
 else
 (0 : Int))
 X
 (bif
 bothF A
 (mkN
 (fun
 (j :
 Nat) =>
 ((nthD
 ((0 :
 Int),
 (0 :
 Int))
 a
 j).fst,
 (nthD
 ((0 :
 Int),
 (0 :
 Int))
 a
 j).snd))
 a.length)
 B
 (mkN
 (fun
 (j :
 Nat) =>
 ((nthD
 ((0 :
 Int),
 (0 :
 Int))
 b
 j).fst,
 (nthD
 ((0 :
 Int),
 (0 :
 Int))
 b
 j).snd))
 b.length) then
 A
 else
 (0 : Int))
 X &&
 sameF
 (bif
 validF A
 (mkN
 (fun
 (j :
 Nat) =>
 ((nthD
 ((0 :
 Int),
 (0 :
 Int))
 a
 j).fst,
 (nthD
 ((0 :
 Int),
 (0 :
 Int))
 a
 j).snd))
 a.length) then
 A
 else (0 : Int))
 I
 (bif
 validF A
 (mkN
 (fun
 (j :
 Nat) =>
 ((nthD
 ((0 :
 Int),
 (0 :
 Int))
 a
 j).fst,
 (nthD
 ((0 :
 Int),
 (0 :
 Int))
 a
 j).snd))
 a.length) then
 A
 else (0 : Int))
 I &&
 true) =
 true)) := by kernel_rfl
theorem v9 (A : Int) (a : List Pq) (B : Int) (b : List Pq) (U X I : List Pq) (hU : (bif bothF A a B b then normL A (setF (a ++ b)) else []) = U) (hX : (bif bothF A a B b then normL A (cmpK (setF a) (setF b) A.toNat) else []) = X) (hI : (bif validF A a then normL A (setF (swapL a)) else []) = I) : fnVc (tab [kExa [], kUni [none, none, none, none, o U], kUni' [none, none, none, none, none, none, o U], kCmp [none, none, none, none, none, none, none, none, o X], kCmp' [none, none, none, none, none, none, none, none, none, none, o X], kInv [none, none, none, none, none, none, none, none, none, none, none, none, o I], kInv' [none, none, none, none, none, none, none, none, none, none, none, none, none, o I], kSam [none, none, none, none, o U, none, o U, none, o X, none, o X, none, o I, o I]] []) Try.f9 [rlV A 0 a, rlV B 1 b] [arP a, arP b] (plainIs .tt) := by
  rw [v9_eq]
  simp only [eq_self, true_and, and_true, implies_true, imp_self, mkN_ps, mkN_rs, mkN_self, mkN_len, PLoop.of, lCnt, AV.len]
  intro h
  rw [Bool.or_eq_false_iff] at h
  have h1 := L9_300 (lt_of h.1)
  have h2 := L9_300 (lt_of h.2)
  have h3 : (a ++ b).length ≤ 1099511627776 := by
    have := lt_of h.1; have := lt_of h.2
    rw [List.length_append]; omega
  have hU2 : U.length ≤ 1099511627776 := by rw [← hU]; exact bif_len2
  have hX2 : X.length ≤ 1099511627776 := by rw [← hX]; exact bif_len2
  have hI2 : I.length ≤ 1099511627776 := by rw [← hI]; exact bif_len
  refine ⟨h1, h2, h3, hU, h1, h2, h3, hU, h1, h2, hX, h1, h2, hX, fun _ => hU2, fun _ => hU2, fun _ => hX2, fun _ => hX2, fun _ => h1, fun _ => hI, fun _ => h1, fun _ => hI, fun _ => hI2, fun _ => hI2, ?_⟩
  rw [sameF_refl, sameF_refl, sameF_refl]; simp
end Go.Proofs.Ytcbmbnlgilampaa
