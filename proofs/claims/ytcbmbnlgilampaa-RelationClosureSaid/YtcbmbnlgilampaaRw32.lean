/-
  A part of the proof (Rw32).
-/
import Derived.Test.YtcbmbnlgilampaaRw31
namespace Go.Proofs.Ytcbmbnlgilampaa
open Go Go.Proofs.Ytcbmbnlgilampaa.Sx
set_option maxRecDepth 100000
set_option linter.unusedSimpArgs false
set_option linter.unusedVariables false

theorem norm9 {N : Int} {f : Pf} (h : N ≤ 64) : (normL N f).length ≤ 4096 := norm_len h
theorem v7_eq (N : Int) (l : List Pq) (M : Int) (m : List Pq) (C D CC X Y U CU : List Pq) : (fnVc (tab [kExa [], kVal' [], kClo [none, none, none, none, o C, none, o D, none, o CC, o X, none, o Y, none, o U, none, o CU], kCmp [none, none, none, none, o C, none, o D, none, o CC, o X, none, o Y, none, o U, none, o CU], kWit [none, none, none, none, o C, none, o D, none, o CC, o X, none, o Y, none, o U, none, o CU], kSam [none, none, none, none, o C, none, o D, none, o CC, o X, none, o Y, none, o U, none, o CU], kUni [none, none, none, none, o C, none, o D, none, o CC, o X, none, o Y, none, o U, none, o CU]] []) Try.f7 [rlV N 0 l, rlV M 1 m] [arP l, arP m] (plainIs .tt)) = (((decide ((↑l.length : Int) > (300 : Int)) || decide ((↑m.length : Int) > (300 : Int))) = false → l.length = l.length) ∧
 ((decide ((↑l.length : Int) > (300 : Int)) || decide ((↑m.length : Int) > (300 : Int))) = false →
 (mkN (fun (j : Nat) => ((nthD ((0 : Int), (0 : Int)) l j).fst, (nthD ((0 : Int), (0 : Int)) l j).snd))
 l.length).length ≤
 (1099511627776 : Nat)) ∧
 ((decide ((↑l.length : Int) > (300 : Int)) || decide ((↑m.length : Int) > (300 : Int)) ||
 !validF N
 (mkN (fun (j : Nat) => ((nthD ((0 : Int), (0 : Int)) l j).fst, (nthD ((0 : Int), (0 : Int)) l j).snd))
 l.length)) =
 false →
 m.length = m.length) ∧
 ((decide ((↑l.length : Int) > (300 : Int)) || decide ((↑m.length : Int) > (300 : Int)) ||
 !validF N
 (mkN (fun (j : Nat) => ((nthD ((0 : Int), (0 : Int)) l j).fst, (nthD ((0 : Int), (0 : Int)) l j).snd))
 l.length)) =
 false →
 (mkN (fun (j : Nat) => ((nthD ((0 : Int), (0 : Int)) m j).fst, (nthD ((0 : Int), (0 : Int)) m j).snd))
 m.length).length ≤
 (1099511627776 : Nat)) ∧
 ((decide ((↑l.length : Int) > (300 : Int)) || decide ((↑m.length : Int) > (300 : Int)) ||
 !validF N
 (mkN
 (fun (j : Nat) =>
 ((nthD ((0 : Int), (0 : Int)) l j).fst, (nthD ((0 : Int), (0 : Int)) l j).snd))
 l.length) ||
 !validF M
 (mkN
 (fun (j : Nat) =>
 ((nthD ((0 : Int), (0 : Int)) m j).fst, (nthD ((0 : Int), (0 : Int)) m j).snd))
 m.length) ||
 N != M) =
 true →
 true = true) ∧
 ((decide ((↑l.length : Int) > (300 : Int)) || decide ((↑m.length : Int) > (300 : Int)) ||
 !validF N
 (mkN
 (fun (j : Nat) =>
 ((nthD ((0 : Int), (0 : Int)) l j).fst, (nthD ((0 : Int), (0 : Int)) l j).snd))
 l.length) ||
 !validF M
 (mkN
 (fun (j : Nat) =>
 ((nthD ((0 : Int), (0 : Int)) m j).fst, (nthD ((0 : Int), (0 : Int)) m j).snd))
 m.length) ||
 N != M) =
 false →
 l.length = l.length ∧
 (mkN (fun (j : Nat) => ((nthD ((0 : Int), (0 : Int)) l j).fst, (nthD ((0 : Int), (0 : Int)) l j).snd))
 l.length).length ≤
 (1099511627776 : Nat) ∧
 (bif
 validF N
 (mkN
 (fun (j : Nat) =>
 ((nthD ((0 : Int), (0 : Int)) l j).fst, (nthD ((0 : Int), (0 : Int)) l j).snd))
 l.length) then
 normL N
 (wF
 (setF
 (mkN
 (fun (j : Nat) =>
 ((nthD ((0 : Int), (0 : Int)) l j).fst, (nthD ((0 : Int), (0 : Int)) l j).snd))
 l.length))
 N.toNat)
 else []) =
 C ∧
 (AV.ps C).len = (AV.ps C).len ∧
 (AV.ps C).len = (AV.ps C).len ∧
 mkN
 (fun (j : Nat) =>
 ((nthD ((0 : Int), (0 : Int)) C j).fst, (nthD ((0 : Int), (0 : Int)) C j).snd))
 (AV.ps C).len =
 C ∧
 mkN
 (fun (j : Nat) =>
 ((nthD ((0 : Int), (0 : Int)) C j).fst, (nthD ((0 : Int), (0 : Int)) C j).snd))
 (AV.ps C).len =
 C ∧
 C.length ≤ (1099511627776 : Nat) ∧
 C.length ≤ (1099511627776 : Nat) ∧
 (bif
 bothF
 (bif
 validF N
 (mkN
 (fun (j : Nat) =>
 ((nthD ((0 : Int), (0 : Int)) l j).fst,
 (nthD ((0 : Int), (0 : Int)) l j).snd))
 l.length) then
 N
 else (0 : Int))
 C
 (bif
 validF N
 (mkN
 (fun (j : Nat) =>
 ((nthD ((0 : Int), (0 : Int)) l j).fst,
 (nthD ((0 : Int), (0 : Int)) l j).snd))
 l.length) then
 N
 else (0 : Int))
 C then
 normL
 (bif
 validF N
 (mkN
 (fun (j : Nat) =>
 ((nthD ((0 : Int), (0 : Int)) l j).fst,
 (nthD ((0 : Int), (0 : Int)) l j).snd))
 l.length) then
 N
 else (0 : Int))
 (cmpK (setF C) (setF C)
 (bif
 validF N
 (mkN
 (fun (j : Nat) =>
 ((nthD ((0 : Int), (0 : Int)) l j).fst,
 (nthD ((0 : Int), (0 : Int)) l j).snd))
 l.length) then
 N
 else (0 : Int)).toNat)
 else []) =
 D ∧
 (((bif
 bothF
 (bif
 validF N
 (mkN
 (fun (j : Nat) =>
 ((nthD ((0 : Int), (0 : Int)) l j).fst,
 (nthD ((0 : Int), (0 : Int)) l j).snd))
 l.length) then
 N
 else (0 : Int))
 C
 (bif
 validF N
 (mkN
 (fun (j : Nat) =>
 ((nthD ((0 : Int), (0 : Int)) l j).fst,
 (nthD ((0 : Int), (0 : Int)) l j).snd))
 l.length) then
 N
 else (0 : Int))
 C then
 (0 : Int)
 else (1 : Int)) !=
 (0 : Int)) =
 false →
 (AV.ps C).len = (AV.ps C).len) ∧
 (((bif
 bothF
 (bif
 validF N
 (mkN
 (fun (j : Nat) =>
 ((nthD ((0 : Int), (0 : Int)) l j).fst,
 (nthD ((0 : Int), (0 : Int)) l j).snd))
 l.length) then
 N
 else (0 : Int))
 C
 (bif
 validF N
 (mkN
 (fun (j : Nat) =>
 ((nthD ((0 : Int), (0 : Int)) l j).fst,
 (nthD ((0 : Int), (0 : Int)) l j).snd))
 l.length) then
 N
 else (0 : Int))
 C then
 (0 : Int)
 else (1 : Int)) !=
 (0 : Int)) =
 false →
 l.length = l.length) ∧
 (((bif
 bothF
 (bif
 validF N
 (mkN
 (fun (j : Nat) =>
 ((nthD ((0 : Int), (0 : Int)) l j).fst,
 (nthD ((0 : Int), (0 : Int)) l j).snd))
 l.length) then
 N
 else (0 : Int))
 C
 (bif
 validF N
 (mkN
 (fun (j : Nat) =>
 ((nthD ((0 : Int), (0 : Int)) l j).fst,
 (nthD ((0 : Int), (0 : Int)) l j).snd))
 l.length) then
 N
 else (0 : Int))
 C then
 (0 : Int)
 else (1 : Int)) !=
 (0 : Int)) =
 false →
 mkN
 (fun (j : Nat) =>
 ((nthD ((0 : Int), (0 : Int)) C j).fst,
 (nthD ((0 : Int), (0 : Int)) C j).snd))
 (AV.ps C).len =
 C) ∧
 (((bif
 bothF
 (bif
 validF N
 (mkN
 (fun (j : Nat) =>
 ((nthD ((0 : Int), (0 : Int)) l j).fst,
 (nthD ((0 : Int), (0 : Int)) l j).snd))
 l.length) then
 N
 else (0 : Int))
 C
 (bif
 validF N
 (mkN
 (fun (j : Nat) =>
 ((nthD ((0 : Int), (0 : Int)) l j).fst,
 (nthD ((0 : Int), (0 : Int)) l j).snd))
 l.length) then
 N
 else (0 : Int))
 C then
 (0 : Int)
 else (1 : Int)) !=
 (0 : Int)) =
 false →
 C.length ≤ (1099511627776 : Nat)) ∧
 (((bif
 bothF
 (bif
 validF N
 (mkN
 (fun (j : Nat) =>
 ((nthD ((0 : Int), (0 : Int)) l j).fst,
 (nthD ((0 : Int), (0 : Int)) l j).snd))
 l.length) then
 N
 else (0 : Int))
 C
 (bif
 validF N
 (mkN
 (fun (j : Nat) =>
 ((nthD ((0 : Int), (0 : Int)) l j).fst,
 (nthD ((0 : Int), (0 : Int)) l j).snd))
 l.length) then
 N
 else (0 : Int))
 C then
 (0 : Int)
 else (1 : Int)) !=
 (0 : Int)) =
 false →
 (mkN
 (fun (j : Nat) =>
 ((nthD ((0 : Int), (0 : Int)) l j).fst,
 (nthD ((0 : Int), (0 : Int)) l j).snd))
 l.length).length ≤
 (1099511627776 : Nat)) ∧
 (((bif
 bothF
 (bif
 validF N
 (mkN
 (fun (j : Nat) =>
 ((nthD ((0 : Int), (0 : Int)) l j).fst,
 (nthD ((0 : Int), (0 : Int)) l j).snd))
 l.length) then
 N
 else (0 : Int))
 C
 (bif
 validF N
 (mkN
 (fun (j : Nat) =>
 ((nthD ((0 : Int), (0 : Int)) l j).fst,
 (nthD ((0 : Int), (0 : Int)) l j).snd))
 l.length) then
 N
 else (0 : Int))
 C then
 (0 : Int)
 else (1 : Int)) !=
 (0 : Int)) =
 false →
 (C ++
 mkN
 (fun (j : Nat) =>
 ((nthD ((0 : Int), (0 : Int)) l j).fst,
 (nthD ((0 : Int), (0 : Int)) l j).snd))
 l.length).length ≤
 (1099511627776 : Nat)) ∧
 (((bif
 bothF
 (bif
 validF N
 (mkN
 (fun (j : Nat) =>
 ((nthD ((0 : Int), (0 : Int)) l j).fst,
 (nthD ((0 : Int), (0 : Int)) l j).snd))
 l.length) then
 N
 else (0 : Int))
 C
 (bif
 validF N
 (mkN
 (fun (j : Nat) =>
 ((nthD ((0 : Int), (0 : Int)) l j).fst,
 (nthD ((0 : Int), (0 : Int)) l j).snd))
 l.length) then
 N
 else (0 : Int))
 C then
 (0 : Int)
 else (1 : Int)) !=
 (0 : Int) ||
 !witF
 (bif
 validF N
 (mkN
 (fun (j : Nat) =>
 ((nthD ((0 : Int), (0 : Int)) l j).fst,
 (nthD ((0 : Int), (0 : Int)) l j).snd))
 l.length) then
 N
 else (0 : Int))
 C N
 (mkN
 (fun (j : Nat) =>
 ((nthD ((0 : Int), (0 : Int)) l j).fst,
 (nthD ((0 : Int), (0 : Int)) l j).snd))
 l.length)) =
 false →
 (AV.ps C).len = (AV.ps C).len) ∧
 (((bif
 bothF
 (bif
 validF N
 (mkN
 (fun (j : Nat) =>
 ((nthD ((0 : Int), (0 : Int)) l j).fst,
 (nthD ((0 : Int), (0 : Int)) l j).snd))
 l.length) then
 N
 else (0 : Int))
 C
 (bif
 validF N
 (mkN
 (fun (j : Nat) =>
 ((nthD ((0 : Int), (0 : Int)) l j).fst,
 (nthD ((0 : Int), (0 : Int)) l j).snd))
 l.length) then
 N
 else (0 : Int))
 C then
 (0 : Int)
 else (1 : Int)) !=
 (0 : Int) ||
 !witF
 (bif
 validF N
 (mkN
 (fun (j : Nat) =>
 ((nthD ((0 : Int), (0 : Int)) l j).fst,
 (nthD ((0 : Int), (0 : Int)) l j).snd))
 l.length) then
 N
 else (0 : Int))
 C N
 (mkN
 (fun (j : Nat) =>
 ((nthD ((0 : Int), (0 : Int)) l j).fst,
 (nthD ((0 : Int), (0 : Int)) l j).snd))
 l.length)) =
 false →
 (AV.ps D).len = (AV.ps D).len) ∧
 (((bif
 bothF
 (bif
 validF N
 (mkN
 (fun (j : Nat) =>
 ((nthD ((0 : Int), (0 : Int)) l j).fst,
 (nthD ((0 : Int), (0 : Int)) l j).snd))
 l.length) then
 N
 else (0 : Int))
 C
 (bif
 validF N
 (mkN
 (fun (j : Nat) =>
 ((nthD ((0 : Int), (0 : Int)) l j).fst,
 (nthD ((0 : Int), (0 : Int)) l j).snd))
 l.length) then
 N
 else (0 : Int))
 C then
 (0 : Int)
 else (1 : Int)) !=
 (0 : Int) ||
 !witF
 (bif
 validF N
 (mkN
 (fun (j : Nat) =>
 ((nthD ((0 : Int), (0 : Int)) l j).fst,
 (nthD ((0 : Int), (0 : Int)) l j).snd))
 l.length) then
 N
 else (0 : Int))
 C N
 (mkN
 (fun (j : Nat) =>
 ((nthD ((0 : Int), (0 : Int)) l j).fst,
 (nthD ((0 : Int), (0 : Int)) l j).snd))
 l.length)) =
 false →
 mkN
 (fun (j : Nat) =>
 ((nthD ((0 : Int), (0 : Int)) C j).fst,
 (nthD ((0 : Int), (0 : Int)) C j).snd))
 (AV.ps C).len =
 C) ∧
 (((bif
 bothF
 (bif
 validF N
 (mkN
 (fun (j : Nat) =>
 ((nthD ((0 : Int), (0 : Int)) l j).fst,
 (nthD ((0 : Int), (0 : Int)) l j).snd))
 l.length) then
 N
 else (0 : Int))
 C
 (bif
 validF N
 (mkN
 (fun (j : Nat) =>
 ((nthD ((0 : Int), (0 : Int)) l j).fst,
 (nthD ((0 : Int), (0 : Int)) l j).snd))
 l.length) then
 N
 else (0 : Int))
 C then
 (0 : Int)
 else (1 : Int)) !=
 (0 : Int) ||
 !witF
 (bif
 validF N
 (mkN
 (fun (j : Nat) =>
 ((nthD ((0 : Int), (0 : Int)) l j).fst,
 (nthD ((0 : Int), (0 : Int)) l j).snd))
 l.length) then
 N
 else (0 : Int))
 C N
 (mkN
 (fun (j : Nat) =>
 ((nthD ((0 : Int), (0 : Int)) l j).fst,
 (nthD ((0 : Int), (0 : Int)) l j).snd))
 l.length)) =
 false →
 mkN
 (fun (j : Nat) =>
 ((nthD ((0 : Int), (0 : Int)) D j).fst,
 (nthD ((0 : Int), (0 : Int)) D j).snd))
 (AV.ps D).len =
 D) ∧
 (((bif
 bothF
 (bif
 validF N
 (mkN
 (fun (j : Nat) =>
 ((nthD ((0 : Int), (0 : Int)) l j).fst,
 (nthD ((0 : Int), (0 : Int)) l j).snd))
 l.length) then
 N
 else (0 : Int))
 C
 (bif
 validF N
 (mkN
 (fun (j : Nat) =>
 ((nthD ((0 : Int), (0 : Int)) l j).fst,
 (nthD ((0 : Int), (0 : Int)) l j).snd))
 l.length) then
 N
 else (0 : Int))
 C then
 (0 : Int)
 else (1 : Int)) !=
 (0 : Int) ||
 !witF
 (bif
 validF N
 (mkN
 (fun (j : Nat) =>
 ((nthD ((0 : Int), (0 : Int)) l j).fst,
 (nthD ((0 : Int), (0 : Int)) l j).snd))
 l.length) then
 N
 else (0 : Int))
 C N
 (mkN
 (fun (j : Nat) =>
 ((nthD ((0 : Int), (0 : Int)) l j).fst,
 (nthD ((0 : Int), (0 : Int)) l j).snd))
 l.length)) =
 false →
 C.length ≤ (1099511627776 : Nat)) ∧
 (((bif
 bothF
 (bif
 validF N
 (mkN
 (fun (j : Nat) =>
 ((nthD ((0 : Int), (0 : Int)) l j).fst,
 (nthD ((0 : Int), (0 : Int)) l
 j).snd))
 l.length) then
 N
 else (0 : Int))
 C
 (bif
 validF N
 (mkN
 (fun (j : Nat) =>
 ((nthD ((0 : Int), (0 : Int)) l j).fst,
 (nthD ((0 : Int), (0 : Int)) l
 j).snd))
 l.length) then
 N
 else (0 : Int))
 C then
 (0 : Int)
 else (1 : Int)) !=
 (0 : Int) ||
 !witF
 (bif
 validF N
 (mkN
 (fun (j : Nat) =>
 ((nthD ((0 : Int), (0 : Int)) l j).fst,
 (nthD ((0 : Int), (0 : Int)) l j).snd))
 l.length) then
 N
 else (0 : Int))
 C N
 (mkN
 (fun (j : Nat) =>
 ((nthD ((0 : Int), (0 : Int)) l j).fst,
 (nthD ((0 : Int), (0 : Int)) l j).snd))
 l.length)) =
 false →
 D.length ≤ (1099511627776 : Nat)) ∧
 (((bif
 bothF
 (bif
 validF N
 (mkN
 (fun (j : Nat) =>
 ((nthD ((0 : Int), (0 : Int)) l
 j).fst,
 (nthD ((0 : Int), (0 : Int)) l
 j).snd))
 l.length) then
 N
 else (0 : Int))
 C
 (bif
 validF N
 (mkN
 (fun (j : Nat) =>
 ((nthD ((0 : Int), (0 : Int)) l
 j).fst,
 (nthD ((0 : Int), (0 : Int)) l
 j).snd))
 l.length) then
 N
 else (0 : Int))
 C then
 (0 : Int)
 else (1 : Int)) !=
 (0 : Int) ||
 !witF
 (bif
 validF N
 (mkN
 (fun (j : Nat) =>
 ((nthD ((0 : Int), (0 : Int)) l j).fst,
 (nthD ((0 : Int), (0 : Int)) l j).snd))
 l.length) then
 N
 else (0 : Int))
 C N
 (mkN
 (fun (j : Nat) =>
 ((nthD ((0 : Int), (0 : Int)) l j).fst,
 (nthD ((0 : Int), (0 : Int)) l j).snd))
 l.length)) =
 false →
 (C ++ D).length ≤ (1099511627776 : Nat)) ∧
 (((bif
 bothF
 (bif
 validF N
 (mkN
 (fun (j : Nat) =>
 ((nthD ((0 : Int), (0 : Int)) l
 j).fst,
 (nthD ((0 : Int), (0 : Int)) l
 j).snd))
 l.length) then
 N
 else (0 : Int))
 C
 (bif
 validF N
 (mkN
 (fun (j : Nat) =>
 ((nthD ((0 : Int), (0 : Int)) l
 j).fst,
 (nthD ((0 : Int), (0 : Int)) l
 j).snd))
 l.length) then
 N
 else (0 : Int))
 C then
 (0 : Int)
 else (1 : Int)) !=
 (0 : Int) ||
 !witF
 (bif
 validF N
 (mkN
 (fun (j : Nat) =>
 ((nthD ((0 : Int), (0 : Int)) l
 j).fst,
 (nthD ((0 : Int), (0 : Int)) l
 j).snd))
 l.length) then
 N
 else (0 : Int))
 C N
 (mkN
 (fun (j : Nat) =>
 ((nthD ((0 : Int), (0 : Int)) l j).fst,
 (nthD ((0 : Int), (0 : Int)) l j).snd))
 l.length) ||
 !witF
 (bif
 validF N
 (mkN
 (fun (j : Nat) =>
 ((nthD ((0 : Int), (0 : Int)) l j).fst,
 (nthD ((0 : Int), (0 : Int)) l
 j).snd))
 l.length) then
 N
 else (0 : Int))
 C
 (bif
 bothF
 (bif
 validF N
 (mkN
 (fun (j : Nat) =>
 ((nthD ((0 : Int), (0 : Int)) l
 j).fst,
 (nthD ((0 : Int), (0 : Int)) l
 j).snd))
 l.length) then
 N
 else (0 : Int))
 C
 (bif
 validF N
 (mkN
 (fun (j : Nat) =>
 ((nthD ((0 : Int), (0 : Int)) l
 j).fst,
 (nthD ((0 : Int), (0 : Int)) l
 j).snd))
 l.length) then
 N
 else (0 : Int))
 C then
 bif
 validF N
 (mkN
 (fun (j : Nat) =>
 ((nthD ((0 : Int), (0 : Int)) l
 j).fst,
 (nthD ((0 : Int), (0 : Int)) l
 j).snd))
 l.length) then
 N
 else (0 : Int)
 else (0 : Int))
 D) =
 false →
 (AV.ps C).len = (AV.ps C).len) ∧
 (((bif
 bothF
 (bif
 validF N
 (mkN
 (fun (j : Nat) =>
 ((nthD ((0 : Int), (0 : Int)) l
 j).fst,
 (nthD ((0 : Int), (0 : Int)) l
 j).snd))
 l.length) then
 N
 else (0 : Int))
 C
 (bif
 validF N
 (mkN
 (fun (j : Nat) =>
 ((nthD ((0 : Int), (0 : Int)) l
 j).fst,
 (nthD ((0 : Int), (0 : Int)) l
 j).snd))
 l.length) then
 N
 else (0 : Int))
 C then
 (0 : Int)
 else (1 : Int)) !=
 (0 : Int) ||
 !witF
 (bif
 validF N
 (mkN
 (fun (j : Nat) =>
 ((nthD ((0 : Int), (0 : Int)) l
 j).fst,
 (nthD ((0 : Int), (0 : Int)) l
 j).snd))
 l.length) then
 N
 else (0 : Int))
 C N
 (mkN
 (fun (j : Nat) =>
 ((nthD ((0 : Int), (0 : Int)) l j).fst,
 (nthD ((0 : Int), (0 : Int)) l j).snd))
 l.length) ||
 !witF
 (bif
 validF N
 (mkN
 (fun (j : Nat) =>
 ((nthD ((0 : Int), (0 : Int)) l
 j).fst,
 (nthD ((0 : Int), (0 : Int)) l
 j).snd))
 l.length) then
 N
 else (0 : Int))
 C
 (bif
 bothF
 (bif
 validF N
 (mkN
 (fun (j : Nat) =>
 ((nthD ((0 : Int), (0 : Int)) l
 j).fst,
 (nthD ((0 : Int), (0 : Int)) l
 j).snd))
 l.length) then
 N
 else (0 : Int))
 C
 (bif
 validF N
 (mkN
 (fun (j : Nat) =>
 ((nthD ((0 : Int), (0 : Int)) l
 j).fst,
 (nthD ((0 : Int), (0 : Int)) l
 j).snd))
 l.length) then
 N
 else (0 : Int))
 C then
 bif
 validF N
 (mkN
 (fun (j : Nat) =>
 ((nthD ((0 : Int), (0 : Int)) l
 j).fst,
 (nthD ((0 : Int), (0 : Int)) l
 j).snd))
 l.length) then
 N
 else (0 : Int)
 else (0 : Int))
 D) =
 false →
 mkN
 (fun (j : Nat) =>
 ((nthD ((0 : Int), (0 : Int)) C j).fst,
 (nthD ((0 : Int), (0 : Int)) C j).snd))
 (AV.ps C).len =
 C) ∧
 (((bif
 bothF
 (bif
 validF N
 (mkN
 (fun (j : Nat) =>
 ((nthD ((0 : Int), (0 : Int))
 l j).fst,
 (nthD ((0 : Int), (0 : Int))
 l j).snd))
 l.length) then
 N
 else (0 : Int))
 C
 (bif
 validF N
 (mkN
 (fun (j : Nat) =>
 ((nthD ((0 : Int), (0 : Int))
 l j).fst,
 (nthD ((0 : Int), (0 : Int))
 l j).snd))
 l.length) then
 N
 else (0 : Int))
 C then
 (0 : Int)
 else (1 : Int)) !=
 (0 : Int) ||
 !witF
 (bif
 validF N
 (mkN
 (fun (j : Nat) =>
 ((nthD ((0 : Int), (0 : Int)) l
 j).fst,
 (nthD ((0 : Int), (0 : Int)) l
 j).snd))
 l.length) then
 N
 else (0 : Int))
 C N
 (mkN
 (fun (j : Nat) =>
 ((nthD ((0 : Int), (0 : Int)) l j).fst,
 (nthD ((0 : Int), (0 : Int)) l
 j).snd))
 l.length) ||
 !witF
 (bif
 validF N
 (mkN
 (fun (j : Nat) =>
 ((nthD ((0 : Int), (0 : Int)) l
 j).fst,
 (nthD ((0 : Int), (0 : Int)) l
 j).snd))
 l.length) then
 N
 else (0 : Int))
 C
 (bif
 bothF
 (bif
 validF N
 (mkN
 (fun (j : Nat) =>
 ((nthD ((0 : Int), (0 : Int))
 l j).fst,
 (nthD ((0 : Int), (0 : Int))
 l j).snd))
 l.length) then
 N
 else (0 : Int))
 C
 (bif
 validF N
 (mkN
 (fun (j : Nat) =>
 ((nthD ((0 : Int), (0 : Int))
 l j).fst,
 (nthD ((0 : Int), (0 : Int))
 l j).snd))
 l.length) then
 N
 else (0 : Int))
 C then
 bif
 validF N
 (mkN
 (fun (j : Nat) =>
 ((nthD ((0 : Int), (0 : Int)) l
 j).fst,
 (nthD ((0 : Int), (0 : Int)) l
 j).snd))
 l.length) then
 N
 else (0 : Int)
 else (0 : Int))
 D) =
 false →
 C.length ≤ (1099511627776 : Nat)) ∧
 (((bif
 bothF
 (bif
 validF N
 (mkN
 (fun (j : Nat) =>
 ((nthD
 ((0 : Int), (0 : Int))
 l j).fst,
 (nthD
 ((0 : Int), (0 : Int))
 l j).snd))
 l.length) then
 N
 else (0 : Int))
 C
 (bif
 validF N
 (mkN
 (fun (j : Nat) =>
 ((nthD
 ((0 : Int), (0 : Int))
 l j).fst,
 (nthD
 ((0 : Int), (0 : Int))
 l j).snd))
 l.length) then
 N
 else (0 : Int))
 C then
 (0 : Int)
 else (1 : Int)) !=
 (0 : Int) ||
 !witF
 (bif
 validF N
 (mkN
 (fun (j : Nat) =>
 ((nthD ((0 : Int), (0 : Int)) l
 j).fst,
 (nthD ((0 : Int), (0 : Int)) l
 j).snd))
 l.length) then
 N
 else (0 : Int))
 C N
 (mkN
 (fun (j : Nat) =>
 ((nthD ((0 : Int), (0 : Int)) l
 j).fst,
 (nthD ((0 : Int), (0 : Int)) l
 j).snd))
 l.length) ||
 !witF
 (bif
 validF N
 (mkN
 (fun (j : Nat) =>
 ((nthD ((0 : Int), (0 : Int)) l
 j).fst,
 (nthD ((0 : Int), (0 : Int)) l
 j).snd))
 l.length) then
 N
 else (0 : Int))
 C
 (bif
 bothF
 (bif
 validF N
 (mkN
 (fun (j : Nat) =>
 ((nthD
 ((0 : Int), (0 : Int))
 l j).fst,
 (nthD
 ((0 : Int), (0 : Int))
 l j).snd))
 l.length) then
 N
 else (0 : Int))
 C
 (bif
 validF N
 (mkN
 (fun (j : Nat) =>
 ((nthD
 ((0 : Int), (0 : Int))
 l j).fst,
 (nthD
 ((0 : Int), (0 : Int))
 l j).snd))
 l.length) then
 N
 else (0 : Int))
 C then
 bif
 validF N
 (mkN
 (fun (j : Nat) =>
 ((nthD ((0 : Int), (0 : Int)) l
 j).fst,
 (nthD ((0 : Int), (0 : Int)) l
 j).snd))
 l.length) then
 N
 else (0 : Int)
 else (0 : Int))
 D) =
 false →
 (bif
 validF
 (bif
 validF N
 (mkN
 (fun (j : Nat) =>
 ((nthD ((0 : Int), (0 : Int)) l
 j).fst,
 (nthD ((0 : Int), (0 : Int)) l
 j).snd))
 l.length) then
 N
 else (0 : Int))
 C then
 normL
 (bif
 validF N
 (mkN
 (fun (j : Nat) =>
 ((nthD ((0 : Int), (0 : Int)) l
 j).fst,
 (nthD ((0 : Int), (0 : Int)) l
 j).snd))
 l.length) then
 N
 else (0 : Int))
 (wF (setF C)
 (bif
 validF N
 (mkN
 (fun (j : Nat) =>
 ((nthD ((0 : Int), (0 : Int)) l
 j).fst,
 (nthD ((0 : Int), (0 : Int)) l
 j).snd))
 l.length) then
 N
 else (0 : Int)).toNat)
 else []) =
 CC) ∧
 (((bif
 bothF
 (bif
 validF N
 (mkN
 (fun (j : Nat) =>
 ((nthD
 ((0 : Int),
 (0 : Int))
 l j).fst,
 (nthD
 ((0 : Int),
 (0 : Int))
 l j).snd))
 l.length) then
 N
 else (0 : Int))
 C
 (bif
 validF N
 (mkN
 (fun (j : Nat) =>
 ((nthD
 ((0 : Int),
 (0 : Int))
 l j).fst,
 (nthD
 ((0 : Int),
 (0 : Int))
 l j).snd))
 l.length) then
 N
 else (0 : Int))
 C then
 (0 : Int)
 else (1 : Int)) !=
 (0 : Int) ||
 !witF
 (bif
 validF N
 (mkN
 (fun (j : Nat) =>
 ((nthD ((0 : Int), (0 : Int))
 l j).fst,
 (nthD ((0 : Int), (0 : Int))
 l j).snd))
 l.length) then
 N
 else (0 : Int))
 C N
 (mkN
 (fun (j : Nat) =>
 ((nthD ((0 : Int), (0 : Int)) l
 j).fst,
 (nthD ((0 : Int), (0 : Int)) l
 j).snd))
 l.length) ||
 !witF
 (bif
 validF N
 (mkN
 (fun (j : Nat) =>
 ((nthD ((0 : Int), (0 : Int)) l
 j).fst,
 (nthD ((0 : Int), (0 : Int)) l
 j).snd))
 l.length) then
 N
 else (0 : Int))
 C
 (bif
 bothF
 (bif
 validF N
 (mkN
 (fun (j : Nat) =>
 ((nthD
 ((0 : Int),
 (0 : Int))
 l j).fst,
 (nthD
 ((0 : Int),
 (0 : Int))
 l j).snd))
 l.length) then
 N
 else (0 : Int))
 C
 (bif
 validF N
 (mkN
 (fun (j : Nat) =>
 ((nthD
 ((0 : Int),
 (0 : Int))
 l j).fst,
 (nthD
 ((0 : Int),
 (0 : Int))
 l j).snd))
 l.length) then
 N
 else (0 : Int))
 C then
 bif
 validF N
 (mkN
 (fun (j : Nat) =>
 ((nthD ((0 : Int), (0 : Int))
 l j).fst,
 (nthD ((0 : Int), (0 : Int))
 l j).snd))
 l.length) then
 N
 else (0 : Int)
 else (0 : Int))
 D) =
 false →
 (AV.ps CC).len = (AV.ps CC).len) ∧
 (((bif
 bothF
 (bif
 validF N
 (mkN
 (fun (j : Nat) =>
 ((nthD
 ((0 : Int),
 (0 : Int))
 l j).fst,
 (nthD
 ((0 : Int),
 (0 : Int))
 l j).snd))
 l.length) then
 N
 else (0 : Int))
 C
 (bif
 validF N
 (mkN
 (fun (j : Nat) =>
 ((nthD
 ((0 : Int),
 (0 : Int))
 l j).fst,
 (nthD
 ((0 : Int),
 (0 : Int))
 l j).snd))
 l.length) then
 N
 else (0 : Int))
 C then
 (0 : Int)
 else (1 : Int)) !=
 (0 : Int) ||
 !witF
 (bif
 validF N
 (mkN
 (fun (j : Nat) =>
 ((nthD
 ((0 : Int), (0 : Int))
 l j).fst,
 (nthD
 ((0 : Int), (0 : Int))
 l j).snd))
 l.length) then
 N
 else (0 : Int))
 C N
 (mkN
 (fun (j : Nat) =>
 ((nthD ((0 : Int), (0 : Int)) l
 j).fst,
 (nthD ((0 : Int), (0 : Int)) l
 j).snd))
 l.length) ||
 !witF
 (bif
 validF N
 (mkN
 (fun (j : Nat) =>
 ((nthD ((0 : Int), (0 : Int))
 l j).fst,
 (nthD ((0 : Int), (0 : Int))
 l j).snd))
 l.length) then
 N
 else (0 : Int))
 C
 (bif
 bothF
 (bif
 validF N
 (mkN
 (fun (j : Nat) =>
 ((nthD
 ((0 : Int),
 (0 : Int))
 l j).fst,
 (nthD
 ((0 : Int),
 (0 : Int))
 l j).snd))
 l.length) then
 N
 else (0 : Int))
 C
 (bif
 validF N
 (mkN
 (fun (j : Nat) =>
 ((nthD
 ((0 : Int),
 (0 : Int))
 l j).fst,
 (nthD
 ((0 : Int),
 (0 : Int))
 l j).snd))
 l.length) then
 N
 else (0 : Int))
 C then
 bif
 validF N
 (mkN
 (fun (j : Nat) =>
 ((nthD
 ((0 : Int), (0 : Int))
 l j).fst,
 (nthD
 ((0 : Int), (0 : Int))
 l j).snd))
 l.length) then
 N
 else (0 : Int)
 else (0 : Int))
 D) =
 false →
 (AV.ps C).len = (AV.ps C).len) ∧
 (((bif
 bothF
 (bif
 validF N
 (mkN
 (fun (j : Nat) =>
 ((nthD
 ((0 : Int),
 (0 : Int))
 l j).fst,
 (nthD
 ((0 : Int),
 (0 : Int))
 l j).snd))
 l.length) then
 N
 else (0 : Int))
 C
 (bif
 validF N
 (mkN
 (fun (j : Nat) =>
 ((nthD
 ((0 : Int),
 (0 : Int))
 l j).fst,
 (nthD
 ((0 : Int),
 (0 : Int))
 l j).snd))
 l.length) then
 N
 else (0 : Int))
 C then
 (0 : Int)
 else (1 : Int)) !=
 (0 : Int) ||
 !witF
 (bif
 validF N
 (mkN
 (fun (j : Nat) =>
 ((nthD
 ((0 : Int),
 (0 : Int))
 l j).fst,
 (nthD
 ((0 : Int),
 (0 : Int))
 l j).snd))
 l.length) then
 N
 else (0 : Int))
 C N
 (mkN
 (fun (j : Nat) =>
 ((nthD ((0 : Int), (0 : Int)) l
 j).fst,
 (nthD ((0 : Int), (0 : Int)) l
 j).snd))
 l.length) ||
 !witF
 (bif
 validF N
 (mkN
 (fun (j : Nat) =>
 ((nthD
 ((0 : Int), (0 : Int))
 l j).fst,
 (nthD
 ((0 : Int), (0 : Int))
 l j).snd))
 l.length) then
 N
 else (0 : Int))
 C
 (bif
 bothF
 (bif
 validF N
 (mkN
 (fun (j : Nat) =>
 ((nthD
 ((0 : Int),
 (0 : Int))
 l j).fst,
 (nthD
 ((0 : Int),
 (0 : Int))
 l j).snd))
 l.length) then
 N
 else (0 : Int))
 C
 (bif
 validF N
 (mkN
 (fun (j : Nat) =>
 ((nthD
 ((0 : Int),
 (0 : Int))
 l j).fst,
 (nthD
 ((0 : Int),
 (0 : Int))
 l j).snd))
 l.length) then
 N
 else (0 : Int))
 C then
 bif
 validF N
 (mkN
 (fun (j : Nat) =>
 ((nthD
 ((0 : Int),
 (0 : Int))
 l j).fst,
 (nthD
 ((0 : Int),
 (0 : Int))
 l j).snd))
 l.length) then
 N
 else (0 : Int)
 else (0 : Int))
 D) =
 false →
 mkN
 (fun (j : Nat) =>
 ((nthD ((0 : Int), (0 : Int)) CC j).fst,
 (nthD ((0 : Int), (0 : Int)) CC
 j).snd))
 (AV.ps CC).len =
 CC) ∧
 (((bif
 bothF
 (bif
 validF N
 (mkN
 (fun (j : Nat) =>
 ((nthD
 ((0 : Int),
 (0 : Int))
 l j).fst,
 (nthD
 ((0 : Int),
 (0 : Int))
 l j).snd))
 l.length) then
 N
 else (0 : Int))
 C
 (bif
 validF N
 (mkN
 (fun (j : Nat) =>
 ((nthD
 ((0 : Int),
 (0 : Int))
 l j).fst,
 (nthD
 ((0 : Int),
 (0 : Int))
 l j).snd))
 l.length) then
 N
 else (0 : Int))
 C then
 (0 : Int)
 else (1 : Int)) !=
 (0 : Int) ||
 !witF
 (bif
 validF N
 (mkN
 (fun (j : Nat) =>
 ((nthD
 ((0 : Int),
 (0 : Int))
 l j).fst,
 (nthD
 ((0 : Int),
 (0 : Int))
 l j).snd))
 l.length) then
 N
 else (0 : Int))
 C N
 (mkN
 (fun (j : Nat) =>
 ((nthD ((0 : Int), (0 : Int))
 l j).fst,
 (nthD ((0 : Int), (0 : Int))
 l j).snd))
 l.length) ||
 !witF
 (bif
 validF N
 (mkN
 (fun (j : Nat) =>
 ((nthD
 ((0 : Int),
 (0 : Int))
 l j).fst,
 (nthD
 ((0 : Int),
 (0 : Int))
 l j).snd))
 l.length) then
 N
 else (0 : Int))
 C
 (bif
 bothF
 (bif
 validF N
 (mkN
 (fun (j : Nat) =>
 ((nthD
 ((0 : Int),
 (0 : Int))
 l j).fst,
 (nthD
 ((0 : Int),
 (0 : Int))
 l j).snd))
 l.length) then
 N
 else (0 : Int))
 C
 (bif
 validF N
 (mkN
 (fun (j : Nat) =>
 ((nthD
 ((0 : Int),
 (0 : Int))
 l j).fst,
 (nthD
 ((0 : Int),
 (0 : Int))
 l j).snd))
 l.length) then
 N
 else (0 : Int))
 C then
 bif
 validF N
 (mkN
 (fun (j : Nat) =>
 ((nthD
 ((0 : Int),
 (0 : Int))
 l j).fst,
 (nthD
 ((0 : Int),
 (0 : Int))
 l j).snd))
 l.length) then
 N
 else (0 : Int)
 else (0 : Int))
 D) =
 false →
 mkN
 (fun (j : Nat) =>
 ((nthD ((0 : Int), (0 : Int)) C
 j).fst,
 (nthD ((0 : Int), (0 : Int)) C
 j).snd))
 (AV.ps C).len =
 C) ∧
 (((bif
 bothF
 (bif
 validF N
 (mkN
 (fun (j : Nat) =>
 ((nthD
 ((0 : Int),
 (0 : Int))
 l j).fst,
 (nthD
 ((0 : Int),
 (0 : Int))
 l j).snd))
 l.length) then
 N
 else (0 : Int))
 C
 (bif
 validF N
 (mkN
 (fun (j : Nat) =>
 ((nthD
 ((0 : Int),
 (0 : Int))
 l j).fst,
 (nthD
 ((0 : Int),
 (0 : Int))
 l j).snd))
 l.length) then
 N
 else (0 : Int))
 C then
 (0 : Int)
 else (1 : Int)) !=
 (0 : Int) ||
 !witF
 (bif
 validF N
 (mkN
 (fun (j : Nat) =>
 ((nthD
 ((0 : Int),
 (0 : Int))
 l j).fst,
 (nthD
 ((0 : Int),
 (0 : Int))
 l j).snd))
 l.length) then
 N
 else (0 : Int))
 C N
 (mkN
 (fun (j : Nat) =>
 ((nthD
 ((0 : Int), (0 : Int))
 l j).fst,
 (nthD
 ((0 : Int), (0 : Int))
 l j).snd))
 l.length) ||
 !witF
 (bif
 validF N
 (mkN
 (fun (j : Nat) =>
 ((nthD
 ((0 : Int),
 (0 : Int))
 l j).fst,
 (nthD
 ((0 : Int),
 (0 : Int))
 l j).snd))
 l.length) then
 N
 else (0 : Int))
 C
 (bif
 bothF
 (bif
 validF N
 (mkN
 (fun (j : Nat) =>
 ((nthD
 ((0 : Int),
 (0 : Int))
 l j).fst,
 (nthD
 ((0 : Int),
 (0 : Int))
 l j).snd))
 l.length) then
 N
 else (0 : Int))
 C
 (bif
 validF N
 (mkN
 (fun (j : Nat) =>
 ((nthD
 ((0 : Int),
 (0 : Int))
 l j).fst,
 (nthD
 ((0 : Int),
 (0 : Int))
 l j).snd))
 l.length) then
 N
 else (0 : Int))
 C then
 bif
 validF N
 (mkN
 (fun (j : Nat) =>
 ((nthD
 ((0 : Int),
 (0 : Int))
 l j).fst,
 (nthD
 ((0 : Int),
 (0 : Int))
 l j).snd))
 l.length) then
 N
 else (0 : Int)
 else (0 : Int))
 D) =
 false →
 CC.length ≤ (1099511627776 : Nat)) ∧
 (((bif
 bothF
 (bif
 validF N
 (mkN
 (fun (j : Nat) =>
 ((nthD
 ((0 :
 Int),
 (0 :
 Int))
 l j).fst,
 (nthD
 ((0 :
 Int),
 (0 :
 Int))
 l j).snd))
 l.length) then
 N
 else (0 : Int))
 C
 (bif
 validF N
 (mkN
 (fun (j : Nat) =>
 ((nthD
 ((0 :
 Int),
 (0 :
 Int))
 l j).fst,
 (nthD
 ((0 :
 Int),
 (0 :
 Int))
 l j).snd))
 l.length) then
 N
 else (0 : Int))
 C then
 (0 : Int)
 else (1 : Int)) !=
 (0 : Int) ||
 !witF
 (bif
 validF N
 (mkN
 (fun (j : Nat) =>
 ((nthD
 ((0 : Int),
 (0 : Int))
 l j).fst,
 (nthD
 ((0 : Int),
 (0 : Int))
 l j).snd))
 l.length) then
 N
 else (0 : Int))
 C N
 (mkN
 (fun (j : Nat) =>
 ((nthD
 ((0 : Int),
 (0 : Int))
 l j).fst,
 (nthD
 ((0 : Int),
 (0 : Int))
 l j).snd))
 l.length) ||
 !witF
 (bif
 validF N
 (mkN
 (fun (j : Nat) =>
 ((nthD
 ((0 : Int),
 (0 : Int))
 l j).fst,
 (nthD
 ((0 : Int),
 (0 : Int))
 l j).snd))
 l.length) then
 N
 else (0 : Int))
 C
 (bif
 bothF
 (bif
 validF N
 (mkN
 (fun (j : Nat) =>
 ((nthD
 ((0 :
 Int),
 (0 :
 Int))
 l j).fst,
 (nthD
 ((0 :
 Int),
 (0 :
 Int))
 l j).snd))
 l.length) then
 N
 else (0 : Int))
 C
 (bif
 validF N
 (mkN
 (fun (j : Nat) =>
 ((nthD
 ((0 :
 Int),
 (0 :
 Int))
 l j).fst,
 (nthD
 ((0 :
 Int),
 (0 :
 Int))
 l j).snd))
 l.length) then
 N
 else (0 : Int))
 C then
 bif
 validF N
 (mkN
 (fun (j : Nat) =>
 ((nthD
 ((0 : Int),
 (0 : Int))
 l j).fst,
 (nthD
 ((0 : Int),
 (0 : Int))
 l j).snd))
 l.length) then
 N
 else (0 : Int)
 else (0 : Int))
 D) =
 false →
 C.length ≤ (1099511627776 : Nat)) ∧
 (((bif
 bothF
 (bif
 validF N
 (mkN
 (fun
 (j :
 Nat) =>
 ((nthD
 ((0 :
 Int),
 (0 :
 Int))
 l
 j).fst,
 (nthD
 ((0 :
 Int),
 (0 :
 Int))
 l
 j).snd))
 l.length) then
 N
 else (0 : Int))
 C
 (bif
 validF N
 (mkN
 (fun
 (j :
 Nat) =>
 ((nthD
 ((0 :
 Int),
 (0 :
 Int))
 l
 j).fst,
 (nthD
 ((0 :
 Int),
 (0 :
 Int))
 l
 j).snd))
 l.length) then
 N
 else (0 : Int))
 C then
 (0 : Int)
 else (1 : Int)) !=
 (0 : Int) ||
 !witF
 (bif
 validF N
 (mkN
 (fun (j : Nat) =>
 ((nthD
 ((0 :
 Int),
 (0 :
 Int))
 l j).fst,
 (nthD
 ((0 :
 Int),
 (0 :
 Int))
 l j).snd))
 l.length) then
 N
 else (0 : Int))
 C N
 (mkN
 (fun (j : Nat) =>
 ((nthD
 ((0 : Int),
 (0 : Int))
 l j).fst,
 (nthD
 ((0 : Int),
 (0 : Int))
 l j).snd))
 l.length) ||
 !witF
 (bif
 validF N
 (mkN
 (fun (j : Nat) =>
 ((nthD
 ((0 : Int),
 (0 : Int))
 l j).fst,
 (nthD
 ((0 : Int),
 (0 : Int))
 l j).snd))
 l.length) then
 N
 else (0 : Int))
 C
 (bif
 bothF
 (bif
 validF N
 (mkN
 (fun
 (j :
 Nat) =>
 ((nthD
 ((0 :
 Int),
 (0 :
 Int))
 l
 j).fst,
 (nthD
 ((0 :
 Int),
 (0 :
 Int))
 l
 j).snd))
 l.length) then
 N
 else (0 : Int))
 C
 (bif
 validF N
 (mkN
 (fun
 (j :
 Nat) =>
 ((nthD
 ((0 :
 Int),
 (0 :
 Int))
 l
 j).fst,
 (nthD
 ((0 :
 Int),
 (0 :
 Int))
 l
 j).snd))
 l.length) then
 N
 else (0 : Int))
 C then
 bif
 validF N
 (mkN
 (fun (j : Nat) =>
 ((nthD
 ((0 :
 Int),
 (0 :
 Int))
 l j).fst,
 (nthD
 ((0 :
 Int),
 (0 :
 Int))
 l j).snd))
 l.length) then
 N
 else (0 : Int)
 else (0 : Int))
 D ||
 !sameF
 (bif
 validF
 (bif
 validF N
 (mkN
 (fun
 (j : Nat) =>
 ((nthD
 ((0 :
 Int),
 (0 :
 Int))
 l
 j).fst,
 (nthD
 ((0 :
 Int),
 (0 :
 Int))
 l
 j).snd))
 l.length) then
 N
 else (0 : Int))
 C then
 bif
 validF N
 (mkN
 (fun (j : Nat) =>
 ((nthD
 ((0 : Int),
 (0 : Int))
 l j).fst,
 (nthD
 ((0 : Int),
 (0 : Int))
 l j).snd))
 l.length) then
 N
 else (0 : Int)
 else (0 : Int))
 CC
 (bif
 validF N
 (mkN
 (fun (j : Nat) =>
 ((nthD
 ((0 : Int),
 (0 : Int))
 l j).fst,
 (nthD
 ((0 : Int),
 (0 : Int))
 l j).snd))
 l.length) then
 N
 else (0 : Int))
 C) =
 true →
 false = true) ∧
 (((bif
 bothF
 (bif
 validF N
 (mkN
 (fun
 (j :
 Nat) =>
 ((nthD
 ((0 :
 Int),
 (0 :
 Int))
 l
 j).fst,
 (nthD
 ((0 :
 Int),
 (0 :
 Int))
 l
 j).snd))
 l.length) then
 N
 else (0 : Int))
 C
 (bif
 validF N
 (mkN
 (fun
 (j :
 Nat) =>
 ((nthD
 ((0 :
 Int),
 (0 :
 Int))
 l
 j).fst,
 (nthD
 ((0 :
 Int),
 (0 :
 Int))
 l
 j).snd))
 l.length) then
 N
 else (0 : Int))
 C then
 (0 : Int)
 else (1 : Int)) !=
 (0 : Int) ||
 !witF
 (bif
 validF N
 (mkN
 (fun (j : Nat) =>
 ((nthD
 ((0 :
 Int),
 (0 :
 Int))
 l j).fst,
 (nthD
 ((0 :
 Int),
 (0 :
 Int))
 l j).snd))
 l.length) then
 N
 else (0 : Int))
 C N
 (mkN
 (fun (j : Nat) =>
 ((nthD
 ((0 : Int),
 (0 : Int))
 l j).fst,
 (nthD
 ((0 : Int),
 (0 : Int))
 l j).snd))
 l.length) ||
 !witF
 (bif
 validF N
 (mkN
 (fun (j : Nat) =>
 ((nthD
 ((0 : Int),
 (0 : Int))
 l j).fst,
 (nthD
 ((0 : Int),
 (0 : Int))
 l j).snd))
 l.length) then
 N
 else (0 : Int))
 C
 (bif
 bothF
 (bif
 validF N
 (mkN
 (fun
 (j :
 Nat) =>
 ((nthD
 ((0 :
 Int),
 (0 :
 Int))
 l
 j).fst,
 (nthD
 ((0 :
 Int),
 (0 :
 Int))
 l
 j).snd))
 l.length) then
 N
 else (0 : Int))
 C
 (bif
 validF N
 (mkN
 (fun
 (j :
 Nat) =>
 ((nthD
 ((0 :
 Int),
 (0 :
 Int))
 l
 j).fst,
 (nthD
 ((0 :
 Int),
 (0 :
 Int))
 l
 j).snd))
 l.length) then
 N
 else (0 : Int))
 C then
 bif
 validF N
 (mkN
 (fun (j : Nat) =>
 ((nthD
 ((0 :
 Int),
 (0 :
 Int))
 l j).fst,
 (nthD
 ((0 :
 Int),
 (0 :
 Int))
 l j).snd))
 l.length) then
 N
 else (0 : Int)
 else (0 : Int))
 D ||
 !sameF
 (bif
 validF
 (bif
 validF N
 (mkN
 (fun
 (j : Nat) =>
 ((nthD
 ((0 :
 Int),
 (0 :
 Int))
 l
 j).fst,
 (nthD
 ((0 :
 Int),
 (0 :
 Int))
 l
 j).snd))
 l.length) then
 N
 else (0 : Int))
 C then
 bif
 validF N
 (mkN
 (fun (j : Nat) =>
 ((nthD
 ((0 : Int),
 (0 : Int))
 l j).fst,
 (nthD
 ((0 : Int),
 (0 : Int))
 l j).snd))
 l.length) then
 N
 else (0 : Int)
 else (0 : Int))
 CC
 (bif
 validF N
 (mkN
 (fun (j : Nat) =>
 ((nthD
 ((0 : Int),
 (0 : Int))
 l j).fst,
 (nthD
 ((0 : Int),
 (0 : Int))
 l j).snd))
 l.length) then
 N
 else (0 : Int))
 C) =
 false →
 l.length = l.length ∧
 (AV.ps C).len = (AV.ps C).len ∧
 mkN
 (fun (j : Nat) =>
 ((nthD
 ((0 : Int),
 (0 : Int))
 C j).fst,
 (nthD
 ((0 : Int),
 (0 : Int))
 C j).snd))
 (AV.ps C).len =
 C ∧
 (mkN
 (fun (j : Nat) =>
 ((nthD
 ((0 : Int),
 (0 : Int))
 l j).fst,
 (nthD
 ((0 : Int),
 (0 : Int))
 l j).snd))
 l.length).length ≤
 (1099511627776 : Nat) ∧
 C.length ≤
 (1099511627776 : Nat) ∧
 (bif
 bothF N
 (mkN
 (fun
 (j : Nat) =>
 ((nthD
 ((0 :
 Int),
 (0 :
 Int))
 l
 j).fst,
 (nthD
 ((0 :
 Int),
 (0 :
 Int))
 l
 j).snd))
 l.length)
 (bif
 validF N
 (mkN
 (fun
 (j :
 Nat) =>
 ((nthD
 ((0 :
 Int),
 (0 :
 Int))
 l
 j).fst,
 (nthD
 ((0 :
 Int),
 (0 :
 Int))
 l
 j).snd))
 l.length) then
 N
 else (0 : Int))
 C then
 normL N
 (cmpK
 (setF
 (mkN
 (fun
 (j :
 Nat) =>
 ((nthD
 ((0 :
 Int),
 (0 :
 Int))
 l
 j).fst,
 (nthD
 ((0 :
 Int),
 (0 :
 Int))
 l
 j).snd))
 l.length))
 (setF C) N.toNat)
 else []) =
 X ∧
 l.length = l.length ∧
 (AV.ps X).len =
 (AV.ps X).len ∧
 mkN
 (fun
 (j : Nat) =>
 ((nthD
 ((0 :
 Int),
 (0 :
 Int))
 X
 j).fst,
 (nthD
 ((0 :
 Int),
 (0 :
 Int))
 X
 j).snd))
 (AV.ps X).len =
 X ∧
 (mkN
 (fun
 (j :
 Nat) =>
 ((nthD
 ((0 :
 Int),
 (0 :
 Int))
 l
 j).fst,
 (nthD
 ((0 :
 Int),
 (0 :
 Int))
 l
 j).snd))
 l.length).length ≤
 (1099511627776 :
 Nat) ∧
 X.length ≤
 (1099511627776 :
 Nat) ∧
 (mkN
 (fun
 (j :
 Nat) =>
 ((nthD
 ((0 :
 Int),
 (0 :
 Int))
 l
 j).fst,
 (nthD
 ((0 :
 Int),
 (0 :
 Int))
 l
 j).snd))
 l.length ++
 X).length ≤
 (1099511627776 :
 Nat) ∧
 (bif
 bothF
 N
 (mkN
 (fun
 (j :
 Nat) =>
 ((nthD
 ((0 :
 Int),
 (0 :
 Int))
 l
 j).fst,
 (nthD
 ((0 :
 Int),
 (0 :
 Int))
 l
 j).snd))
 l.length)
 (bif
 bothF
 N
 (mkN
 (fun
 (j :
 Nat) =>
 ((nthD
 ((0 :
 Int),
 (0 :
 Int))
 l
 j).fst,
 (nthD
 ((0 :
 Int),
 (0 :
 Int))
 l
 j).snd))
 l.length)
 (bif
 validF
 N
 (mkN
 (fun
 (j :
 Nat) =>
 ((nthD
 ((0 :
 Int),
 (0 :
 Int))
 l
 j).fst,
 (nthD
 ((0 :
 Int),
 (0 :
 Int))
 l
 j).snd))
 l.length) then
 N
 else
 (0 :
 Int))
 C then
 N
 else
 (0 :
 Int))
 X then
 normL N
 (setF
 (mkN
 (fun
 (j :
 Nat) =>
 ((nthD
 ((0 :
 Int),
 (0 :
 Int))
 l
 j).fst,
 (nthD
 ((0 :
 Int),
 (0 :
 Int))
 l
 j).snd))
 l.length ++
 X))
 else []) =
 Y ∧
 (((bif
 bothF
 N
 (mkN
 (fun
 (j :
 Nat) =>
 ((nthD
 ((0 :
 Int),
 (0 :
 Int))
 l
 j).fst,
 (nthD
 ((0 :
 Int),
 (0 :
 Int))
 l
 j).snd))
 l.length)
 (bif
 validF
 N
 (mkN
 (fun
 (j :
 Nat) =>
 ((nthD
 ((0 :
 Int),
 (0 :
 Int))
 l
 j).fst,
 (nthD
 ((0 :
 Int),
 (0 :
 Int))
 l
 j).snd))
 l.length) then
 N
 else
 (0 :
 Int))
 C then
 (0 :
 Int)
 else
 (1 :
 Int)) !=
 (0 :
 Int) ||
 (bif
 bothF
 N
 (mkN
 (fun
 (j :
 Nat) =>
 ((nthD
 ((0 :
 Int),
 (0 :
 Int))
 l
 j).fst,
 (nthD
 ((0 :
 Int),
 (0 :
 Int))
 l
 j).snd))
 l.length)
 (bif
 bothF
 N
 (mkN
 (fun
 (j :
 Nat) =>
 ((nthD
 ((0 :
 Int),
 (0 :
 Int))
 l
 j).fst,
 (nthD
 ((0 :
 Int),
 (0 :
 Int))
 l
 j).snd))
 l.length)
 (bif
 validF
 N
 (mkN
 (fun
 (j :
 Nat) =>
 ((nthD
 ((0 :
 Int),
 (0 :
 Int))
 l
 j).fst,
 (nthD
 ((0 :
 Int),
 (0 :
 Int))
 l
 j).snd))
 l.length) then
 N
 else
 (0 :
 Int))
 C then
 N
 else
 (0 :
 Int))
 X then
 (0 :
 Int)
 else
 (1 :
 Int)) !=
 (0 :
 Int)) =
 false →
 (AV.ps
 Y).len =
 (AV.ps
 Y).len) ∧
 (((bif
 bothF
 N
 (mkN
 (fun
 (j :
 Nat) =>
 ((nthD
 ((0 :
 Int),
 (0 :
 Int))
 l
 j).fst,
 (nthD
 ((0 :
 Int),
 (0 :
 Int))
 l
 j).snd))
 l.length)
 (bif
 validF
 N
 (mkN
 (fun
 (j :
 Nat) =>
 ((nthD
 ((0 :
 Int),
 (0 :
 Int))
 l
 j).fst,
 (nthD
 ((0 :
 Int),
 (0 :
 Int))
 l
 j).snd))
 l.length) then
 N
 else
 (0 :
 Int))
 C then
 (0 :
 Int)
 else
 (1 :
 Int)) !=
 (0 :
 Int) ||
 (bif
 bothF
 N
 (mkN
 (fun
 (j :
 Nat) =>
 ((nthD
 ((0 :
 Int),
 (0 :
 Int))
 l
 j).fst,
 (nthD
 ((0 :
 Int),
 (0 :
 Int))
 l
 j).snd))
 l.length)
 (bif
 bothF
 N
 (mkN
 (fun
 (j :
 Nat) =>
 ((nthD
 ((0 :
 Int),
 (0 :
 Int))
 l
 j).fst,
 (nthD
 ((0 :
 Int),
 (0 :
 Int))
 l
 j).snd))
 l.length)
 (bif
 validF
 N
 (mkN
 (fun
 (j :
 Nat) =>
 ((nthD
 ((0 :
 Int),
 (0 :
 Int))
 l
 j).fst,
 (nthD
 ((0 :
 Int),
 (0 :
 Int))
 l
 j).snd))
 l.length) then
 N
 else
 (0 :
 Int))
 C then
 N
 else
 (0 :
 Int))
 X then
 (0 :
 Int)
 else
 (1 :
 Int)) !=
 (0 :
 Int)) =
 false →
 (AV.ps
 C).len =
 (AV.ps
 C).len) ∧
 (((bif
 bothF
 N
 (mkN
 (fun
 (j :
 Nat) =>
 ((nthD
 ((0 :
 Int),
 (0 :
 Int))
 l
 j).fst,
 (nthD
 ((0 :
 Int),
 (0 :
 Int))
 l
 j).snd))
 l.length)
 (bif
 validF
 N
 (mkN
 (fun
 (j :
 Nat) =>
 ((nthD
 ((0 :
 Int),
 (0 :
 Int))
 l
 j).fst,
 (nthD
 ((0 :
 Int),
 (0 :
 Int))
 l
 j).snd))
 l.length) then
 N
 else
 (0 :
 Int))
 C then
 (0 :
 Int)
 else
 (1 :
 Int)) !=
 (0 :
 Int) ||
 (bif
 bothF
 N
 (mkN
 (fun
 (j :
 Nat) =>
 ((nthD
 ((0 :
 Int),
 (0 :
 Int))
 l
 j).fst,
 (nthD
 ((0 :
 Int),
 (0 :
 Int))
 l
 j).snd))
 l.length)
 (bif
 bothF
 N
 (mkN
 (fun
 (j :
 Nat) =>
 ((nthD
 ((0 :
 Int),
 (0 :
 Int))
 l
 j).fst,
 (nthD
 ((0 :
 Int),
 (0 :
 Int))
 l
 j).snd))
 l.length)
 (bif
 validF
 N
 (mkN
 (fun
 (j :
 Nat) =>
 ((nthD
 ((0 :
 Int),
 (0 :
 Int))
 l
 j).fst,
 (nthD
 ((0 :
 Int),
 (0 :
 Int))
 l
 j).snd))
 l.length) then
 N
 else
 (0 :
 Int))
 C then
 N
 else
 (0 :
 Int))
 X then
 (0 :
 Int)
 else
 (1 :
 Int)) !=
 (0 :
 Int)) =
 false →
 mkN
 (fun
 (j :
 Nat) =>
 ((nthD
 ((0 :
 Int),
 (0 :
 Int))
 Y
 j).fst,
 (nthD
 ((0 :
 Int),
 (0 :
 Int))
 Y
 j).snd))
 (AV.ps
 Y).len =
 Y) ∧
 (((bif
 bothF
 N
 (mkN
 (fun
 (j :
 Nat) =>
 ((nthD
 ((0 :
 Int),
 (0 :
 Int))
 l
 j).fst,
 (nthD
 ((0 :
 Int),
 (0 :
 Int))
 l
 j).snd))
 l.length)
 (bif
 validF
 N
 (mkN
 (fun
 (j :
 Nat) =>
 ((nthD
 ((0 :
 Int),
 (0 :
 Int))
 l
 j).fst,
 (nthD
 ((0 :
 Int),
 (0 :
 Int))
 l
 j).snd))
 l.length) then
 N
 else
 (0 :
 Int))
 C then
 (0 :
 Int)
 else
 (1 :
 Int)) !=
 (0 :
 Int) ||
 (bif
 bothF
 N
 (mkN
 (fun
 (j :
 Nat) =>
 ((nthD
 ((0 :
 Int),
 (0 :
 Int))
 l
 j).fst,
 (nthD
 ((0 :
 Int),
 (0 :
 Int))
 l
 j).snd))
 l.length)
 (bif
 bothF
 N
 (mkN
 (fun
 (j :
 Nat) =>
 ((nthD
 ((0 :
 Int),
 (0 :
 Int))
 l
 j).fst,
 (nthD
 ((0 :
 Int),
 (0 :
 Int))
 l
 j).snd))
 l.length)
 (bif
 validF
 N
 (mkN
 (fun
 (j :
 Nat) =>
 ((nthD
 ((0 :
 Int),
 (0 :
 Int))
 l
 j).fst,
 (nthD
 ((0 :
 Int),
 (0 :
 Int))
 l
 j).snd))
 l.length) then
 N
 else
 (0 :
 Int))
 C then
 N
 else
 (0 :
 Int))
 X then
 (0 :
 Int)
 else
 (1 :
 Int)) !=
 (0 :
 Int)) =
 false →
 mkN
 (fun
 (j :
 Nat) =>
 ((nthD
 ((0 :
 Int),
 (0 :
 Int))
 C
 j).fst,
 (nthD
 ((0 :
 Int),
 (0 :
 Int))
 C
 j).snd))
 (AV.ps
 C).len =
 C) ∧
 (((bif
 bothF
 N
 (mkN
 (fun
 (j :
 Nat) =>
 ((nthD
 ((0 :
 Int),
 (0 :
 Int))
 l
 j).fst,
 (nthD
 ((0 :
 Int),
 (0 :
 Int))
 l
 j).snd))
 l.length)
 (bif
 validF
 N
 (mkN
 (fun
 (j :
 Nat) =>
 ((nthD
 ((0 :
 Int),
 (0 :
 Int))
 l
 j).fst,
 (nthD
 ((0 :
 Int),
 (0 :
 Int))
 l
 j).snd))
 l.length) then
 N
 else
 (0 :
 Int))
 C then
 (0 :
 Int)
 else
 (1 :
 Int)) !=
 (0 :
 Int) ||
 (bif
 bothF
 N
 (mkN
 (fun
 (j :
 Nat) =>
 ((nthD
 ((0 :
 Int),
 (0 :
 Int))
 l
 j).fst,
 (nthD
 ((0 :
 Int),
 (0 :
 Int))
 l
 j).snd))
 l.length)
 (bif
 bothF
 N
 (mkN
 (fun
 (j :
 Nat) =>
 ((nthD
 ((0 :
 Int),
 (0 :
 Int))
 l
 j).fst,
 (nthD
 ((0 :
 Int),
 (0 :
 Int))
 l
 j).snd))
 l.length)
 (bif
 validF
 N
 (mkN
 (fun
 (j :
 Nat) =>
 ((nthD
 ((0 :
 Int),
 (0 :
 Int))
 l
 j).fst,
 (nthD
 ((0 :
 Int),
 (0 :
 Int))
 l
 j).snd))
 l.length) then
 N
 else
 (0 :
 Int))
 C then
 N
 else
 (0 :
 Int))
 X then
 (0 :
 Int)
 else
 (1 :
 Int)) !=
 (0 :
 Int)) =
 false →
 Y.length ≤
 (1099511627776 :
 Nat)) ∧
 (((bif
 bothF
 N
 (mkN
 (fun
 (j :
 Nat) =>
 ((nthD
 ((0 :
 Int),
 (0 :
 Int))
 l
 j).fst,
 (nthD
 ((0 :
 Int),
 (0 :
 Int))
 l
 j).snd))
 l.length)
 (bif
 validF
 N
 (mkN
 (fun
 (j :
 Nat) =>
 ((nthD
 ((0 :
 Int),
 (0 :
 Int))
 l
 j).fst,
 (nthD
 ((0 :
 Int),
 (0 :
 Int))
 l
 j).snd))
 l.length) then
 N
 else
 (0 :
 Int))
 C then
 (0 :
 Int)
 else
 (1 :
 Int)) !=
 (0 :
 Int) ||
 (bif
 bothF
 N
 (mkN
 (fun
 (j :
 Nat) =>
 ((nthD
 ((0 :
 Int),
 (0 :
 Int))
 l
 j).fst,
 (nthD
 ((0 :
 Int),
 (0 :
 Int))
 l
 j).snd))
 l.length)
 (bif
 bothF
 N
 (mkN
 (fun
 (j :
 Nat) =>
 ((nthD
 ((0 :
 Int),
 (0 :
 Int))
 l
 j).fst,
 (nthD
 ((0 :
 Int),
 (0 :
 Int))
 l
 j).snd))
 l.length)
 (bif
 validF
 N
 (mkN
 (fun
 (j :
 Nat) =>
 ((nthD
 ((0 :
 Int),
 (0 :
 Int))
 l
 j).fst,
 (nthD
 ((0 :
 Int),
 (0 :
 Int))
 l
 j).snd))
 l.length) then
 N
 else
 (0 :
 Int))
 C then
 N
 else
 (0 :
 Int))
 X then
 (0 :
 Int)
 else
 (1 :
 Int)) !=
 (0 :
 Int)) =
 false →
 C.length ≤
 (1099511627776 :
 Nat)) ∧
 (((bif
 bothF
 N
 (mkN
 (fun
 (j :
 Nat) =>
 ((nthD
 ((0 :
 Int),
 (0 :
 Int))
 l
 j).fst,
 (nthD
 ((0 :
 Int),
 (0 :
 Int))
 l
 j).snd))
 l.length)
 (bif
 validF
 N
 (mkN
 (fun
 (j :
 Nat) =>
 ((nthD
 ((0 :
 Int),
 (0 :
 Int))
 l
 j).fst,
 (nthD
 ((0 :
 Int),
 (0 :
 Int))
 l
 j).snd))
 l.length) then
 N
 else
 (0 :
 Int))
 C then
 (0 :
 Int)
 else
 (1 :
 Int)) !=
 (0 :
 Int) ||
 (bif
 bothF
 N
 (mkN
 (fun
 (j :
 Nat) =>
 ((nthD
 ((0 :
 Int),
 (0 :
 Int))
 l
 j).fst,
 (nthD
 ((0 :
 Int),
 (0 :
 Int))
 l
 j).snd))
 l.length)
 (bif
 bothF
 N
 (mkN
 (fun
 (j :
 Nat) =>
 ((nthD
 ((0 :
 Int),
 (0 :
 Int))
 l
 j).fst,
 (nthD
 ((0 :
 Int),
 (0 :
 Int))
 l
 j).snd))
 l.length)
 (bif
 validF
 N
 (mkN
 (fun
 (j :
 Nat) =>
 ((nthD
 ((0 :
 Int),
 (0 :
 Int))
 l
 j).fst,
 (nthD
 ((0 :
 Int),
 (0 :
 Int))
 l
 j).snd))
 l.length) then
 N
 else
 (0 :
 Int))
 C then
 N
 else
 (0 :
 Int))
 X then
 (0 :
 Int)
 else
 (1 :
 Int)) !=
 (0 :
 Int) ||
 !sameF
 (bif
 bothF
 N
 (mkN
 (fun
 (j :
 Nat) =>
 ((nthD
 ((0 :
 Int),
 (0 :
 Int))
 l
 j).fst,
 (nthD
 ((0 :
 Int),
 (0 :
 Int))
 l
 j).snd))
 l.length)
 (bif
 bothF
 N
 (mkN
 (fun
 (j :
 Nat) =>
 ((nthD
 ((0 :
 Int),
 (0 :
 Int))
 l
 j).fst,
 (nthD
 ((0 :
 Int),
 (0 :
 Int))
 l
 j).snd))
 l.length)
 (bif
 validF
 N
 (mkN
 (fun
 (j :
 Nat) =>
 ((nthD
 ((0 :
 Int),
 (0 :
 Int))
 l
 j).fst,
 (nthD
 ((0 :
 Int),
 (0 :
 Int))
 l
 j).snd))
 l.length) then
 N
 else
 (0 :
 Int))
 C then
 N
 else
 (0 :
 Int))
 X then
 N
 else
 (0 :
 Int))
 Y
 (bif
 validF
 N
 (mkN
 (fun
 (j :
 Nat) =>
 ((nthD
 ((0 :
 Int),
 (0 :
 Int))
 l
 j).fst,
 (nthD
 ((0 :
 Int),
 (0 :
 Int))
 l
 j).snd))
 l.length) then
 N
 else
 (0 :
 Int))
 C) =
 true →
 false =
 true) ∧
 (((bif
 bothF
 N
 (mkN
 (fun
 (j :
 Nat) =>
 ((nthD
 ((0 :
 Int),
 (0 :
 Int))
 l
 j).fst,
 (nthD
 ((0 :
 Int),
 (0 :
 Int))
 l
 j).snd))
 l.length)
 (bif
 validF
 N
 (mkN
 (fun
 (j :
 Nat) =>
 ((nthD
 ((0 :
 Int),
 (0 :
 Int))
 l
 j).fst,
 (nthD
 ((0 :
 Int),
 (0 :
 Int))
 l
 j).snd))
 l.length) then
 N
 else
 (0 :
 Int))
 C then
 (0 :
 Int)
 else
 (1 :
 Int)) !=
 (0 :
 Int) ||
 (bif
 bothF
 N
 (mkN
 (fun
 (j :
 Nat) =>
 ((nthD
 ((0 :
 Int),
 (0 :
 Int))
 l
 j).fst,
 (nthD
 ((0 :
 Int),
 (0 :
 Int))
 l
 j).snd))
 l.length)
 (bif
 bothF
 N
 (mkN
 (fun
 (j :
 Nat) =>
 ((nthD
 ((0 :
 Int),
 (0 :
 Int))
 l
 j).fst,
 (nthD
 ((0 :
 Int),
 (0 :
 Int))
 l
 j).snd))
 l.length)
 (bif
 validF
 N
 (mkN
 (fun
 (j :
 Nat) =>
 ((nthD
 ((0 :
 Int),
 (0 :
 Int))
 l
 j).fst,
 (nthD
 ((0 :
 Int),
 (0 :
 Int))
 l
 j).snd))
 l.length) then
 N
 else
 (0 :
 Int))
 C then
 N
 else
 (0 :
 Int))
 X then
 (0 :
 Int)
 else
 (1 :
 Int)) !=
 (0 :
 Int) ||
 !sameF
 (bif
 bothF
 N
 (mkN
 (fun
 (j :
 Nat) =>
 ((nthD
 ((0 :
 Int),
 (0 :
 Int))
 l
 j).fst,
 (nthD
 ((0 :
 Int),
 (0 :
 Int))
 l
 j).snd))
 l.length)
 (bif
 bothF
 N
 (mkN
 (fun
 (j :
 Nat) =>
 ((nthD
 ((0 :
 Int),
 (0 :
 Int))
 l
 j).fst,
 (nthD
 ((0 :
 Int),
 (0 :
 Int))
 l
 j).snd))
 l.length)
 (bif
 validF
 N
 (mkN
 (fun
 (j :
 Nat) =>
 ((nthD
 ((0 :
 Int),
 (0 :
 Int))
 l
 j).fst,
 (nthD
 ((0 :
 Int),
 (0 :
 Int))
 l
 j).snd))
 l.length) then
 N
 else
 (0 :
 Int))
 C then
 N
 else
 (0 :
 Int))
 X then
 N
 else
 (0 :
 Int))
 Y
 (bif
 validF
 N
 (mkN
 (fun
 (j :
 Nat) =>
 ((nthD
 ((0 :
 Int),
 (0 :
 Int))
 l
 j).fst,
 (nthD
 ((0 :
 Int),
 (0 :
 Int))
 l
 j).snd))
 l.length) then
 N
 else
 (0 :
 Int))
 C) =
 false →
 l.length =
 l.length ∧
 m.length =
 m.length ∧
 (mkN
 (fun
 (j :
 Nat) =>
 ((nthD
 ((0 :
 Int),
 (0 :
 Int))
 l
 j).fst,
 (nthD
 ((0 :
 Int),
 (0 :
 Int))
 l
 j).snd))
 l.length).length ≤
 (1099511627776 :
 Nat) ∧
 (mkN
 (fun
 (j :
 Nat) =>
 ((nthD
 ((0 :
 Int),
 (0 :
 Int))
 m
 j).fst,
 (nthD
 ((0 :
 Int),
 (0 :
 Int))
 m
 j).snd))
 m.length).length ≤
 (1099511627776 :
 Nat) ∧
 (mkN
 (fun
 (j :
 Nat) =>
 ((nthD
 ((0 :
 Int),
 (0 :
 Int))
 l
 j).fst,
 (nthD
 ((0 :
 Int),
 (0 :
 Int))
 l
 j).snd))
 l.length ++
 mkN
 (fun
 (j :
 Nat) =>
 ((nthD
 ((0 :
 Int),
 (0 :
 Int))
 m
 j).fst,
 (nthD
 ((0 :
 Int),
 (0 :
 Int))
 m
 j).snd))
 m.length).length ≤
 (1099511627776 :
 Nat) ∧
 (bif
 bothF
 N
 (mkN
 (fun
 (j :
 Nat) =>
 ((nthD
 ((0 :
 Int),
 (0 :
 Int))
 l
 j).fst,
 (nthD
 ((0 :
 Int),
 (0 :
 Int))
 l
 j).snd))
 l.length)
 M
 (mkN
 (fun
 (j :
 Nat) =>
 ((nthD
 ((0 :
 Int),
 (0 :
 Int))
 m
 j).fst,
 (nthD
 ((0 :
 Int),
 (0 :
 Int))
 m
 j).snd))
 m.length) then
 normL
 N
 (setF
 (mkN
 (fun
 (j :
 Nat) =>
 ((nthD
 ((0 :
 Int),
 (0 :
 Int))
 l
 j).fst,
 (nthD
 ((0 :
 Int),
 (0 :
 Int))
 l
 j).snd))
 l.length ++
 mkN
 (fun
 (j :
 Nat) =>
 ((nthD
 ((0 :
 Int),
 (0 :
 Int))
 m
 j).fst,
 (nthD
 ((0 :
 Int),
 (0 :
 Int))
 m
 j).snd))
 m.length))
 else
 []) =
 U ∧
 (((bif
 bothF
 N
 (mkN
 (fun
 (j :
 Nat) =>
 ((nthD
 ((0 :
 Int),
 (0 :
 Int))
 l
 j).fst,
 (nthD
 ((0 :
 Int),
 (0 :
 Int))
 l
 j).snd))
 l.length)
 M
 (mkN
 (fun
 (j :
 Nat) =>
 ((nthD
 ((0 :
 Int),
 (0 :
 Int))
 m
 j).fst,
 (nthD
 ((0 :
 Int),
 (0 :
 Int))
 m
 j).snd))
 m.length) then
 (0 :
 Int)
 else
 (1 :
 Int)) ==
 (0 :
 Int)) =
 true →
 (AV.ps
 U).len =
 (AV.ps
 U).len) ∧
 (((bif
 bothF
 N
 (mkN
 (fun
 (j :
 Nat) =>
 ((nthD
 ((0 :
 Int),
 (0 :
 Int))
 l
 j).fst,
 (nthD
 ((0 :
 Int),
 (0 :
 Int))
 l
 j).snd))
 l.length)
 M
 (mkN
 (fun
 (j :
 Nat) =>
 ((nthD
 ((0 :
 Int),
 (0 :
 Int))
 m
 j).fst,
 (nthD
 ((0 :
 Int),
 (0 :
 Int))
 m
 j).snd))
 m.length) then
 (0 :
 Int)
 else
 (1 :
 Int)) ==
 (0 :
 Int)) =
 true →
 mkN
 (fun
 (j :
 Nat) =>
 ((nthD
 ((0 :
 Int),
 (0 :
 Int))
 U
 j).fst,
 (nthD
 ((0 :
 Int),
 (0 :
 Int))
 U
 j).snd))
 (AV.ps
 U).len =
 U) ∧
 (((bif
 bothF
 N
 (mkN
 (fun
 (j :
 Nat) =>
 ((nthD
 ((0 :
 Int),
 (0 :
 Int))
 l
 j).fst,
 (nthD
 ((0 :
 Int),
 (0 :
 Int))
 l
 j).snd))
 l.length)
 M
 (mkN
 (fun
 (j :
 Nat) =>
 ((nthD
 ((0 :
 Int),
 (0 :
 Int))
 m
 j).fst,
 (nthD
 ((0 :
 Int),
 (0 :
 Int))
 m
 j).snd))
 m.length) then
 (0 :
 Int)
 else
 (1 :
 Int)) ==
 (0 :
 Int)) =
 true →
 U.length ≤
 (1099511627776 :
 Nat)) ∧
 (((bif
 bothF
 N
 (mkN
 (fun
 (j :
 Nat) =>
 ((nthD
 ((0 :
 Int),
 (0 :
 Int))
 l
 j).fst,
 (nthD
 ((0 :
 Int),
 (0 :
 Int))
 l
 j).snd))
 l.length)
 M
 (mkN
 (fun
 (j :
 Nat) =>
 ((nthD
 ((0 :
 Int),
 (0 :
 Int))
 m
 j).fst,
 (nthD
 ((0 :
 Int),
 (0 :
 Int))
 m
 j).snd))
 m.length) then
 (0 :
 Int)
 else
 (1 :
 Int)) ==
 (0 :
 Int)) =
 true →
 (bif
 validF
 (bif
 bothF
 N
 (mkN
 (fun
 (j :
 Nat) =>
 ((nthD
 ((0 :
 Int),
 (0 :
 Int))
 l
 j).fst,
 (nthD
 ((0 :
 Int),
 (0 :
 Int))
 l
 j).snd))
 l.length)
 M
 (mkN
 (fun
 (j :
 Nat) =>
 ((nthD
 ((0 :
 Int),
 (0 :
 Int))
 m
 j).fst,
 (nthD
 ((0 :
 Int),
 (0 :
 Int))
 m
 j).snd))
 m.length) then
 N
 else
 (0 :
 Int))
 U then
 normL
 (bif
 bothF
 N
 (mkN
 (fun
 (j :
 Nat) =>
 ((nthD
 ((0 :
 Int),
 (0 :
 Int))
 l
 j).fst,
 (nthD
 ((0 :
 Int),
 (0 :
 Int))
 l
 j).snd))
 l.length)
 M
 (mkN
 (fun
 (j :
 Nat) =>
 ((nthD
 ((0 :
 Int),
 (0 :
 Int))
 m
 j).fst,
 (nthD
 ((0 :
 Int),
 (0 :
 Int))
 m
 j).snd))
 m.length) then
 N
 else
 (0 :
 Int))
 (wF
 (setF
 U)
 (bif
 bothF
 N
 (mkN
 (fun
 (j :
 Nat) =>
 ((nthD
 ((0 :
 Int),
 (0 :
 Int))
 l
 j).fst,
 (nthD
 ((0 :
 Int),
 (0 :
 Int))
 l
 j).snd))
 l.length)
 M
 (mkN
 (fun
 (j :
 Nat) =>
 ((nthD
 ((0 :
 Int),
 (0 :
 Int))
 m
 j).fst,
 (nthD
 ((0 :
 Int),
 (0 :
 Int))
 m
 j).snd))
 m.length) then
 N
 else
 (0 :
 Int)).toNat)
 else
 []) =
 CU) ∧
 (((bif
 bothF
 N
 (mkN
 (fun
 (j :
 Nat) =>
 ((nthD
 ((0 :
 Int),
 (0 :
 Int))
 l
 j).fst,
 (nthD
 ((0 :
 Int),
 (0 :
 Int))
 l
 j).snd))
 l.length)
 M
 (mkN
 (fun
 (j :
 Nat) =>
 ((nthD
 ((0 :
 Int),
 (0 :
 Int))
 m
 j).fst,
 (nthD
 ((0 :
 Int),
 (0 :
 Int))
 m
 j).snd))
 m.length) then
 (0 :
 Int)
 else
 (1 :
 Int)) ==
 (0 :
 Int)) =
 true →
 (AV.ps
 CU).len =
 (AV.ps
 CU).len) ∧
 (((bif
 bothF
 N
 (mkN
 (fun
 (j :
 Nat) =>
 ((nthD
 ((0 :
 Int),
 (0 :
 Int))
 l
 j).fst,
 (nthD
 ((0 :
 Int),
 (0 :
 Int))
 l
 j).snd))
 l.length)
 M
 (mkN
 (fun
 (j :
 Nat) =>
 ((nthD
 ((0 :
 Int),
 (0 :
 Int))
 m
 j).fst,
 (nthD
 ((0 :
 Int),
 (0 :
 Int))
 m
 j).snd))
 m.length) then
 (0 :
 Int)
 else
 (1 :
 Int)) ==
 (0 :
 Int)) =
 true →
 (AV.ps
 C).len =
 (AV.ps
 C).len) ∧
 (((bif
 bothF
 N
 (mkN
 (fun
 (j :
 Nat) =>
 ((nthD
 ((0 :
 Int),
 (0 :
 Int))
 l
 j).fst,
 (nthD
 ((0 :
 Int),
 (0 :
 Int))
 l
 j).snd))
 l.length)
 M
 (mkN
 (fun
 (j :
 Nat) =>
 ((nthD
 ((0 :
 Int),
 (0 :
 Int))
 m
 j).fst,
 (nthD
 ((0 :
 Int),
 (0 :
 Int))
 m
 j).snd))
 m.length) then
 (0 :
 Int)
 else
 (1 :
 Int)) ==
 (0 :
 Int)) =
 true →
 mkN
 (fun
 (j :
 Nat) =>
 ((nthD
 ((0 :
 Int),
 (0 :
 Int))
 CU
 j).fst,
 (nthD
 ((0 :
 Int),
 (0 :
 Int))
 CU
 j).snd))
 (AV.ps
 CU).len =
 CU) ∧
 (((bif
 bothF
 N
 (mkN
 (fun
 (j :
 Nat) =>
 ((nthD
 ((0 :
 Int),
 (0 :
 Int))
 l
 j).fst,
 (nthD
 ((0 :
 Int),
 (0 :
 Int))
 l
 j).snd))
 l.length)
 M
 (mkN
 (fun
 (j :
 Nat) =>
 ((nthD
 ((0 :
 Int),
 (0 :
 Int))
 m
 j).fst,
 (nthD
 ((0 :
 Int),
 (0 :
 Int))
 m
 j).snd))
 m.length) then
 (0 :
 Int)
 else
 (1 :
 Int)) ==
 (0 :
 Int)) =
 true →
 mkN
 (fun
 (j :
 Nat) =>
 ((nthD
 ((0 :
 Int),
 (0 :
 Int))
 C
 j).fst,
 (nthD
 ((0 :
 Int),
 (0 :
 Int))
 C
 j).snd))
 (AV.ps
 C).len =
 C) ∧
 (((bif
 bothF
 N
 (mkN
 (fun
 (j :
 Nat) =>
 ((nthD
 ((0 :
 Int),
 (0 :
 Int))
 l
 j).fst,
 (nthD
 ((0 :
 Int),
 (0 :
 Int))
 l
 j).snd))
 l.length)
 M
 (mkN
 (fun
 (j :
 Nat) =>
 ((nthD
 ((0 :
 Int),
 (0 :
 Int))
 m
 j).fst,
 (nthD
 ((0 :
 Int),
 (0 :
 Int))
 m
 j).snd))
 m.length) then
 (0 :
 Int)
 else
 (1 :
 Int)) ==
 (0 :
 Int)) =
 true →
 CU.length ≤
 (1099511627776 :
 Nat)) ∧
 (((bif
 bothF
 N
 (mkN
 (fun
 (j :
 Nat) =>
 ((nthD
 ((0 :
 Int),
 (0 :
 Int))
 l
 j).fst,
 (nthD
 ((0 :
 Int),
 (0 :
 Int))
 l
 j).snd))
 l.length)
 M
 (mkN
 (fun
 (j :
 Nat) =>
 ((nthD
 ((0 :
 Int),
 (0 :
 Int))
 m
 j).fst,
 (nthD
 ((0 :
 Int),
 (0 :
 Int))
 m
 j).snd))
 m.length) then
 (0 :
 Int)
 else
 (1 :
 Int)) ==
 (0 :
 Int)) =
 true →
 C.length ≤
 (1099511627776 :
 Nat)) ∧
 (((bif
 bothF
 N
 (mkN
 (fun
 (j :
 Nat) =>
 ((nthD
 ((0 :
 Int),
 (0 :
 Int))
 l
 j).fst,
 (nthD
 ((0 :
 Int),
 (0 :
 Int))
 l
 j).snd))
 l.length)
 M
 (mkN
 (fun
 (j :
 Nat) =>
 ((nthD
 ((0 :
 Int),
 (0 :
 Int))
 m
 j).fst,
 (nthD
 ((0 :
 Int),
 (0 :
 Int))
 m
 j).snd))
 m.length) then
 (0 :
 Int)
 else
 (1 :
 Int)) ==
 (0 :
 Int)) =
 true →
 (CU ++
 C).length ≤
 (1099511627776 :
 Nat)) ∧
 ((bif
 bothF
 N
 (mkN
 (fun
 (j :
 Nat) =>
 ((nthD
 ((0 :
 Int),
 (0 :
 Int))
 l
 j).fst,
 (nthD
 ((0 :
 Int),
 (0 :
 Int))
 l
 j).snd))
 l.length)
 M
 (mkN
 (fun
 (j :
 Nat) =>
 ((nthD
 ((0 :
 Int),
 (0 :
 Int))
 m
 j).fst,
 (nthD
 ((0 :
 Int),
 (0 :
 Int))
 m
 j).snd))
 m.length) then
 (0 :
 Int)
 else
 (1 :
 Int)) ==
 (0 :
 Int) &&
 witF
 (bif
 validF
 (bif
 bothF
 N
 (mkN
 (fun
 (j :
 Nat) =>
 ((nthD
 ((0 :
 Int),
 (0 :
 Int))
 l
 j).fst,
 (nthD
 ((0 :
 Int),
 (0 :
 Int))
 l
 j).snd))
 l.length)
 M
 (mkN
 (fun
 (j :
 Nat) =>
 ((nthD
 ((0 :
 Int),
 (0 :
 Int))
 m
 j).fst,
 (nthD
 ((0 :
 Int),
 (0 :
 Int))
 m
 j).snd))
 m.length) then
 N
 else
 (0 :
 Int))
 U then
 bif
 bothF
 N
 (mkN
 (fun
 (j :
 Nat) =>
 ((nthD
 ((0 :
 Int),
 (0 :
 Int))
 l
 j).fst,
 (nthD
 ((0 :
 Int),
 (0 :
 Int))
 l
 j).snd))
 l.length)
 M
 (mkN
 (fun
 (j :
 Nat) =>
 ((nthD
 ((0 :
 Int),
 (0 :
 Int))
 m
 j).fst,
 (nthD
 ((0 :
 Int),
 (0 :
 Int))
 m
 j).snd))
 m.length) then
 N
 else
 (0 :
 Int)
 else
 (0 :
 Int))
 CU
 (bif
 validF
 N
 (mkN
 (fun
 (j :
 Nat) =>
 ((nthD
 ((0 :
 Int),
 (0 :
 Int))
 l
 j).fst,
 (nthD
 ((0 :
 Int),
 (0 :
 Int))
 l
 j).snd))
 l.length) then
 N
 else
 (0 :
 Int))
 C &&
 true) =
 true)))) := by kernel_rfl
theorem v7 (N : Int) (l : List Pq) (M : Int) (m : List Pq) (C D CC X Y U CU : List Pq) (hC : (bif validF N l then normL N (wF (setF l) N.toNat) else []) = C) (hD : (bif bothF (bif validF N l then N else 0) C (bif validF N l then N else 0) C then normL (bif validF N l then N else 0) (cmpK (setF C) (setF C) (bif validF N l then N else 0).toNat) else []) = D) (hCC : (bif validF (bif validF N l then N else 0) C then normL (bif validF N l then N else 0) (wF (setF C) (bif validF N l then N else 0).toNat) else []) = CC) (hX : (bif bothF N l (bif validF N l then N else 0) C then normL N (cmpK (setF l) (setF C) N.toNat) else []) = X) (hY : (bif bothF N l (bif bothF N l (bif validF N l then N else 0) C then N else 0) X then normL N (setF (l ++ X)) else []) = Y) (hU : (bif bothF N l M m then normL N (setF (l ++ m)) else []) = U) (hCU : (bif validF (bif bothF N l M m then N else 0) U then normL (bif bothF N l M m then N else 0) (wF (setF U) (bif bothF N l M m then N else 0).toNat) else []) = CU) : fnVc (tab [kExa [], kVal' [], kClo [none, none, none, none, o C, none, o D, none, o CC, o X, none, o Y, none, o U, none, o CU], kCmp [none, none, none, none, o C, none, o D, none, o CC, o X, none, o Y, none, o U, none, o CU], kWit [none, none, none, none, o C, none, o D, none, o CC, o X, none, o Y, none, o U, none, o CU], kSam [none, none, none, none, o C, none, o D, none, o CC, o X, none, o Y, none, o U, none, o CU], kUni [none, none, none, none, o C, none, o D, none, o CC, o X, none, o Y, none, o U, none, o CU]] []) Try.f7 [rlV N 0 l, rlV M 1 m] [arP l, arP m] (plainIs .tt) := by
  rw [v7_eq]
  simp only [eq_self, true_and, and_true, implies_true, imp_self, mkN_ps, mkN_rs, mkN_self, mkN_len, PLoop.of, lCnt, AV.len, lRdn]
  refine ⟨fun h => ?_, fun h => ?_, fun h => ?_⟩
  · rw [Bool.or_eq_false_iff] at h
    exact L9_300 (lt_of h.1)
  · simp only [Bool.or_eq_false_iff] at h
    exact L9_300 (lt_of h.1.2)
  · simp only [Bool.or_eq_false_iff, Bool.not_eq_false', bne_eq_false_iff_eq] at h
    obtain ⟨⟨⟨⟨hl1, hl2⟩, hv⟩, hm⟩, hNM⟩ := h
    subst hNM
    have g1 := lt_of hl1
    have g2 := lt_of hl2
    obtain ⟨h0, h1, _⟩ := validF_iff.1 hv
    have hs := sup_set hv
    have hsm := sup_set hm
    have hk := sup_wF hs
    simp only [hv, cond_true] at hC hD hCC hX hY hU hCU ⊢
    have eC : setF C = wF (setF l) N.toNat := by rw [← hC]; exact setF_norm h0 hk
    have vC : validF N C = true := by rw [← hC]; exact valid_norm h0 h1
    have bCC := both_of vC vC
    have blC := both_of hv vC
    simp only [vC, bCC, blC, cond_true, eC] at hD hCC hX hY ⊢
    have vD : validF N D = true := by rw [← hD]; exact valid_norm h0 h1
    have eD : setF D = cmpK (wF (setF l) N.toNat) (wF (setF l) N.toNat) N.toNat := by rw [← hD]; exact setF_norm h0 (sup_cmp hk hk)
    have vX : validF N X = true := by rw [← hX]; exact valid_norm h0 h1
    have eX : setF X = cmpK (setF l) (wF (setF l) N.toNat) N.toNat := by rw [← hX]; exact setF_norm h0 (sup_cmp hs hk)
    have blX := both_of hv vX
    have blm := both_of hv hm
    simp only [blX, blm, cond_true] at hY hU hCU ⊢
    have eU : setF U = setF (l ++ m) := by rw [← hU]; exact setF_norm h0 (sup_app hs hsm)
    have vU : validF N U = true := by rw [← hU]; exact valid_norm h0 h1
    simp only [vU, cond_true, eU] at hCU ⊢
    have vCU : validF N CU = true := by rw [← hCU]; exact valid_norm h0 h1
    have eCU : setF CU = wF (setF (l ++ m)) N.toNat := by rw [← hCU]; exact setF_norm h0 (sup_wF (sup_app hs hsm))
    have w1 : witF N C N l = true := wit_of vC hv fun x y hxy => by rw [eC]; exact wF_incl hxy
    have w2 : witF N C N D = true := wit_of vC vD fun x y hxy => by
      rw [eD, cmpK_iff hk] at hxy
      obtain ⟨z, z1, z2⟩ := hxy
      rw [eC]; exact wF_trans hs z1 z2
    have w3 : witF N CU N C = true := wit_of vCU vC fun x y hxy => by
      rw [eC, wF_iff hs] at hxy
      rw [eCU, wF_iff (sup_app hs hsm)]
      exact hxy.mono fun a b hab => by rw [setF_app, hab]; rfl
    have s1 : CC = C := by rw [← hCC, ← hC, wF_wF hs]
    have s2 : Y = C := by
      rw [← hY, ← hC]
      congr 1
      funext x y
      rw [setF_app, eX]
      exact wF_split hs
    have lC : C.length ≤ 4096 := by rw [← hC]; exact norm9 h1
    have lD : D.length ≤ 4096 := by rw [← hD]; exact norm9 h1
    have lX : X.length ≤ 4096 := by rw [← hX]; exact norm9 h1
    have lU : U.length ≤ 4096 := by rw [← hU]; exact norm9 h1
    have lCU : CU.length ≤ 4096 := by rw [← hCU]; exact norm9 h1
    have n1 : (C ++ l).length ≤ 1099511627776 := by rw [List.length_append]; omega
    have n2 : (C ++ D).length ≤ 1099511627776 := by rw [List.length_append]; omega
    have n3 : (l ++ X).length ≤ 1099511627776 := by rw [List.length_append]; omega
    have n4 : (l ++ m).length ≤ 1099511627776 := by rw [List.length_append]; omega
    have n5 : (CU ++ C).length ≤ 1099511627776 := by rw [List.length_append]; omega
    have m1 : l.length ≤ 1099511627776 := by omega
    have m2 : m.length ≤ 1099511627776 := by omega
    have m3 : C.length ≤ 1099511627776 := by omega
    have m4 : D.length ≤ 1099511627776 := by omega
    have m5 : X.length ≤ 1099511627776 := by omega
    have m6 : U.length ≤ 1099511627776 := by omega
    have m7 : CU.length ≤ 1099511627776 := by omega
    simp only [w1, w2, w3, s1, s2, sameF_refl, hC, hD, hCC, hX, hY, hU, hCU, n1, n2, n3, n4, n5, m1, m2, m3, m4, m5, m6, m7, Bool.not_true, Bool.or_false, bne_self_eq_false, beq_self_eq_true, true_and, and_true, implies_true, Bool.and_self]
    simp
theorem v6_eq (N : Int) (l : List Pq) (D C TW CD : List Pq) (L : List Int) : (fnVc (tab [kExa [], kVal' [], kRed [none, none, o D, none, some (.is L), o C, none, o TW, none, o CD], kCyc [none, none, o D, none, some (.is L), o C, none, o TW, none, o CD], kHas [none, none, o D, none, some (.is L), o C, none, o TW, none, o CD], kClo [none, none, o D, none, some (.is L), o C, none, o TW, none, o CD], kCmp [none, none, o D, none, some (.is L), o C, none, o TW, none, o CD], kSam [none, none, o D, none, some (.is L), o C, none, o TW, none, o CD]] [(0, .of (lRdn D N TW 80))]) Try.f6 [rlV N 0 l] [arP l] (plainIs .tt)) = ((decide ((↑l.length : Int) > (300 : Int)) = false → l.length = l.length) ∧
 (decide ((↑l.length : Int) > (300 : Int)) = false →
 (mkN (fun (j : Nat) => ((nthD ((0 : Int), (0 : Int)) l j).fst, (nthD ((0 : Int), (0 : Int)) l j).snd))
 l.length).length ≤
 (1099511627776 : Nat)) ∧
 ((decide ((↑l.length : Int) > (300 : Int)) ||
 !validF N
 (mkN (fun (j : Nat) => ((nthD ((0 : Int), (0 : Int)) l j).fst, (nthD ((0 : Int), (0 : Int)) l j).snd))
 l.length)) =
 true →
 true = true) ∧
 ((decide ((↑l.length : Int) > (300 : Int)) ||
 !validF N
 (mkN (fun (j : Nat) => ((nthD ((0 : Int), (0 : Int)) l j).fst, (nthD ((0 : Int), (0 : Int)) l j).snd))
 l.length)) =
 false →
 l.length = l.length ∧
 (mkN (fun (j : Nat) => ((nthD ((0 : Int), (0 : Int)) l j).fst, (nthD ((0 : Int), (0 : Int)) l j).snd))
 l.length).length ≤
 (1099511627776 : Nat) ∧
 (bif
 okR N
 (mkN
 (fun (j : Nat) =>
 ((nthD ((0 : Int), (0 : Int)) l j).fst, (nthD ((0 : Int), (0 : Int)) l j).snd))
 l.length) then
 redL N
 (mkN
 (fun (j : Nat) => ((nthD ((0 : Int), (0 : Int)) l j).fst, (nthD ((0 : Int), (0 : Int)) l j).snd))
 l.length)
 else []) =
 D ∧
 l.length = l.length ∧
 (mkN (fun (j : Nat) => ((nthD ((0 : Int), (0 : Int)) l j).fst, (nthD ((0 : Int), (0 : Int)) l j).snd))
 l.length).length ≤
 (1099511627776 : Nat) ∧
 cycL N
 (mkN
 (fun (j : Nat) =>
 ((nthD ((0 : Int), (0 : Int)) l j).fst, (nthD ((0 : Int), (0 : Int)) l j).snd))
 l.length) =
 L ∧
 (fndF N
 (mkN
 (fun (j : Nat) =>
 ((nthD ((0 : Int), (0 : Int)) l j).fst, (nthD ((0 : Int), (0 : Int)) l j).snd))
 l.length) =
 true →
 ((errR N
 (mkN
 (fun (j : Nat) =>
 ((nthD ((0 : Int), (0 : Int)) l j).fst, (nthD ((0 : Int), (0 : Int)) l j).snd))
 l.length) ==
 (20 : Int) &&
 decide ((↑(AV.is L).len : Int) > (0 : Int))) =
 true →
 (0 : Int) ≤ IntKind.i64.wrap ((↑(AV.is L).len : Int) - (1 : Int)) ∧
 IntKind.i64.wrap ((↑(AV.is L).len : Int) - (1 : Int)) < (↑(AV.is L).len : Int)) ∧
 ((errR N
 (mkN
 (fun (j : Nat) =>
 ((nthD ((0 : Int), (0 : Int)) l j).fst,
 (nthD ((0 : Int), (0 : Int)) l j).snd))
 l.length) ==
 (20 : Int) &&
 decide ((↑(AV.is L).len : Int) > (0 : Int))) =
 true →
 (IntKind.i64.wrap ((↑(AV.is L).len : Int) - (1 : Int))).toNat < (AV.is L).len) ∧
 ((errR N
 (mkN
 (fun (j : Nat) =>
 ((nthD ((0 : Int), (0 : Int)) l j).fst,
 (nthD ((0 : Int), (0 : Int)) l j).snd))
 l.length) ==
 (20 : Int) &&
 decide ((↑(AV.is L).len : Int) > (0 : Int))) =
 true →
 (0 : Int) ≤ (0 : Int) ∧ (0 : Int) < (↑(AV.is L).len : Int)) ∧
 ((errR N
 (mkN
 (fun (j : Nat) =>
 ((nthD ((0 : Int), (0 : Int)) l j).fst,
 (nthD ((0 : Int), (0 : Int)) l j).snd))
 l.length) ==
 (20 : Int) &&
 decide ((↑(AV.is L).len : Int) > (0 : Int))) =
 true →
 Int.toNat (0 : Int) < (AV.is L).len) ∧
 ((errR N
 (mkN
 (fun (j : Nat) =>
 ((nthD ((0 : Int), (0 : Int)) l j).fst,
 (nthD ((0 : Int), (0 : Int)) l j).snd))
 l.length) ==
 (20 : Int) &&
 decide ((↑(AV.is L).len : Int) > (0 : Int))) =
 true →
 l.length = l.length) ∧
 ((errR N
 (mkN
 (fun (j : Nat) =>
 ((nthD ((0 : Int), (0 : Int)) l j).fst,
 (nthD ((0 : Int), (0 : Int)) l j).snd))
 l.length) ==
 (20 : Int) &&
 decide ((↑(AV.is L).len : Int) > (0 : Int))) =
 true →
 (mkN
 (fun (j : Nat) =>
 ((nthD ((0 : Int), (0 : Int)) l j).fst,
 (nthD ((0 : Int), (0 : Int)) l j).snd))
 l.length).length ≤
 (1099511627776 : Nat)) ∧
 (errR N
 (mkN
 (fun (j : Nat) =>
 ((nthD ((0 : Int), (0 : Int)) l j).fst,
 (nthD ((0 : Int), (0 : Int)) l j).snd))
 l.length) ==
 (20 : Int) &&
 decide ((↑(AV.is L).len : Int) > (0 : Int)) &&
 (validF N
 (mkN
 (fun (j : Nat) =>
 ((nthD ((0 : Int), (0 : Int)) l j).fst,
 (nthD ((0 : Int), (0 : Int)) l j).snd))
 l.length) &&
 setF
 (mkN
 (fun (j : Nat) =>
 ((nthD ((0 : Int), (0 : Int)) l j).fst,
 (nthD ((0 : Int), (0 : Int)) l j).snd))
 l.length)
 (nthD (0 : Int) L
 (IntKind.i64.wrap ((↑(AV.is L).len : Int) - (1 : Int))).toNat)
 (nthD (0 : Int) L (Int.toNat (0 : Int)))) &&
 true) =
 true) ∧
 (fndF N
 (mkN
 (fun (j : Nat) =>
 ((nthD ((0 : Int), (0 : Int)) l j).fst, (nthD ((0 : Int), (0 : Int)) l j).snd))
 l.length) =
 false →
 l.length = l.length ∧
 (mkN
 (fun (j : Nat) =>
 ((nthD ((0 : Int), (0 : Int)) l j).fst, (nthD ((0 : Int), (0 : Int)) l j).snd))
 l.length).length ≤
 (1099511627776 : Nat) ∧
 (bif
 validF N
 (mkN
 (fun (j : Nat) =>
 ((nthD ((0 : Int), (0 : Int)) l j).fst,
 (nthD ((0 : Int), (0 : Int)) l j).snd))
 l.length) then
 normL N
 (wF
 (setF
 (mkN
 (fun (j : Nat) =>
 ((nthD ((0 : Int), (0 : Int)) l j).fst,
 (nthD ((0 : Int), (0 : Int)) l j).snd))
 l.length))
 N.toNat)
 else []) =
 C ∧
 (AV.ps C).len = (AV.ps C).len ∧
 (AV.ps C).len = (AV.ps C).len ∧
 mkN
 (fun (j : Nat) =>
 ((nthD ((0 : Int), (0 : Int)) C j).fst,
 (nthD ((0 : Int), (0 : Int)) C j).snd))
 (AV.ps C).len =
 C ∧
 mkN
 (fun (j : Nat) =>
 ((nthD ((0 : Int), (0 : Int)) C j).fst,
 (nthD ((0 : Int), (0 : Int)) C j).snd))
 (AV.ps C).len =
 C ∧
 C.length ≤ (1099511627776 : Nat) ∧
 C.length ≤ (1099511627776 : Nat) ∧
 (bif
 bothF
 (bif
 validF N
 (mkN
 (fun (j : Nat) =>
 ((nthD ((0 : Int), (0 : Int)) l j).fst,
 (nthD ((0 : Int), (0 : Int)) l j).snd))
 l.length) then
 N
 else (0 : Int))
 C
 (bif
 validF N
 (mkN
 (fun (j : Nat) =>
 ((nthD ((0 : Int), (0 : Int)) l j).fst,
 (nthD ((0 : Int), (0 : Int)) l j).snd))
 l.length) then
 N
 else (0 : Int))
 C then
 normL
 (bif
 validF N
 (mkN
 (fun (j : Nat) =>
 ((nthD ((0 : Int), (0 : Int)) l j).fst,
 (nthD ((0 : Int), (0 : Int)) l j).snd))
 l.length) then
 N
 else (0 : Int))
 (cmpK (setF C) (setF C)
 (bif
 validF N
 (mkN
 (fun (j : Nat) =>
 ((nthD ((0 : Int), (0 : Int)) l j).fst,
 (nthD ((0 : Int), (0 : Int)) l j).snd))
 l.length) then
 N
 else (0 : Int)).toNat)
 else []) =
 TW ∧
 ((errR N
 (mkN
 (fun (j : Nat) =>
 ((nthD ((0 : Int), (0 : Int)) l j).fst,
 (nthD ((0 : Int), (0 : Int)) l j).snd))
 l.length) !=
 (0 : Int) ||
 (bif
 bothF
 (bif
 validF N
 (mkN
 (fun (j : Nat) =>
 ((nthD ((0 : Int), (0 : Int)) l j).fst,
 (nthD ((0 : Int), (0 : Int)) l j).snd))
 l.length) then
 N
 else (0 : Int))
 C
 (bif
 validF N
 (mkN
 (fun (j : Nat) =>
 ((nthD ((0 : Int), (0 : Int)) l j).fst,
 (nthD ((0 : Int), (0 : Int)) l j).snd))
 l.length) then
 N
 else (0 : Int))
 C then
 (0 : Int)
 else (1 : Int)) !=
 (0 : Int)) =
 false →
 (AV.ps D).len = (AV.ps D).len) ∧
 ((errR N
 (mkN
 (fun (j : Nat) =>
 ((nthD ((0 : Int), (0 : Int)) l j).fst,
 (nthD ((0 : Int), (0 : Int)) l j).snd))
 l.length) !=
 (0 : Int) ||
 (bif
 bothF
 (bif
 validF N
 (mkN
 (fun (j : Nat) =>
 ((nthD ((0 : Int), (0 : Int)) l j).fst,
 (nthD ((0 : Int), (0 : Int)) l j).snd))
 l.length) then
 N
 else (0 : Int))
 C
 (bif
 validF N
 (mkN
 (fun (j : Nat) =>
 ((nthD ((0 : Int), (0 : Int)) l j).fst,
 (nthD ((0 : Int), (0 : Int)) l j).snd))
 l.length) then
 N
 else (0 : Int))
 C then
 (0 : Int)
 else (1 : Int)) !=
 (0 : Int)) =
 false →
 mkN
 (fun (j : Nat) =>
 ((nthD ((0 : Int), (0 : Int)) D j).fst,
 (nthD ((0 : Int), (0 : Int)) D j).snd))
 (AV.ps D).len =
 D) ∧
 ((errR N
 (mkN
 (fun (j : Nat) =>
 ((nthD ((0 : Int), (0 : Int)) l j).fst,
 (nthD ((0 : Int), (0 : Int)) l j).snd))
 l.length) !=
 (0 : Int) ||
 (bif
 bothF
 (bif
 validF N
 (mkN
 (fun (j : Nat) =>
 ((nthD ((0 : Int), (0 : Int)) l j).fst,
 (nthD ((0 : Int), (0 : Int)) l j).snd))
 l.length) then
 N
 else (0 : Int))
 C
 (bif
 validF N
 (mkN
 (fun (j : Nat) =>
 ((nthD ((0 : Int), (0 : Int)) l j).fst,
 (nthD ((0 : Int), (0 : Int)) l j).snd))
 l.length) then
 N
 else (0 : Int))
 C then
 (0 : Int)
 else (1 : Int)) !=
 (0 : Int)) =
 false →
 D.length ≤ (1099511627776 : Nat)) ∧
 ((errR N
 (mkN
 (fun (j : Nat) =>
 ((nthD ((0 : Int), (0 : Int)) l j).fst,
 (nthD ((0 : Int), (0 : Int)) l j).snd))
 l.length) !=
 (0 : Int) ||
 (bif
 bothF
 (bif
 validF N
 (mkN
 (fun (j : Nat) =>
 ((nthD ((0 : Int), (0 : Int)) l j).fst,
 (nthD ((0 : Int), (0 : Int)) l j).snd))
 l.length) then
 N
 else (0 : Int))
 C
 (bif
 validF N
 (mkN
 (fun (j : Nat) =>
 ((nthD ((0 : Int), (0 : Int)) l j).fst,
 (nthD ((0 : Int), (0 : Int)) l j).snd))
 l.length) then
 N
 else (0 : Int))
 C then
 (0 : Int)
 else (1 : Int)) !=
 (0 : Int)) =
 false →
 (bif
 validF
 (bif
 okR N
 (mkN
 (fun (j : Nat) =>
 ((nthD ((0 : Int), (0 : Int)) l j).fst,
 (nthD ((0 : Int), (0 : Int)) l j).snd))
 l.length) then
 N
 else (0 : Int))
 D then
 normL
 (bif
 okR N
 (mkN
 (fun (j : Nat) =>
 ((nthD ((0 : Int), (0 : Int)) l j).fst,
 (nthD ((0 : Int), (0 : Int)) l j).snd))
 l.length) then
 N
 else (0 : Int))
 (wF (setF D)
 (bif
 okR N
 (mkN
 (fun (j : Nat) =>
 ((nthD ((0 : Int), (0 : Int)) l j).fst,
 (nthD ((0 : Int), (0 : Int)) l j).snd))
 l.length) then
 N
 else (0 : Int)).toNat)
 else []) =
 CD) ∧
 ((errR N
 (mkN
 (fun (j : Nat) =>
 ((nthD ((0 : Int), (0 : Int)) l j).fst,
 (nthD ((0 : Int), (0 : Int)) l j).snd))
 l.length) !=
 (0 : Int) ||
 (bif
 bothF
 (bif
 validF N
 (mkN
 (fun (j : Nat) =>
 ((nthD ((0 : Int), (0 : Int)) l j).fst,
 (nthD ((0 : Int), (0 : Int)) l j).snd))
 l.length) then
 N
 else (0 : Int))
 C
 (bif
 validF N
 (mkN
 (fun (j : Nat) =>
 ((nthD ((0 : Int), (0 : Int)) l j).fst,
 (nthD ((0 : Int), (0 : Int)) l j).snd))
 l.length) then
 N
 else (0 : Int))
 C then
 (0 : Int)
 else (1 : Int)) !=
 (0 : Int)) =
 false →
 (AV.ps CD).len = (AV.ps CD).len) ∧
 ((errR N
 (mkN
 (fun (j : Nat) =>
 ((nthD ((0 : Int), (0 : Int)) l j).fst,
 (nthD ((0 : Int), (0 : Int)) l j).snd))
 l.length) !=
 (0 : Int) ||
 (bif
 bothF
 (bif
 validF N
 (mkN
 (fun (j : Nat) =>
 ((nthD ((0 : Int), (0 : Int)) l j).fst,
 (nthD ((0 : Int), (0 : Int)) l
 j).snd))
 l.length) then
 N
 else (0 : Int))
 C
 (bif
 validF N
 (mkN
 (fun (j : Nat) =>
 ((nthD ((0 : Int), (0 : Int)) l j).fst,
 (nthD ((0 : Int), (0 : Int)) l
 j).snd))
 l.length) then
 N
 else (0 : Int))
 C then
 (0 : Int)
 else (1 : Int)) !=
 (0 : Int)) =
 false →
 (AV.ps C).len = (AV.ps C).len) ∧
 ((errR N
 (mkN
 (fun (j : Nat) =>
 ((nthD ((0 : Int), (0 : Int)) l j).fst,
 (nthD ((0 : Int), (0 : Int)) l j).snd))
 l.length) !=
 (0 : Int) ||
 (bif
 bothF
 (bif
 validF N
 (mkN
 (fun (j : Nat) =>
 ((nthD ((0 : Int), (0 : Int)) l
 j).fst,
 (nthD ((0 : Int), (0 : Int)) l
 j).snd))
 l.length) then
 N
 else (0 : Int))
 C
 (bif
 validF N
 (mkN
 (fun (j : Nat) =>
 ((nthD ((0 : Int), (0 : Int)) l
 j).fst,
 (nthD ((0 : Int), (0 : Int)) l
 j).snd))
 l.length) then
 N
 else (0 : Int))
 C then
 (0 : Int)
 else (1 : Int)) !=
 (0 : Int)) =
 false →
 mkN
 (fun (j : Nat) =>
 ((nthD ((0 : Int), (0 : Int)) CD j).fst,
 (nthD ((0 : Int), (0 : Int)) CD j).snd))
 (AV.ps CD).len =
 CD) ∧
 ((errR N
 (mkN
 (fun (j : Nat) =>
 ((nthD ((0 : Int), (0 : Int)) l j).fst,
 (nthD ((0 : Int), (0 : Int)) l j).snd))
 l.length) !=
 (0 : Int) ||
 (bif
 bothF
 (bif
 validF N
 (mkN
 (fun (j : Nat) =>
 ((nthD ((0 : Int), (0 : Int)) l
 j).fst,
 (nthD ((0 : Int), (0 : Int)) l
 j).snd))
 l.length) then
 N
 else (0 : Int))
 C
 (bif
 validF N
 (mkN
 (fun (j : Nat) =>
 ((nthD ((0 : Int), (0 : Int)) l
 j).fst,
 (nthD ((0 : Int), (0 : Int)) l
 j).snd))
 l.length) then
 N
 else (0 : Int))
 C then
 (0 : Int)
 else (1 : Int)) !=
 (0 : Int)) =
 false →
 mkN
 (fun (j : Nat) =>
 ((nthD ((0 : Int), (0 : Int)) C j).fst,
 (nthD ((0 : Int), (0 : Int)) C j).snd))
 (AV.ps C).len =
 C) ∧
 ((errR N
 (mkN
 (fun (j : Nat) =>
 ((nthD ((0 : Int), (0 : Int)) l j).fst,
 (nthD ((0 : Int), (0 : Int)) l j).snd))
 l.length) !=
 (0 : Int) ||
 (bif
 bothF
 (bif
 validF N
 (mkN
 (fun (j : Nat) =>
 ((nthD ((0 : Int), (0 : Int)) l
 j).fst,
 (nthD ((0 : Int), (0 : Int)) l
 j).snd))
 l.length) then
 N
 else (0 : Int))
 C
 (bif
 validF N
 (mkN
 (fun (j : Nat) =>
 ((nthD ((0 : Int), (0 : Int)) l
 j).fst,
 (nthD ((0 : Int), (0 : Int)) l
 j).snd))
 l.length) then
 N
 else (0 : Int))
 C then
 (0 : Int)
 else (1 : Int)) !=
 (0 : Int)) =
 false →
 CD.length ≤ (1099511627776 : Nat)) ∧
 ((errR N
 (mkN
 (fun (j : Nat) =>
 ((nthD ((0 : Int), (0 : Int)) l j).fst,
 (nthD ((0 : Int), (0 : Int)) l j).snd))
 l.length) !=
 (0 : Int) ||
 (bif
 bothF
 (bif
 validF N
 (mkN
 (fun (j : Nat) =>
 ((nthD ((0 : Int), (0 : Int)) l
 j).fst,
 (nthD ((0 : Int), (0 : Int)) l
 j).snd))
 l.length) then
 N
 else (0 : Int))
 C
 (bif
 validF N
 (mkN
 (fun (j : Nat) =>
 ((nthD ((0 : Int), (0 : Int)) l
 j).fst,
 (nthD ((0 : Int), (0 : Int)) l
 j).snd))
 l.length) then
 N
 else (0 : Int))
 C then
 (0 : Int)
 else (1 : Int)) !=
 (0 : Int)) =
 false →
 C.length ≤ (1099511627776 : Nat)) ∧
 ((errR N
 (mkN
 (fun (j : Nat) =>
 ((nthD ((0 : Int), (0 : Int)) l
 j).fst,
 (nthD ((0 : Int), (0 : Int)) l
 j).snd))
 l.length) !=
 (0 : Int) ||
 (bif
 bothF
 (bif
 validF N
 (mkN
 (fun (j : Nat) =>
 ((nthD
 ((0 : Int), (0 : Int))
 l j).fst,
 (nthD
 ((0 : Int), (0 : Int))
 l j).snd))
 l.length) then
 N
 else (0 : Int))
 C
 (bif
 validF N
 (mkN
 (fun (j : Nat) =>
 ((nthD
 ((0 : Int), (0 : Int))
 l j).fst,
 (nthD
 ((0 : Int), (0 : Int))
 l j).snd))
 l.length) then
 N
 else (0 : Int))
 C then
 (0 : Int)
 else (1 : Int)) !=
 (0 : Int) ||
 !sameF
 (bif
 validF
 (bif
 okR N
 (mkN
 (fun (j : Nat) =>
 ((nthD
 ((0 : Int), (0 : Int))
 l j).fst,
 (nthD
 ((0 : Int), (0 : Int))
 l j).snd))
 l.length) then
 N
 else (0 : Int))
 D then
 bif
 okR N
 (mkN
 (fun (j : Nat) =>
 ((nthD ((0 : Int), (0 : Int)) l
 j).fst,
 (nthD ((0 : Int), (0 : Int)) l
 j).snd))
 l.length) then
 N
 else (0 : Int)
 else (0 : Int))
 CD
 (bif
 validF N
 (mkN
 (fun (j : Nat) =>
 ((nthD ((0 : Int), (0 : Int)) l
 j).fst,
 (nthD ((0 : Int), (0 : Int)) l
 j).snd))
 l.length) then
 N
 else (0 : Int))
 C) =
 true →
 false = true) ∧
 ((errR N
 (mkN
 (fun (j : Nat) =>
 ((nthD ((0 : Int), (0 : Int)) l
 j).fst,
 (nthD ((0 : Int), (0 : Int)) l
 j).snd))
 l.length) !=
 (0 : Int) ||
 (bif
 bothF
 (bif
 validF N
 (mkN
 (fun (j : Nat) =>
 ((nthD
 ((0 : Int), (0 : Int))
 l j).fst,
 (nthD
 ((0 : Int), (0 : Int))
 l j).snd))
 l.length) then
 N
 else (0 : Int))
 C
 (bif
 validF N
 (mkN
 (fun (j : Nat) =>
 ((nthD
 ((0 : Int), (0 : Int))
 l j).fst,
 (nthD
 ((0 : Int), (0 : Int))
 l j).snd))
 l.length) then
 N
 else (0 : Int))
 C then
 (0 : Int)
 else (1 : Int)) !=
 (0 : Int) ||
 !sameF
 (bif
 validF
 (bif
 okR N
 (mkN
 (fun (j : Nat) =>
 ((nthD
 ((0 : Int), (0 : Int))
 l j).fst,
 (nthD
 ((0 : Int), (0 : Int))
 l j).snd))
 l.length) then
 N
 else (0 : Int))
 D then
 bif
 okR N
 (mkN
 (fun (j : Nat) =>
 ((nthD ((0 : Int), (0 : Int)) l
 j).fst,
 (nthD ((0 : Int), (0 : Int)) l
 j).snd))
 l.length) then
 N
 else (0 : Int)
 else (0 : Int))
 CD
 (bif
 validF N
 (mkN
 (fun (j : Nat) =>
 ((nthD ((0 : Int), (0 : Int)) l
 j).fst,
 (nthD ((0 : Int), (0 : Int)) l
 j).snd))
 l.length) then
 N
 else (0 : Int))
 C) =
 false →
 ∃ (x : PUnit),
 (∃ (x : Nat),
 (x ≤ D.length ∧ True) ∧
 ((0 : Int) = (↑x : Int) ∧ True) ∧ True) ∧
 ∀ (x_1 : Nat),
 x_1 ≤ D.length ∧ True →
 (decide
 ((↑x_1 : Int) <
 (↑(AV.ps D).len : Int)) =
 true →
 ((0 : Int) ≤ (↑x_1 : Int) ∧
 (↑x_1 : Int) <
 (↑(AV.ps D).len : Int)) ∧
 x_1 < (AV.ps D).len ∧
 (AV.ps TW).len = (AV.ps TW).len ∧
 mkN
 (fun (j : Nat) =>
 ((nthD
 ((0 : Int),
 (0 : Int))
 TW j).fst,
 (nthD
 ((0 : Int),
 (0 : Int))
 TW j).snd))
 (AV.ps TW).len =
 TW ∧
 TW.length ≤
 (1099511627776 : Nat) ∧
 ((validF
 (bif
 bothF
 (bif
 validF N
 (mkN
 (fun
 (j :
 Nat) =>
 ((nthD
 ((0 :
 Int),
 (0 :
 Int))
 l
 j).fst,
 (nthD
 ((0 :
 Int),
 (0 :
 Int))
 l
 j).snd))
 l.length) then
 N
 else
 (0 : Int))
 C
 (bif
 validF N
 (mkN
 (fun
 (j :
 Nat) =>
 ((nthD
 ((0 :
 Int),
 (0 :
 Int))
 l
 j).fst,
 (nthD
 ((0 :
 Int),
 (0 :
 Int))
 l
 j).snd))
 l.length) then
 N
 else
 (0 : Int))
 C then
 bif
 validF N
 (mkN
 (fun
 (j :
 Nat) =>
 ((nthD
 ((0 :
 Int),
 (0 :
 Int))
 l
 j).fst,
 (nthD
 ((0 :
 Int),
 (0 :
 Int))
 l
 j).snd))
 l.length) then
 N
 else (0 : Int)
 else (0 : Int))
 TW &&
 setF TW
 (nthD
 ((0 : Int),
 (0 : Int))
 D x_1).fst
 (nthD
 ((0 : Int),
 (0 : Int))
 D x_1).snd) =
 true →
 false = true) ∧
 ((validF
 (bif
 bothF
 (bif
 validF N
 (mkN
 (fun
 (j :
 Nat) =>
 ((nthD
 ((0 :
 Int),
 (0 :
 Int))
 l
 j).fst,
 (nthD
 ((0 :
 Int),
 (0 :
 Int))
 l
 j).snd))
 l.length) then
 N
 else
 (0 : Int))
 C
 (bif
 validF N
 (mkN
 (fun
 (j :
 Nat) =>
 ((nthD
 ((0 :
 Int),
 (0 :
 Int))
 l
 j).fst,
 (nthD
 ((0 :
 Int),
 (0 :
 Int))
 l
 j).snd))
 l.length) then
 N
 else
 (0 : Int))
 C then
 bif
 validF N
 (mkN
 (fun
 (j :
 Nat) =>
 ((nthD
 ((0 :
 Int),
 (0 :
 Int))
 l
 j).fst,
 (nthD
 ((0 :
 Int),
 (0 :
 Int))
 l
 j).snd))
 l.length) then
 N
 else (0 : Int)
 else (0 : Int))
 TW &&
 setF TW
 (nthD
 ((0 : Int),
 (0 : Int))
 D x_1).fst
 (nthD
 ((0 : Int),
 (0 : Int))
 D x_1).snd) =
 false →
 ∃ (x_2 : Nat),
 (x_2 ≤ D.length ∧
 True) ∧
 ((PLoop.of
 (lRdn D
 N TW
 (80 :
 Nat))).ann
 x).mu
 x_2 <
 ((PLoop.of
 (lRdn D
 N TW
 (80 :
 Nat))).ann
 x).mu
 x_1 ∧
 ((N = N ∧
 l.length =
 l.length) ∧
 True ∧
 True ∧
 errR N
 (mkN
 (fun
 (j :
 Nat) =>
 ((nthD
 ((0 :
 Int),
 (0 :
 Int))
 l
 j).fst,
 (nthD
 ((0 :
 Int),
 (0 :
 Int))
 l
 j).snd))
 l.length) =
 errR N
 (mkN
 (fun
 (j :
 Nat) =>
 ((nthD
 ((0 :
 Int),
 (0 :
 Int))
 l
 j).fst,
 (nthD
 ((0 :
 Int),
 (0 :
 Int))
 l
 j).snd))
 l.length) ∧
 (AV.is
 L).len =
 (AV.is
 L).len ∧
 fndF N
 (mkN
 (fun
 (j :
 Nat) =>
 ((nthD
 ((0 :
 Int),
 (0 :
 Int))
 l
 j).fst,
 (nthD
 ((0 :
 Int),
 (0 :
 Int))
 l
 j).snd))
 l.length) =
 fndF
 N
 (mkN
 (fun
 (j :
 Nat) =>
 ((nthD
 ((0 :
 Int),
 (0 :
 Int))
 l
 j).fst,
 (nthD
 ((0 :
 Int),
 (0 :
 Int))
 l
 j).snd))
 l.length) ∧
 True ∧
 True ∧
 ((bif
 bothF
 (bif
 validF
 N
 (mkN
 (fun
 (j :
 Nat) =>
 ((nthD
 ((0 :
 Int),
 (0 :
 Int))
 l
 j).fst,
 (nthD
 ((0 :
 Int),
 (0 :
 Int))
 l
 j).snd))
 l.length) then
 N
 else
 (0 :
 Int))
 C
 (bif
 validF
 N
 (mkN
 (fun
 (j :
 Nat) =>
 ((nthD
 ((0 :
 Int),
 (0 :
 Int))
 l
 j).fst,
 (nthD
 ((0 :
 Int),
 (0 :
 Int))
 l
 j).snd))
 l.length) then
 N
 else
 (0 :
 Int))
 C then
 (0 :
 Int)
 else
 (1 :
 Int)) =
 bif
 bothF
 (bif
 validF
 N
 (mkN
 (fun
 (j :
 Nat) =>
 ((nthD
 ((0 :
 Int),
 (0 :
 Int))
 l
 j).fst,
 (nthD
 ((0 :
 Int),
 (0 :
 Int))
 l
 j).snd))
 l.length) then
 N
 else
 (0 :
 Int))
 C
 (bif
 validF
 N
 (mkN
 (fun
 (j :
 Nat) =>
 ((nthD
 ((0 :
 Int),
 (0 :
 Int))
 l
 j).fst,
 (nthD
 ((0 :
 Int),
 (0 :
 Int))
 l
 j).snd))
 l.length) then
 N
 else
 (0 :
 Int))
 C then
 (0 :
 Int)
 else
 (1 :
 Int)) ∧
 True ∧
 l.length =
 l.length ∧
 (↑l.length :
 Int) =
 (↑l.length :
 Int) ∧
 decide
 ((↑l.length :
 Int) >
 (300 :
 Int)) =
 decide
 ((↑l.length :
 Int) >
 (300 :
 Int)) ∧
 decide
 ((↑l.length :
 Int) >
 (300 :
 Int)) =
 decide
 ((↑l.length :
 Int) >
 (300 :
 Int)) ∧
 false =
 false ∧
 ((((bif
 okR
 N
 (mkN
 (fun
 (j :
 Nat) =>
 ((nthD
 ((0 :
 Int),
 (0 :
 Int))
 l
 j).fst,
 (nthD
 ((0 :
 Int),
 (0 :
 Int))
 l
 j).snd))
 l.length) then
 N
 else
 (0 :
 Int)) =
 bif
 okR
 N
 (mkN
 (fun
 (j :
 Nat) =>
 ((nthD
 ((0 :
 Int),
 (0 :
 Int))
 l
 j).fst,
 (nthD
 ((0 :
 Int),
 (0 :
 Int))
 l
 j).snd))
 l.length) then
 N
 else
 (0 :
 Int)) ∧
 (AV.ps
 D).len =
 (AV.ps
 D).len) ∧
 errR
 N
 (mkN
 (fun
 (j :
 Nat) =>
 ((nthD
 ((0 :
 Int),
 (0 :
 Int))
 l
 j).fst,
 (nthD
 ((0 :
 Int),
 (0 :
 Int))
 l
 j).snd))
 l.length) =
 errR
 N
 (mkN
 (fun
 (j :
 Nat) =>
 ((nthD
 ((0 :
 Int),
 (0 :
 Int))
 l
 j).fst,
 (nthD
 ((0 :
 Int),
 (0 :
 Int))
 l
 j).snd))
 l.length)) ∧
 (N =
 N ∧
 l.length =
 l.length) ∧
 ((((bif
 okR
 N
 (mkN
 (fun
 (j :
 Nat) =>
 ((nthD
 ((0 :
 Int),
 (0 :
 Int))
 l
 j).fst,
 (nthD
 ((0 :
 Int),
 (0 :
 Int))
 l
 j).snd))
 l.length) then
 N
 else
 (0 :
 Int)) =
 bif
 okR
 N
 (mkN
 (fun
 (j :
 Nat) =>
 ((nthD
 ((0 :
 Int),
 (0 :
 Int))
 l
 j).fst,
 (nthD
 ((0 :
 Int),
 (0 :
 Int))
 l
 j).snd))
 l.length) then
 N
 else
 (0 :
 Int)) ∧
 (AV.ps
 D).len =
 (AV.ps
 D).len) ∧
 errR
 N
 (mkN
 (fun
 (j :
 Nat) =>
 ((nthD
 ((0 :
 Int),
 (0 :
 Int))
 l
 j).fst,
 (nthD
 ((0 :
 Int),
 (0 :
 Int))
 l
 j).snd))
 l.length) =
 errR
 N
 (mkN
 (fun
 (j :
 Nat) =>
 ((nthD
 ((0 :
 Int),
 (0 :
 Int))
 l
 j).fst,
 (nthD
 ((0 :
 Int),
 (0 :
 Int))
 l
 j).snd))
 l.length)) ∧
 (((bif
 okR
 N
 (mkN
 (fun
 (j :
 Nat) =>
 ((nthD
 ((0 :
 Int),
 (0 :
 Int))
 l
 j).fst,
 (nthD
 ((0 :
 Int),
 (0 :
 Int))
 l
 j).snd))
 l.length) then
 N
 else
 (0 :
 Int)) =
 bif
 okR
 N
 (mkN
 (fun
 (j :
 Nat) =>
 ((nthD
 ((0 :
 Int),
 (0 :
 Int))
 l
 j).fst,
 (nthD
 ((0 :
 Int),
 (0 :
 Int))
 l
 j).snd))
 l.length) then
 N
 else
 (0 :
 Int)) ∧
 (AV.ps
 D).len =
 (AV.ps
 D).len) ∧
 errR
 N
 (mkN
 (fun
 (j :
 Nat) =>
 ((nthD
 ((0 :
 Int),
 (0 :
 Int))
 l
 j).fst,
 (nthD
 ((0 :
 Int),
 (0 :
 Int))
 l
 j).snd))
 l.length) =
 errR
 N
 (mkN
 (fun
 (j :
 Nat) =>
 ((nthD
 ((0 :
 Int),
 (0 :
 Int))
 l
 j).fst,
 (nthD
 ((0 :
 Int),
 (0 :
 Int))
 l
 j).snd))
 l.length) ∧
 ((AV.is
 L).len =
 (AV.is
 L).len ∧
 fndF
 N
 (mkN
 (fun
 (j :
 Nat) =>
 ((nthD
 ((0 :
 Int),
 (0 :
 Int))
 l
 j).fst,
 (nthD
 ((0 :
 Int),
 (0 :
 Int))
 l
 j).snd))
 l.length) =
 fndF
 N
 (mkN
 (fun
 (j :
 Nat) =>
 ((nthD
 ((0 :
 Int),
 (0 :
 Int))
 l
 j).fst,
 (nthD
 ((0 :
 Int),
 (0 :
 Int))
 l
 j).snd))
 l.length)) ∧
 (N =
 N ∧
 l.length =
 l.length) ∧
 ((AV.is
 L).len =
 (AV.is
 L).len ∧
 fndF
 N
 (mkN
 (fun
 (j :
 Nat) =>
 ((nthD
 ((0 :
 Int),
 (0 :
 Int))
 l
 j).fst,
 (nthD
 ((0 :
 Int),
 (0 :
 Int))
 l
 j).snd))
 l.length) =
 fndF
 N
 (mkN
 (fun
 (j :
 Nat) =>
 ((nthD
 ((0 :
 Int),
 (0 :
 Int))
 l
 j).fst,
 (nthD
 ((0 :
 Int),
 (0 :
 Int))
 l
 j).snd))
 l.length)) ∧
 (AV.is
 L).len =
 (AV.is
 L).len ∧
 fndF
 N
 (mkN
 (fun
 (j :
 Nat) =>
 ((nthD
 ((0 :
 Int),
 (0 :
 Int))
 l
 j).fst,
 (nthD
 ((0 :
 Int),
 (0 :
 Int))
 l
 j).snd))
 l.length) =
 fndF
 N
 (mkN
 (fun
 (j :
 Nat) =>
 ((nthD
 ((0 :
 Int),
 (0 :
 Int))
 l
 j).fst,
 (nthD
 ((0 :
 Int),
 (0 :
 Int))
 l
 j).snd))
 l.length) ∧
 false =
 false ∧
 (N =
 N ∧
 l.length =
 l.length) ∧
 (((bif
 validF
 N
 (mkN
 (fun
 (j :
 Nat) =>
 ((nthD
 ((0 :
 Int),
 (0 :
 Int))
 l
 j).fst,
 (nthD
 ((0 :
 Int),
 (0 :
 Int))
 l
 j).snd))
 l.length) then
 N
 else
 (0 :
 Int)) =
 bif
 validF
 N
 (mkN
 (fun
 (j :
 Nat) =>
 ((nthD
 ((0 :
 Int),
 (0 :
 Int))
 l
 j).fst,
 (nthD
 ((0 :
 Int),
 (0 :
 Int))
 l
 j).snd))
 l.length) then
 N
 else
 (0 :
 Int)) ∧
 (AV.ps
 C).len =
 (AV.ps
 C).len) ∧
 ((((bif
 bothF
 (bif
 validF
 N
 (mkN
 (fun
 (j :
 Nat) =>
 ((nthD
 ((0 :
 Int),
 (0 :
 Int))
 l
 j).fst,
 (nthD
 ((0 :
 Int),
 (0 :
 Int))
 l
 j).snd))
 l.length) then
 N
 else
 (0 :
 Int))
 C
 (bif
 validF
 N
 (mkN
 (fun
 (j :
 Nat) =>
 ((nthD
 ((0 :
 Int),
 (0 :
 Int))
 l
 j).fst,
 (nthD
 ((0 :
 Int),
 (0 :
 Int))
 l
 j).snd))
 l.length) then
 N
 else
 (0 :
 Int))
 C then
 bif
 validF
 N
 (mkN
 (fun
 (j :
 Nat) =>
 ((nthD
 ((0 :
 Int),
 (0 :
 Int))
 l
 j).fst,
 (nthD
 ((0 :
 Int),
 (0 :
 Int))
 l
 j).snd))
 l.length) then
 N
 else
 (0 :
 Int)
 else
 (0 :
 Int)) =
 bif
 bothF
 (bif
 validF
 N
 (mkN
 (fun
 (j :
 Nat) =>
 ((nthD
 ((0 :
 Int),
 (0 :
 Int))
 l
 j).fst,
 (nthD
 ((0 :
 Int),
 (0 :
 Int))
 l
 j).snd))
 l.length) then
 N
 else
 (0 :
 Int))
 C
 (bif
 validF
 N
 (mkN
 (fun
 (j :
 Nat) =>
 ((nthD
 ((0 :
 Int),
 (0 :
 Int))
 l
 j).fst,
 (nthD
 ((0 :
 Int),
 (0 :
 Int))
 l
 j).snd))
 l.length) then
 N
 else
 (0 :
 Int))
 C then
 bif
 validF
 N
 (mkN
 (fun
 (j :
 Nat) =>
 ((nthD
 ((0 :
 Int),
 (0 :
 Int))
 l
 j).fst,
 (nthD
 ((0 :
 Int),
 (0 :
 Int))
 l
 j).snd))
 l.length) then
 N
 else
 (0 :
 Int)
 else
 (0 :
 Int)) ∧
 (AV.ps
 TW).len =
 (AV.ps
 TW).len) ∧
 (bif
 bothF
 (bif
 validF
 N
 (mkN
 (fun
 (j :
 Nat) =>
 ((nthD
 ((0 :
 Int),
 (0 :
 Int))
 l
 j).fst,
 (nthD
 ((0 :
 Int),
 (0 :
 Int))
 l
 j).snd))
 l.length) then
 N
 else
 (0 :
 Int))
 C
 (bif
 validF
 N
 (mkN
 (fun
 (j :
 Nat) =>
 ((nthD
 ((0 :
 Int),
 (0 :
 Int))
 l
 j).fst,
 (nthD
 ((0 :
 Int),
 (0 :
 Int))
 l
 j).snd))
 l.length) then
 N
 else
 (0 :
 Int))
 C then
 (0 :
 Int)
 else
 (1 :
 Int)) =
 bif
 bothF
 (bif
 validF
 N
 (mkN
 (fun
 (j :
 Nat) =>
 ((nthD
 ((0 :
 Int),
 (0 :
 Int))
 l
 j).fst,
 (nthD
 ((0 :
 Int),
 (0 :
 Int))
 l
 j).snd))
 l.length) then
 N
 else
 (0 :
 Int))
 C
 (bif
 validF
 N
 (mkN
 (fun
 (j :
 Nat) =>
 ((nthD
 ((0 :
 Int),
 (0 :
 Int))
 l
 j).fst,
 (nthD
 ((0 :
 Int),
 (0 :
 Int))
 l
 j).snd))
 l.length) then
 N
 else
 (0 :
 Int))
 C then
 (0 :
 Int)
 else
 (1 :
 Int)) ∧
 (((bif
 validF
 N
 (mkN
 (fun
 (j :
 Nat) =>
 ((nthD
 ((0 :
 Int),
 (0 :
 Int))
 l
 j).fst,
 (nthD
 ((0 :
 Int),
 (0 :
 Int))
 l
 j).snd))
 l.length) then
 N
 else
 (0 :
 Int)) =
 bif
 validF
 N
 (mkN
 (fun
 (j :
 Nat) =>
 ((nthD
 ((0 :
 Int),
 (0 :
 Int))
 l
 j).fst,
 (nthD
 ((0 :
 Int),
 (0 :
 Int))
 l
 j).snd))
 l.length) then
 N
 else
 (0 :
 Int)) ∧
 (AV.ps
 C).len =
 (AV.ps
 C).len) ∧
 (((bif
 validF
 N
 (mkN
 (fun
 (j :
 Nat) =>
 ((nthD
 ((0 :
 Int),
 (0 :
 Int))
 l
 j).fst,
 (nthD
 ((0 :
 Int),
 (0 :
 Int))
 l
 j).snd))
 l.length) then
 N
 else
 (0 :
 Int)) =
 bif
 validF
 N
 (mkN
 (fun
 (j :
 Nat) =>
 ((nthD
 ((0 :
 Int),
 (0 :
 Int))
 l
 j).fst,
 (nthD
 ((0 :
 Int),
 (0 :
 Int))
 l
 j).snd))
 l.length) then
 N
 else
 (0 :
 Int)) ∧
 (AV.ps
 C).len =
 (AV.ps
 C).len) ∧
 ((((bif
 bothF
 (bif
 validF
 N
 (mkN
 (fun
 (j :
 Nat) =>
 ((nthD
 ((0 :
 Int),
 (0 :
 Int))
 l
 j).fst,
 (nthD
 ((0 :
 Int),
 (0 :
 Int))
 l
 j).snd))
 l.length) then
 N
 else
 (0 :
 Int))
 C
 (bif
 validF
 N
 (mkN
 (fun
 (j :
 Nat) =>
 ((nthD
 ((0 :
 Int),
 (0 :
 Int))
 l
 j).fst,
 (nthD
 ((0 :
 Int),
 (0 :
 Int))
 l
 j).snd))
 l.length) then
 N
 else
 (0 :
 Int))
 C then
 bif
 validF
 N
 (mkN
 (fun
 (j :
 Nat) =>
 ((nthD
 ((0 :
 Int),
 (0 :
 Int))
 l
 j).fst,
 (nthD
 ((0 :
 Int),
 (0 :
 Int))
 l
 j).snd))
 l.length) then
 N
 else
 (0 :
 Int)
 else
 (0 :
 Int)) =
 bif
 bothF
 (bif
 validF
 N
 (mkN
 (fun
 (j :
 Nat) =>
 ((nthD
 ((0 :
 Int),
 (0 :
 Int))
 l
 j).fst,
 (nthD
 ((0 :
 Int),
 (0 :
 Int))
 l
 j).snd))
 l.length) then
 N
 else
 (0 :
 Int))
 C
 (bif
 validF
 N
 (mkN
 (fun
 (j :
 Nat) =>
 ((nthD
 ((0 :
 Int),
 (0 :
 Int))
 l
 j).fst,
 (nthD
 ((0 :
 Int),
 (0 :
 Int))
 l
 j).snd))
 l.length) then
 N
 else
 (0 :
 Int))
 C then
 bif
 validF
 N
 (mkN
 (fun
 (j :
 Nat) =>
 ((nthD
 ((0 :
 Int),
 (0 :
 Int))
 l
 j).fst,
 (nthD
 ((0 :
 Int),
 (0 :
 Int))
 l
 j).snd))
 l.length) then
 N
 else
 (0 :
 Int)
 else
 (0 :
 Int)) ∧
 (AV.ps
 TW).len =
 (AV.ps
 TW).len) ∧
 (bif
 bothF
 (bif
 validF
 N
 (mkN
 (fun
 (j :
 Nat) =>
 ((nthD
 ((0 :
 Int),
 (0 :
 Int))
 l
 j).fst,
 (nthD
 ((0 :
 Int),
 (0 :
 Int))
 l
 j).snd))
 l.length) then
 N
 else
 (0 :
 Int))
 C
 (bif
 validF
 N
 (mkN
 (fun
 (j :
 Nat) =>
 ((nthD
 ((0 :
 Int),
 (0 :
 Int))
 l
 j).fst,
 (nthD
 ((0 :
 Int),
 (0 :
 Int))
 l
 j).snd))
 l.length) then
 N
 else
 (0 :
 Int))
 C then
 (0 :
 Int)
 else
 (1 :
 Int)) =
 bif
 bothF
 (bif
 validF
 N
 (mkN
 (fun
 (j :
 Nat) =>
 ((nthD
 ((0 :
 Int),
 (0 :
 Int))
 l
 j).fst,
 (nthD
 ((0 :
 Int),
 (0 :
 Int))
 l
 j).snd))
 l.length) then
 N
 else
 (0 :
 Int))
 C
 (bif
 validF
 N
 (mkN
 (fun
 (j :
 Nat) =>
 ((nthD
 ((0 :
 Int),
 (0 :
 Int))
 l
 j).fst,
 (nthD
 ((0 :
 Int),
 (0 :
 Int))
 l
 j).snd))
 l.length) then
 N
 else
 (0 :
 Int))
 C then
 (0 :
 Int)
 else
 (1 :
 Int)) ∧
 (((bif
 bothF
 (bif
 validF
 N
 (mkN
 (fun
 (j :
 Nat) =>
 ((nthD
 ((0 :
 Int),
 (0 :
 Int))
 l
 j).fst,
 (nthD
 ((0 :
 Int),
 (0 :
 Int))
 l
 j).snd))
 l.length) then
 N
 else
 (0 :
 Int))
 C
 (bif
 validF
 N
 (mkN
 (fun
 (j :
 Nat) =>
 ((nthD
 ((0 :
 Int),
 (0 :
 Int))
 l
 j).fst,
 (nthD
 ((0 :
 Int),
 (0 :
 Int))
 l
 j).snd))
 l.length) then
 N
 else
 (0 :
 Int))
 C then
 bif
 validF
 N
 (mkN
 (fun
 (j :
 Nat) =>
 ((nthD
 ((0 :
 Int),
 (0 :
 Int))
 l
 j).fst,
 (nthD
 ((0 :
 Int),
 (0 :
 Int))
 l
 j).snd))
 l.length) then
 N
 else
 (0 :
 Int)
 else
 (0 :
 Int)) =
 bif
 bothF
 (bif
 validF
 N
 (mkN
 (fun
 (j :
 Nat) =>
 ((nthD
 ((0 :
 Int),
 (0 :
 Int))
 l
 j).fst,
 (nthD
 ((0 :
 Int),
 (0 :
 Int))
 l
 j).snd))
 l.length) then
 N
 else
 (0 :
 Int))
 C
 (bif
 validF
 N
 (mkN
 (fun
 (j :
 Nat) =>
 ((nthD
 ((0 :
 Int),
 (0 :
 Int))
 l
 j).fst,
 (nthD
 ((0 :
 Int),
 (0 :
 Int))
 l
 j).snd))
 l.length) then
 N
 else
 (0 :
 Int))
 C then
 bif
 validF
 N
 (mkN
 (fun
 (j :
 Nat) =>
 ((nthD
 ((0 :
 Int),
 (0 :
 Int))
 l
 j).fst,
 (nthD
 ((0 :
 Int),
 (0 :
 Int))
 l
 j).snd))
 l.length) then
 N
 else
 (0 :
 Int)
 else
 (0 :
 Int)) ∧
 (AV.ps
 TW).len =
 (AV.ps
 TW).len) ∧
 ((bif
 bothF
 (bif
 validF
 N
 (mkN
 (fun
 (j :
 Nat) =>
 ((nthD
 ((0 :
 Int),
 (0 :
 Int))
 l
 j).fst,
 (nthD
 ((0 :
 Int),
 (0 :
 Int))
 l
 j).snd))
 l.length) then
 N
 else
 (0 :
 Int))
 C
 (bif
 validF
 N
 (mkN
 (fun
 (j :
 Nat) =>
 ((nthD
 ((0 :
 Int),
 (0 :
 Int))
 l
 j).fst,
 (nthD
 ((0 :
 Int),
 (0 :
 Int))
 l
 j).snd))
 l.length) then
 N
 else
 (0 :
 Int))
 C then
 (0 :
 Int)
 else
 (1 :
 Int)) =
 bif
 bothF
 (bif
 validF
 N
 (mkN
 (fun
 (j :
 Nat) =>
 ((nthD
 ((0 :
 Int),
 (0 :
 Int))
 l
 j).fst,
 (nthD
 ((0 :
 Int),
 (0 :
 Int))
 l
 j).snd))
 l.length) then
 N
 else
 (0 :
 Int))
 C
 (bif
 validF
 N
 (mkN
 (fun
 (j :
 Nat) =>
 ((nthD
 ((0 :
 Int),
 (0 :
 Int))
 l
 j).fst,
 (nthD
 ((0 :
 Int),
 (0 :
 Int))
 l
 j).snd))
 l.length) then
 N
 else
 (0 :
 Int))
 C then
 (0 :
 Int)
 else
 (1 :
 Int)) ∧
 errR
 N
 (mkN
 (fun
 (j :
 Nat) =>
 ((nthD
 ((0 :
 Int),
 (0 :
 Int))
 l
 j).fst,
 (nthD
 ((0 :
 Int),
 (0 :
 Int))
 l
 j).snd))
 l.length) =
 errR
 N
 (mkN
 (fun
 (j :
 Nat) =>
 ((nthD
 ((0 :
 Int),
 (0 :
 Int))
 l
 j).fst,
 (nthD
 ((0 :
 Int),
 (0 :
 Int))
 l
 j).snd))
 l.length) ∧
 (errR
 N
 (mkN
 (fun
 (j :
 Nat) =>
 ((nthD
 ((0 :
 Int),
 (0 :
 Int))
 l
 j).fst,
 (nthD
 ((0 :
 Int),
 (0 :
 Int))
 l
 j).snd))
 l.length) !=
 (0 :
 Int)) =
 (errR
 N
 (mkN
 (fun
 (j :
 Nat) =>
 ((nthD
 ((0 :
 Int),
 (0 :
 Int))
 l
 j).fst,
 (nthD
 ((0 :
 Int),
 (0 :
 Int))
 l
 j).snd))
 l.length) !=
 (0 :
 Int)) ∧
 (errR
 N
 (mkN
 (fun
 (j :
 Nat) =>
 ((nthD
 ((0 :
 Int),
 (0 :
 Int))
 l
 j).fst,
 (nthD
 ((0 :
 Int),
 (0 :
 Int))
 l
 j).snd))
 l.length) !=
 (0 :
 Int)) =
 (errR
 N
 (mkN
 (fun
 (j :
 Nat) =>
 ((nthD
 ((0 :
 Int),
 (0 :
 Int))
 l
 j).fst,
 (nthD
 ((0 :
 Int),
 (0 :
 Int))
 l
 j).snd))
 l.length) !=
 (0 :
 Int)) ∧
 (errR
 N
 (mkN
 (fun
 (j :
 Nat) =>
 ((nthD
 ((0 :
 Int),
 (0 :
 Int))
 l
 j).fst,
 (nthD
 ((0 :
 Int),
 (0 :
 Int))
 l
 j).snd))
 l.length) !=
 (0 :
 Int) ||
 (bif
 bothF
 (bif
 validF
 N
 (mkN
 (fun
 (j :
 Nat) =>
 ((nthD
 ((0 :
 Int),
 (0 :
 Int))
 l
 j).fst,
 (nthD
 ((0 :
 Int),
 (0 :
 Int))
 l
 j).snd))
 l.length) then
 N
 else
 (0 :
 Int))
 C
 (bif
 validF
 N
 (mkN
 (fun
 (j :
 Nat) =>
 ((nthD
 ((0 :
 Int),
 (0 :
 Int))
 l
 j).fst,
 (nthD
 ((0 :
 Int),
 (0 :
 Int))
 l
 j).snd))
 l.length) then
 N
 else
 (0 :
 Int))
 C then
 (0 :
 Int)
 else
 (1 :
 Int)) !=
 (0 :
 Int)) =
 (errR
 N
 (mkN
 (fun
 (j :
 Nat) =>
 ((nthD
 ((0 :
 Int),
 (0 :
 Int))
 l
 j).fst,
 (nthD
 ((0 :
 Int),
 (0 :
 Int))
 l
 j).snd))
 l.length) !=
 (0 :
 Int) ||
 (bif
 bothF
 (bif
 validF
 N
 (mkN
 (fun
 (j :
 Nat) =>
 ((nthD
 ((0 :
 Int),
 (0 :
 Int))
 l
 j).fst,
 (nthD
 ((0 :
 Int),
 (0 :
 Int))
 l
 j).snd))
 l.length) then
 N
 else
 (0 :
 Int))
 C
 (bif
 validF
 N
 (mkN
 (fun
 (j :
 Nat) =>
 ((nthD
 ((0 :
 Int),
 (0 :
 Int))
 l
 j).fst,
 (nthD
 ((0 :
 Int),
 (0 :
 Int))
 l
 j).snd))
 l.length) then
 N
 else
 (0 :
 Int))
 C then
 (0 :
 Int)
 else
 (1 :
 Int)) !=
 (0 :
 Int)) ∧
 (errR
 N
 (mkN
 (fun
 (j :
 Nat) =>
 ((nthD
 ((0 :
 Int),
 (0 :
 Int))
 l
 j).fst,
 (nthD
 ((0 :
 Int),
 (0 :
 Int))
 l
 j).snd))
 l.length) !=
 (0 :
 Int) ||
 (bif
 bothF
 (bif
 validF
 N
 (mkN
 (fun
 (j :
 Nat) =>
 ((nthD
 ((0 :
 Int),
 (0 :
 Int))
 l
 j).fst,
 (nthD
 ((0 :
 Int),
 (0 :
 Int))
 l
 j).snd))
 l.length) then
 N
 else
 (0 :
 Int))
 C
 (bif
 validF
 N
 (mkN
 (fun
 (j :
 Nat) =>
 ((nthD
 ((0 :
 Int),
 (0 :
 Int))
 l
 j).fst,
 (nthD
 ((0 :
 Int),
 (0 :
 Int))
 l
 j).snd))
 l.length) then
 N
 else
 (0 :
 Int))
 C then
 (0 :
 Int)
 else
 (1 :
 Int)) !=
 (0 :
 Int)) =
 (errR
 N
 (mkN
 (fun
 (j :
 Nat) =>
 ((nthD
 ((0 :
 Int),
 (0 :
 Int))
 l
 j).fst,
 (nthD
 ((0 :
 Int),
 (0 :
 Int))
 l
 j).snd))
 l.length) !=
 (0 :
 Int) ||
 (bif
 bothF
 (bif
 validF
 N
 (mkN
 (fun
 (j :
 Nat) =>
 ((nthD
 ((0 :
 Int),
 (0 :
 Int))
 l
 j).fst,
 (nthD
 ((0 :
 Int),
 (0 :
 Int))
 l
 j).snd))
 l.length) then
 N
 else
 (0 :
 Int))
 C
 (bif
 validF
 N
 (mkN
 (fun
 (j :
 Nat) =>
 ((nthD
 ((0 :
 Int),
 (0 :
 Int))
 l
 j).fst,
 (nthD
 ((0 :
 Int),
 (0 :
 Int))
 l
 j).snd))
 l.length) then
 N
 else
 (0 :
 Int))
 C then
 (0 :
 Int)
 else
 (1 :
 Int)) !=
 (0 :
 Int)) ∧
 false =
 false ∧
 True ∧
 (AV.ps
 D).len =
 (AV.ps
 D).len ∧
 (↑(AV.ps
 D).len :
 Int) =
 (↑(AV.ps
 D).len :
 Int) ∧
 IntKind.i64.wrap
 ((↑x_1 :
 Int) +
 (1 :
 Int)) =
 (↑x_2 :
 Int) ∧
 True) ∧
 (l.length =
 l.length ∧
 (∀ (j : Nat),
 j <
 l.length →
 (nthD
 ((0 :
 Int),
 (0 :
 Int))
 l
 j).fst =
 (nthD
 ((0 :
 Int),
 (0 :
 Int))
 l
 j).fst) ∧
 (∀
 (j :
 Nat),
 j <
 l.length →
 (nthD
 ((0 :
 Int),
 (0 :
 Int))
 l
 j).snd =
 (nthD
 ((0 :
 Int),
 (0 :
 Int))
 l
 j).snd) ∧
 True) ∧
 (N = N ∧
 l.length =
 l.length) ∧
 ((AV.ps
 D).len =
 (AV.ps
 D).len ∧
 (∀
 (j :
 Nat),
 j <
 (AV.ps
 D).len →
 (nthD
 ((0 :
 Int),
 (0 :
 Int))
 D
 j).fst =
 (nthD
 ((0 :
 Int),
 (0 :
 Int))
 D
 j).fst) ∧
 (∀
 (j :
 Nat),
 j <
 (AV.ps
 D).len →
 (nthD
 ((0 :
 Int),
 (0 :
 Int))
 D
 j).snd =
 (nthD
 ((0 :
 Int),
 (0 :
 Int))
 D
 j).snd) ∧
 True) ∧
 (((bif
 okR
 N
 (mkN
 (fun
 (j :
 Nat) =>
 ((nthD
 ((0 :
 Int),
 (0 :
 Int))
 l
 j).fst,
 (nthD
 ((0 :
 Int),
 (0 :
 Int))
 l
 j).snd))
 l.length) then
 N
 else
 (0 :
 Int)) =
 bif
 okR
 N
 (mkN
 (fun
 (j :
 Nat) =>
 ((nthD
 ((0 :
 Int),
 (0 :
 Int))
 l
 j).fst,
 (nthD
 ((0 :
 Int),
 (0 :
 Int))
 l
 j).snd))
 l.length) then
 N
 else
 (0 :
 Int)) ∧
 (AV.ps
 D).len =
 (AV.ps
 D).len) ∧
 ((AV.is
 L).len =
 (AV.is
 L).len ∧
 (∀
 (j :
 Nat),
 j <
 (AV.is
 L).len →
 nthD
 (0 :
 Int)
 L
 j =
 nthD
 (0 :
 Int)
 L
 j) ∧
 True) ∧
 ((AV.ps
 C).len =
 (AV.ps
 C).len ∧
 (∀
 (j :
 Nat),
 j <
 (AV.ps
 C).len →
 (nthD
 ((0 :
 Int),
 (0 :
 Int))
 C
 j).fst =
 (nthD
 ((0 :
 Int),
 (0 :
 Int))
 C
 j).fst) ∧
 (∀
 (j :
 Nat),
 j <
 (AV.ps
 C).len →
 (nthD
 ((0 :
 Int),
 (0 :
 Int))
 C
 j).snd =
 (nthD
 ((0 :
 Int),
 (0 :
 Int))
 C
 j).snd) ∧
 True) ∧
 (((bif
 validF
 N
 (mkN
 (fun
 (j :
 Nat) =>
 ((nthD
 ((0 :
 Int),
 (0 :
 Int))
 l
 j).fst,
 (nthD
 ((0 :
 Int),
 (0 :
 Int))
 l
 j).snd))
 l.length) then
 N
 else
 (0 :
 Int)) =
 bif
 validF
 N
 (mkN
 (fun
 (j :
 Nat) =>
 ((nthD
 ((0 :
 Int),
 (0 :
 Int))
 l
 j).fst,
 (nthD
 ((0 :
 Int),
 (0 :
 Int))
 l
 j).snd))
 l.length) then
 N
 else
 (0 :
 Int)) ∧
 (AV.ps
 C).len =
 (AV.ps
 C).len) ∧
 ((AV.ps
 TW).len =
 (AV.ps
 TW).len ∧
 (∀
 (j :
 Nat),
 j <
 (AV.ps
 TW).len →
 (nthD
 ((0 :
 Int),
 (0 :
 Int))
 TW
 j).fst =
 (nthD
 ((0 :
 Int),
 (0 :
 Int))
 TW
 j).fst) ∧
 (∀
 (j :
 Nat),
 j <
 (AV.ps
 TW).len →
 (nthD
 ((0 :
 Int),
 (0 :
 Int))
 TW
 j).snd =
 (nthD
 ((0 :
 Int),
 (0 :
 Int))
 TW
 j).snd) ∧
 True) ∧
 (((bif
 bothF
 (bif
 validF
 N
 (mkN
 (fun
 (j :
 Nat) =>
 ((nthD
 ((0 :
 Int),
 (0 :
 Int))
 l
 j).fst,
 (nthD
 ((0 :
 Int),
 (0 :
 Int))
 l
 j).snd))
 l.length) then
 N
 else
 (0 :
 Int))
 C
 (bif
 validF
 N
 (mkN
 (fun
 (j :
 Nat) =>
 ((nthD
 ((0 :
 Int),
 (0 :
 Int))
 l
 j).fst,
 (nthD
 ((0 :
 Int),
 (0 :
 Int))
 l
 j).snd))
 l.length) then
 N
 else
 (0 :
 Int))
 C then
 bif
 validF
 N
 (mkN
 (fun
 (j :
 Nat) =>
 ((nthD
 ((0 :
 Int),
 (0 :
 Int))
 l
 j).fst,
 (nthD
 ((0 :
 Int),
 (0 :
 Int))
 l
 j).snd))
 l.length) then
 N
 else
 (0 :
 Int)
 else
 (0 :
 Int)) =
 bif
 bothF
 (bif
 validF
 N
 (mkN
 (fun
 (j :
 Nat) =>
 ((nthD
 ((0 :
 Int),
 (0 :
 Int))
 l
 j).fst,
 (nthD
 ((0 :
 Int),
 (0 :
 Int))
 l
 j).snd))
 l.length) then
 N
 else
 (0 :
 Int))
 C
 (bif
 validF
 N
 (mkN
 (fun
 (j :
 Nat) =>
 ((nthD
 ((0 :
 Int),
 (0 :
 Int))
 l
 j).fst,
 (nthD
 ((0 :
 Int),
 (0 :
 Int))
 l
 j).snd))
 l.length) then
 N
 else
 (0 :
 Int))
 C then
 bif
 validF
 N
 (mkN
 (fun
 (j :
 Nat) =>
 ((nthD
 ((0 :
 Int),
 (0 :
 Int))
 l
 j).fst,
 (nthD
 ((0 :
 Int),
 (0 :
 Int))
 l
 j).snd))
 l.length) then
 N
 else
 (0 :
 Int)
 else
 (0 :
 Int)) ∧
 (AV.ps
 TW).len =
 (AV.ps
 TW).len) ∧
 ((AV.ps
 CD).len =
 (AV.ps
 CD).len ∧
 (∀
 (j :
 Nat),
 j <
 (AV.ps
 CD).len →
 (nthD
 ((0 :
 Int),
 (0 :
 Int))
 CD
 j).fst =
 (nthD
 ((0 :
 Int),
 (0 :
 Int))
 CD
 j).fst) ∧
 (∀
 (j :
 Nat),
 j <
 (AV.ps
 CD).len →
 (nthD
 ((0 :
 Int),
 (0 :
 Int))
 CD
 j).snd =
 (nthD
 ((0 :
 Int),
 (0 :
 Int))
 CD
 j).snd) ∧
 True) ∧
 True)) ∧
 (decide
 ((↑x_1 : Int) <
 (↑(AV.ps D).len : Int)) =
 false →
 true = true))))) := by kernel_rfl
theorem v6 (N : Int) (l : List Pq) (D C TW CD : List Pq) (L : List Int) (hD : (bif okR N l then redL N l else []) = D) (hL : cycL N l = L) (hC : (bif validF N l then normL N (wF (setF l) N.toNat) else []) = C) (hTW : (bif bothF (bif validF N l then N else 0) C (bif validF N l then N else 0) C then normL (bif validF N l then N else 0) (cmpK (setF C) (setF C) (bif validF N l then N else 0).toNat) else []) = TW) (hCD : (bif validF (bif okR N l then N else 0) D then normL (bif okR N l then N else 0) (wF (setF D) (bif okR N l then N else 0).toNat) else []) = CD) : fnVc (tab [kExa [], kVal' [], kRed [none, none, o D, none, some (.is L), o C, none, o TW, none, o CD], kCyc [none, none, o D, none, some (.is L), o C, none, o TW, none, o CD], kHas [none, none, o D, none, some (.is L), o C, none, o TW, none, o CD], kClo [none, none, o D, none, some (.is L), o C, none, o TW, none, o CD], kCmp [none, none, o D, none, some (.is L), o C, none, o TW, none, o CD], kSam [none, none, o D, none, some (.is L), o C, none, o TW, none, o CD]] [(0, .of (lRdn D N TW 80))]) Try.f6 [rlV N 0 l] [arP l] (plainIs .tt) := by
  rw [v6_eq]
  simp only [eq_self, true_and, and_true, implies_true, imp_self, mkN_ps, mkN_rs, mkN_self, mkN_len, PLoop.of, lCnt, AV.len, lRdn]
  refine ⟨fun h => L9_300 (lt_of h), fun h => ?_⟩
  simp only [Bool.or_eq_false_iff, Bool.not_eq_false'] at h
  obtain ⟨hl1, hv⟩ := h
  have g1 := lt_of hl1
  obtain ⟨h0, h1, _⟩ := validF_iff.1 hv
  have hs := sup_set hv
  have hk := sup_wF hs
  have hf := fnd_iff hv
  have m1 : l.length ≤ 1099511627776 := by omega
  refine ⟨m1, hD, m1, hL, fun hc => ?_, fun hc => ?_⟩
  · have hac : acyF N.toNat (clo N l) = false := by rw [hc] at hf; simpa using hf.symm
    have her : errR N l = 20 := by rw [errR, hv, hac]; rfl
    obtain ⟨c1, c2, c3⟩ := cyc_shut hc
    rw [hL] at c1 c2 c3
    have hw : IntKind.i64.wrap ((L.length : Int) - 1) = ((L.length - 1 : Nat) : Int) := by rw [w64_eq (by omega) (by omega)]; omega
    rw [hw]
    simp only [Int.toNat_natCast]
    refine ⟨fun _ => by omega, fun _ => by omega, fun _ => by omega, fun _ => by simpa using c1, fun _ => m1, ?_⟩
    rw [her, hv, show Int.toNat 0 = 0 from rfl, c3]
    have hpos : 0 < L.length := c1
    simp
    omega
  · have hac : acyF N.toNat (clo N l) = true := by rw [hc] at hf; simpa using hf.symm
    have her : errR N l = 0 := by rw [errR, hv, hac]; rfl
    have hok : okR N l = true := by rw [okR, hv, hac]; rfl
    simp only [hv, hok, cond_true] at hD hC hTW hCD ⊢
    have eC : setF C = wF (setF l) N.toNat := by rw [← hC]; exact setF_norm h0 hk
    have vC : validF N C = true := by rw [← hC]; exact valid_norm h0 h1
    have vD : validF N D = true := by rw [← hD]; exact valid_norm h0 h1
    have eD : setF D = redF (clo N l) N.toNat := by rw [← hD]; exact setF_norm h0 (sup_red hk)
    have bCC := both_of vC vC
    simp only [vC, vD, bCC, cond_true, eC, eD] at hTW hCD ⊢
    have vT : validF N TW = true := by rw [← hTW]; exact valid_norm h0 h1
    have eT : setF TW = cmpK (wF (setF l) N.toNat) (wF (setF l) N.toNat) N.toNat := by rw [← hTW]; exact setF_norm h0 (sup_cmp hk hk)
    have sCD : CD = C := by
      rw [← hCD, ← hC]
      congr 1
      exact red_wF hs hac
    have lC : C.length ≤ 4096 := by rw [← hC]; exact norm9 h1
    have lD : D.length ≤ 4096 := by rw [← hD]; exact norm9 h1
    have lT : TW.length ≤ 4096 := by rw [← hTW]; exact norm9 h1
    have m3 : C.length ≤ 1099511627776 := by omega
    have m4 : D.length ≤ 1099511627776 := by omega
    have m5 : TW.length ≤ 1099511627776 := by omega
    rw [sCD] at hCD ⊢
    rw [her, vT]
    simp only [sameF_refl, hC, hTW, hCD, m1, m3, m4, m5, Bool.not_true, Bool.or_false, bne_self_eq_false, true_and, and_true, implies_true, Bool.true_and]
    refine ⟨fun h => (by cases h), fun _ => ⟨(), ⟨0, by omega, rfl⟩, fun i hi hlt => ?_⟩⟩
    have hi2 := lt_len hlt
    have hm := nth_mem hi2
    have hred : redF (clo N l) N.toNat (nthD (0, 0) D i).1 (nthD (0, 0) D i).2 = true := by rw [← eD]; exact setF_iff.2 hm
    refine ⟨bd hi2, hi2, fun hbad => ?_, fun _ => ⟨i + 1, by omega, by omega, wrS (n := 4096) (by omega) (by omega)⟩⟩
    rw [redF, Bool.and_eq_true, Bool.not_eq_true'] at hred
    rw [eT] at hbad
    have := hred.2
    rw [clo, hbad] at this
    cases this
end Go.Proofs.Ytcbmbnlgilampaa
