/-
  A part of the proof (Rw33).
-/
import Derived.Test.YtcbmbnlgilampaaRw31
namespace Go.Proofs.Ytcbmbnlgilampaa
open Go Go.Proofs.Ytcbmbnlgilampaa.Sx
set_option maxRecDepth 100000
set_option linter.unusedSimpArgs false
set_option linter.unusedVariables false

theorem Tr.rev {f g : Pf} (h : ∀ x y, g x y = f y x) {a b : Int} (ht : Tr f a b) : Tr g b a := by
  induction ht with
  | one e => exact .one (by rw [h]; exact e)
  | tail _ e ih => exact (Tr.one (by rw [h]; exact e)).trans ih
theorem acy_swap {n : Nat} {f g : Pf} (hf : Sup n f) (hg : Sup n g) (h : ∀ x y, g x y = f y x) : acyF n (wF g n) = acyF n (wF f n) := by
  rw [Bool.eq_iff_iff, acy_iff (sup_wF hg), acy_iff (sup_wF hf)]
  constructor
  · intro hh a
    rw [Bool.eq_false_iff]
    intro e
    have := (wF_iff hg).2 (((wF_iff hf).1 e).rev h)
    rw [hh] at this; cases this
  · intro hh a
    rw [Bool.eq_false_iff]
    intro e
    have := (wF_iff hf).2 (((wF_iff hg).1 e).rev (fun x y => (h y x).symm))
    rw [hh] at this; cases this
theorem v8_eq (A : Int) (a : List Pq) (B : Int) (b : List Pq) (C IB IA D IC IIA NA : List Pq) : (fnVc (tab [kExa [], kVal' [], kCmp [none, none, none, none, o C, none, o IB, o IA, o D], kInv [none, none, none, none, o C, none, o IB, o IA, o D, none, o IC, o IA, o IIA, o NA, o IA], kSam [none, none, none, none, o C, none, o IB, o IA, o D, none, o IC, o IA, o IIA, o NA, o IA], kNml [none, none, none, none, o C, none, o IB, o IA, o D, none, o IC, o IA, o IIA, o NA, o IA], kAcy [none, none, none, none, o C, none, o IB, o IA, o D, none, o IC, o IA, o IIA, o NA, o IA]] []) Try.f8 [rlV A 0 a, rlV B 1 b] [arP a, arP b] (plainIs .tt)) = (((decide ((↑a.length : Int) > (300 : Int)) || decide ((↑b.length : Int) > (300 : Int))) = false → a.length = a.length) ∧
 ((decide ((↑a.length : Int) > (300 : Int)) || decide ((↑b.length : Int) > (300 : Int))) = false →
 (mkN (fun (j : Nat) => ((nthD ((0 : Int), (0 : Int)) a j).fst, (nthD ((0 : Int), (0 : Int)) a j).snd))
 a.length).length ≤
 (1099511627776 : Nat)) ∧
 ((decide ((↑a.length : Int) > (300 : Int)) || decide ((↑b.length : Int) > (300 : Int)) ||
 !validF A
 (mkN (fun (j : Nat) => ((nthD ((0 : Int), (0 : Int)) a j).fst, (nthD ((0 : Int), (0 : Int)) a j).snd))
 a.length)) =
 false →
 b.length = b.length) ∧
 ((decide ((↑a.length : Int) > (300 : Int)) || decide ((↑b.length : Int) > (300 : Int)) ||
 !validF A
 (mkN (fun (j : Nat) => ((nthD ((0 : Int), (0 : Int)) a j).fst, (nthD ((0 : Int), (0 : Int)) a j).snd))
 a.length)) =
 false →
 (mkN (fun (j : Nat) => ((nthD ((0 : Int), (0 : Int)) b j).fst, (nthD ((0 : Int), (0 : Int)) b j).snd))
 b.length).length ≤
 (1099511627776 : Nat)) ∧
 ((decide ((↑a.length : Int) > (300 : Int)) || decide ((↑b.length : Int) > (300 : Int)) ||
 !validF A
 (mkN
 (fun (j : Nat) =>
 ((nthD ((0 : Int), (0 : Int)) a j).fst, (nthD ((0 : Int), (0 : Int)) a j).snd))
 a.length) ||
 !validF B
 (mkN
 (fun (j : Nat) =>
 ((nthD ((0 : Int), (0 : Int)) b j).fst, (nthD ((0 : Int), (0 : Int)) b j).snd))
 b.length) ||
 A != B) =
 true →
 true = true) ∧
 ((decide ((↑a.length : Int) > (300 : Int)) || decide ((↑b.length : Int) > (300 : Int)) ||
 !validF A
 (mkN
 (fun (j : Nat) =>
 ((nthD ((0 : Int), (0 : Int)) a j).fst, (nthD ((0 : Int), (0 : Int)) a j).snd))
 a.length) ||
 !validF B
 (mkN
 (fun (j : Nat) =>
 ((nthD ((0 : Int), (0 : Int)) b j).fst, (nthD ((0 : Int), (0 : Int)) b j).snd))
 b.length) ||
 A != B) =
 false →
 a.length = a.length ∧
 b.length = b.length ∧
 (mkN (fun (j : Nat) => ((nthD ((0 : Int), (0 : Int)) a j).fst, (nthD ((0 : Int), (0 : Int)) a j).snd))
 a.length).length ≤
 (1099511627776 : Nat) ∧
 (mkN (fun (j : Nat) => ((nthD ((0 : Int), (0 : Int)) b j).fst, (nthD ((0 : Int), (0 : Int)) b j).snd))
 b.length).length ≤
 (1099511627776 : Nat) ∧
 (bif
 bothF A
 (mkN
 (fun (j : Nat) =>
 ((nthD ((0 : Int), (0 : Int)) a j).fst, (nthD ((0 : Int), (0 : Int)) a j).snd))
 a.length)
 B
 (mkN
 (fun (j : Nat) =>
 ((nthD ((0 : Int), (0 : Int)) b j).fst, (nthD ((0 : Int), (0 : Int)) b j).snd))
 b.length) then
 normL A
 (cmpK
 (setF
 (mkN
 (fun (j : Nat) =>
 ((nthD ((0 : Int), (0 : Int)) a j).fst, (nthD ((0 : Int), (0 : Int)) a j).snd))
 a.length))
 (setF
 (mkN
 (fun (j : Nat) =>
 ((nthD ((0 : Int), (0 : Int)) b j).fst, (nthD ((0 : Int), (0 : Int)) b j).snd))
 b.length))
 A.toNat)
 else []) =
 C ∧
 b.length = b.length ∧
 (mkN
 (fun (j : Nat) =>
 ((nthD ((0 : Int), (0 : Int)) b j).fst, (nthD ((0 : Int), (0 : Int)) b j).snd))
 b.length).length ≤
 (1099511627776 : Nat) ∧
 (bif
 validF B
 (mkN
 (fun (j : Nat) =>
 ((nthD ((0 : Int), (0 : Int)) b j).fst, (nthD ((0 : Int), (0 : Int)) b j).snd))
 b.length) then
 normL B
 (setF
 (swapL
 (mkN
 (fun (j : Nat) =>
 ((nthD ((0 : Int), (0 : Int)) b j).fst,
 (nthD ((0 : Int), (0 : Int)) b j).snd))
 b.length)))
 else []) =
 IB ∧
 a.length = a.length ∧
 (mkN
 (fun (j : Nat) =>
 ((nthD ((0 : Int), (0 : Int)) a j).fst, (nthD ((0 : Int), (0 : Int)) a j).snd))
 a.length).length ≤
 (1099511627776 : Nat) ∧
 (bif
 validF A
 (mkN
 (fun (j : Nat) =>
 ((nthD ((0 : Int), (0 : Int)) a j).fst,
 (nthD ((0 : Int), (0 : Int)) a j).snd))
 a.length) then
 normL A
 (setF
 (swapL
 (mkN
 (fun (j : Nat) =>
 ((nthD ((0 : Int), (0 : Int)) a j).fst,
 (nthD ((0 : Int), (0 : Int)) a j).snd))
 a.length)))
 else []) =
 IA ∧
 (AV.ps IB).len = (AV.ps IB).len ∧
 (AV.ps IA).len = (AV.ps IA).len ∧
 mkN
 (fun (j : Nat) =>
 ((nthD ((0 : Int), (0 : Int)) IB j).fst,
 (nthD ((0 : Int), (0 : Int)) IB j).snd))
 (AV.ps IB).len =
 IB ∧
 mkN
 (fun (j : Nat) =>
 ((nthD ((0 : Int), (0 : Int)) IA j).fst,
 (nthD ((0 : Int), (0 : Int)) IA j).snd))
 (AV.ps IA).len =
 IA ∧
 IB.length ≤ (1099511627776 : Nat) ∧
 IA.length ≤ (1099511627776 : Nat) ∧
 (bif
 bothF
 (bif
 validF B
 (mkN
 (fun (j : Nat) =>
 ((nthD ((0 : Int), (0 : Int)) b j).fst,
 (nthD ((0 : Int), (0 : Int)) b j).snd))
 b.length) then
 B
 else (0 : Int))
 IB
 (bif
 validF A
 (mkN
 (fun (j : Nat) =>
 ((nthD ((0 : Int), (0 : Int)) a j).fst,
 (nthD ((0 : Int), (0 : Int)) a j).snd))
 a.length) then
 A
 else (0 : Int))
 IA then
 normL
 (bif
 validF B
 (mkN
 (fun (j : Nat) =>
 ((nthD ((0 : Int), (0 : Int)) b j).fst,
 (nthD ((0 : Int), (0 : Int)) b j).snd))
 b.length) then
 B
 else (0 : Int))
 (cmpK (setF IB) (setF IA)
 (bif
 validF B
 (mkN
 (fun (j : Nat) =>
 ((nthD ((0 : Int), (0 : Int)) b j).fst,
 (nthD ((0 : Int), (0 : Int)) b j).snd))
 b.length) then
 B
 else (0 : Int)).toNat)
 else []) =
 D ∧
 (((bif
 bothF A
 (mkN
 (fun (j : Nat) =>
 ((nthD ((0 : Int), (0 : Int)) a j).fst,
 (nthD ((0 : Int), (0 : Int)) a j).snd))
 a.length)
 B
 (mkN
 (fun (j : Nat) =>
 ((nthD ((0 : Int), (0 : Int)) b j).fst,
 (nthD ((0 : Int), (0 : Int)) b j).snd))
 b.length) then
 (0 : Int)
 else (1 : Int)) !=
 (0 : Int) ||
 (bif
 bothF
 (bif
 validF B
 (mkN
 (fun (j : Nat) =>
 ((nthD ((0 : Int), (0 : Int)) b j).fst,
 (nthD ((0 : Int), (0 : Int)) b j).snd))
 b.length) then
 B
 else (0 : Int))
 IB
 (bif
 validF A
 (mkN
 (fun (j : Nat) =>
 ((nthD ((0 : Int), (0 : Int)) a j).fst,
 (nthD ((0 : Int), (0 : Int)) a j).snd))
 a.length) then
 A
 else (0 : Int))
 IA then
 (0 : Int)
 else (1 : Int)) !=
 (0 : Int)) =
 false →
 (AV.ps C).len = (AV.ps C).len) ∧
 (((bif
 bothF A
 (mkN
 (fun (j : Nat) =>
 ((nthD ((0 : Int), (0 : Int)) a j).fst,
 (nthD ((0 : Int), (0 : Int)) a j).snd))
 a.length)
 B
 (mkN
 (fun (j : Nat) =>
 ((nthD ((0 : Int), (0 : Int)) b j).fst,
 (nthD ((0 : Int), (0 : Int)) b j).snd))
 b.length) then
 (0 : Int)
 else (1 : Int)) !=
 (0 : Int) ||
 (bif
 bothF
 (bif
 validF B
 (mkN
 (fun (j : Nat) =>
 ((nthD ((0 : Int), (0 : Int)) b j).fst,
 (nthD ((0 : Int), (0 : Int)) b j).snd))
 b.length) then
 B
 else (0 : Int))
 IB
 (bif
 validF A
 (mkN
 (fun (j : Nat) =>
 ((nthD ((0 : Int), (0 : Int)) a j).fst,
 (nthD ((0 : Int), (0 : Int)) a j).snd))
 a.length) then
 A
 else (0 : Int))
 IA then
 (0 : Int)
 else (1 : Int)) !=
 (0 : Int)) =
 false →
 mkN
 (fun (j : Nat) =>
 ((nthD ((0 : Int), (0 : Int)) C j).fst,
 (nthD ((0 : Int), (0 : Int)) C j).snd))
 (AV.ps C).len =
 C) ∧
 (((bif
 bothF A
 (mkN
 (fun (j : Nat) =>
 ((nthD ((0 : Int), (0 : Int)) a j).fst,
 (nthD ((0 : Int), (0 : Int)) a j).snd))
 a.length)
 B
 (mkN
 (fun (j : Nat) =>
 ((nthD ((0 : Int), (0 : Int)) b j).fst,
 (nthD ((0 : Int), (0 : Int)) b j).snd))
 b.length) then
 (0 : Int)
 else (1 : Int)) !=
 (0 : Int) ||
 (bif
 bothF
 (bif
 validF B
 (mkN
 (fun (j : Nat) =>
 ((nthD ((0 : Int), (0 : Int)) b j).fst,
 (nthD ((0 : Int), (0 : Int)) b j).snd))
 b.length) then
 B
 else (0 : Int))
 IB
 (bif
 validF A
 (mkN
 (fun (j : Nat) =>
 ((nthD ((0 : Int), (0 : Int)) a j).fst,
 (nthD ((0 : Int), (0 : Int)) a j).snd))
 a.length) then
 A
 else (0 : Int))
 IA then
 (0 : Int)
 else (1 : Int)) !=
 (0 : Int)) =
 false →
 C.length ≤ (1099511627776 : Nat)) ∧
 (((bif
 bothF A
 (mkN
 (fun (j : Nat) =>
 ((nthD ((0 : Int), (0 : Int)) a j).fst,
 (nthD ((0 : Int), (0 : Int)) a j).snd))
 a.length)
 B
 (mkN
 (fun (j : Nat) =>
 ((nthD ((0 : Int), (0 : Int)) b j).fst,
 (nthD ((0 : Int), (0 : Int)) b j).snd))
 b.length) then
 (0 : Int)
 else (1 : Int)) !=
 (0 : Int) ||
 (bif
 bothF
 (bif
 validF B
 (mkN
 (fun (j : Nat) =>
 ((nthD ((0 : Int), (0 : Int)) b j).fst,
 (nthD ((0 : Int), (0 : Int)) b
 j).snd))
 b.length) then
 B
 else (0 : Int))
 IB
 (bif
 validF A
 (mkN
 (fun (j : Nat) =>
 ((nthD ((0 : Int), (0 : Int)) a j).fst,
 (nthD ((0 : Int), (0 : Int)) a
 j).snd))
 a.length) then
 A
 else (0 : Int))
 IA then
 (0 : Int)
 else (1 : Int)) !=
 (0 : Int)) =
 false →
 (bif
 validF
 (bif
 bothF A
 (mkN
 (fun (j : Nat) =>
 ((nthD ((0 : Int), (0 : Int)) a j).fst,
 (nthD ((0 : Int), (0 : Int)) a j).snd))
 a.length)
 B
 (mkN
 (fun (j : Nat) =>
 ((nthD ((0 : Int), (0 : Int)) b j).fst,
 (nthD ((0 : Int), (0 : Int)) b j).snd))
 b.length) then
 A
 else (0 : Int))
 C then
 normL
 (bif
 bothF A
 (mkN
 (fun (j : Nat) =>
 ((nthD ((0 : Int), (0 : Int)) a j).fst,
 (nthD ((0 : Int), (0 : Int)) a j).snd))
 a.length)
 B
 (mkN
 (fun (j : Nat) =>
 ((nthD ((0 : Int), (0 : Int)) b j).fst,
 (nthD ((0 : Int), (0 : Int)) b j).snd))
 b.length) then
 A
 else (0 : Int))
 (setF (swapL C))
 else []) =
 IC) ∧
 (((bif
 bothF A
 (mkN
 (fun (j : Nat) =>
 ((nthD ((0 : Int), (0 : Int)) a j).fst,
 (nthD ((0 : Int), (0 : Int)) a j).snd))
 a.length)
 B
 (mkN
 (fun (j : Nat) =>
 ((nthD ((0 : Int), (0 : Int)) b j).fst,
 (nthD ((0 : Int), (0 : Int)) b j).snd))
 b.length) then
 (0 : Int)
 else (1 : Int)) !=
 (0 : Int) ||
 (bif
 bothF
 (bif
 validF B
 (mkN
 (fun (j : Nat) =>
 ((nthD ((0 : Int), (0 : Int)) b
 j).fst,
 (nthD ((0 : Int), (0 : Int)) b
 j).snd))
 b.length) then
 B
 else (0 : Int))
 IB
 (bif
 validF A
 (mkN
 (fun (j : Nat) =>
 ((nthD ((0 : Int), (0 : Int)) a
 j).fst,
 (nthD ((0 : Int), (0 : Int)) a
 j).snd))
 a.length) then
 A
 else (0 : Int))
 IA then
 (0 : Int)
 else (1 : Int)) !=
 (0 : Int)) =
 false →
 (AV.ps IC).len = (AV.ps IC).len) ∧
 (((bif
 bothF A
 (mkN
 (fun (j : Nat) =>
 ((nthD ((0 : Int), (0 : Int)) a j).fst,
 (nthD ((0 : Int), (0 : Int)) a j).snd))
 a.length)
 B
 (mkN
 (fun (j : Nat) =>
 ((nthD ((0 : Int), (0 : Int)) b j).fst,
 (nthD ((0 : Int), (0 : Int)) b j).snd))
 b.length) then
 (0 : Int)
 else (1 : Int)) !=
 (0 : Int) ||
 (bif
 bothF
 (bif
 validF B
 (mkN
 (fun (j : Nat) =>
 ((nthD ((0 : Int), (0 : Int)) b
 j).fst,
 (nthD ((0 : Int), (0 : Int)) b
 j).snd))
 b.length) then
 B
 else (0 : Int))
 IB
 (bif
 validF A
 (mkN
 (fun (j : Nat) =>
 ((nthD ((0 : Int), (0 : Int)) a
 j).fst,
 (nthD ((0 : Int), (0 : Int)) a
 j).snd))
 a.length) then
 A
 else (0 : Int))
 IA then
 (0 : Int)
 else (1 : Int)) !=
 (0 : Int)) =
 false →
 (AV.ps D).len = (AV.ps D).len) ∧
 (((bif
 bothF A
 (mkN
 (fun (j : Nat) =>
 ((nthD ((0 : Int), (0 : Int)) a j).fst,
 (nthD ((0 : Int), (0 : Int)) a
 j).snd))
 a.length)
 B
 (mkN
 (fun (j : Nat) =>
 ((nthD ((0 : Int), (0 : Int)) b j).fst,
 (nthD ((0 : Int), (0 : Int)) b
 j).snd))
 b.length) then
 (0 : Int)
 else (1 : Int)) !=
 (0 : Int) ||
 (bif
 bothF
 (bif
 validF B
 (mkN
 (fun (j : Nat) =>
 ((nthD ((0 : Int), (0 : Int)) b
 j).fst,
 (nthD ((0 : Int), (0 : Int)) b
 j).snd))
 b.length) then
 B
 else (0 : Int))
 IB
 (bif
 validF A
 (mkN
 (fun (j : Nat) =>
 ((nthD ((0 : Int), (0 : Int)) a
 j).fst,
 (nthD ((0 : Int), (0 : Int)) a
 j).snd))
 a.length) then
 A
 else (0 : Int))
 IA then
 (0 : Int)
 else (1 : Int)) !=
 (0 : Int)) =
 false →
 mkN
 (fun (j : Nat) =>
 ((nthD ((0 : Int), (0 : Int)) IC j).fst,
 (nthD ((0 : Int), (0 : Int)) IC j).snd))
 (AV.ps IC).len =
 IC) ∧
 (((bif
 bothF A
 (mkN
 (fun (j : Nat) =>
 ((nthD ((0 : Int), (0 : Int)) a
 j).fst,
 (nthD ((0 : Int), (0 : Int)) a
 j).snd))
 a.length)
 B
 (mkN
 (fun (j : Nat) =>
 ((nthD ((0 : Int), (0 : Int)) b
 j).fst,
 (nthD ((0 : Int), (0 : Int)) b
 j).snd))
 b.length) then
 (0 : Int)
 else (1 : Int)) !=
 (0 : Int) ||
 (bif
 bothF
 (bif
 validF B
 (mkN
 (fun (j : Nat) =>
 ((nthD ((0 : Int), (0 : Int)) b
 j).fst,
 (nthD ((0 : Int), (0 : Int)) b
 j).snd))
 b.length) then
 B
 else (0 : Int))
 IB
 (bif
 validF A
 (mkN
 (fun (j : Nat) =>
 ((nthD ((0 : Int), (0 : Int)) a
 j).fst,
 (nthD ((0 : Int), (0 : Int)) a
 j).snd))
 a.length) then
 A
 else (0 : Int))
 IA then
 (0 : Int)
 else (1 : Int)) !=
 (0 : Int)) =
 false →
 mkN
 (fun (j : Nat) =>
 ((nthD ((0 : Int), (0 : Int)) D j).fst,
 (nthD ((0 : Int), (0 : Int)) D j).snd))
 (AV.ps D).len =
 D) ∧
 (((bif
 bothF A
 (mkN
 (fun (j : Nat) =>
 ((nthD ((0 : Int), (0 : Int)) a
 j).fst,
 (nthD ((0 : Int), (0 : Int)) a
 j).snd))
 a.length)
 B
 (mkN
 (fun (j : Nat) =>
 ((nthD ((0 : Int), (0 : Int)) b
 j).fst,
 (nthD ((0 : Int), (0 : Int)) b
 j).snd))
 b.length) then
 (0 : Int)
 else (1 : Int)) !=
 (0 : Int) ||
 (bif
 bothF
 (bif
 validF B
 (mkN
 (fun (j : Nat) =>
 ((nthD ((0 : Int), (0 : Int))
 b j).fst,
 (nthD ((0 : Int), (0 : Int))
 b j).snd))
 b.length) then
 B
 else (0 : Int))
 IB
 (bif
 validF A
 (mkN
 (fun (j : Nat) =>
 ((nthD ((0 : Int), (0 : Int))
 a j).fst,
 (nthD ((0 : Int), (0 : Int))
 a j).snd))
 a.length) then
 A
 else (0 : Int))
 IA then
 (0 : Int)
 else (1 : Int)) !=
 (0 : Int)) =
 false →
 IC.length ≤ (1099511627776 : Nat)) ∧
 (((bif
 bothF A
 (mkN
 (fun (j : Nat) =>
 ((nthD ((0 : Int), (0 : Int)) a
 j).fst,
 (nthD ((0 : Int), (0 : Int)) a
 j).snd))
 a.length)
 B
 (mkN
 (fun (j : Nat) =>
 ((nthD ((0 : Int), (0 : Int)) b
 j).fst,
 (nthD ((0 : Int), (0 : Int)) b
 j).snd))
 b.length) then
 (0 : Int)
 else (1 : Int)) !=
 (0 : Int) ||
 (bif
 bothF
 (bif
 validF B
 (mkN
 (fun (j : Nat) =>
 ((nthD
 ((0 : Int), (0 : Int))
 b j).fst,
 (nthD
 ((0 : Int), (0 : Int))
 b j).snd))
 b.length) then
 B
 else (0 : Int))
 IB
 (bif
 validF A
 (mkN
 (fun (j : Nat) =>
 ((nthD
 ((0 : Int), (0 : Int))
 a j).fst,
 (nthD
 ((0 : Int), (0 : Int))
 a j).snd))
 a.length) then
 A
 else (0 : Int))
 IA then
 (0 : Int)
 else (1 : Int)) !=
 (0 : Int)) =
 false →
 D.length ≤ (1099511627776 : Nat)) ∧
 (((bif
 bothF A
 (mkN
 (fun (j : Nat) =>
 ((nthD ((0 : Int), (0 : Int))
 a j).fst,
 (nthD ((0 : Int), (0 : Int))
 a j).snd))
 a.length)
 B
 (mkN
 (fun (j : Nat) =>
 ((nthD ((0 : Int), (0 : Int))
 b j).fst,
 (nthD ((0 : Int), (0 : Int))
 b j).snd))
 b.length) then
 (0 : Int)
 else (1 : Int)) !=
 (0 : Int) ||
 (bif
 bothF
 (bif
 validF B
 (mkN
 (fun (j : Nat) =>
 ((nthD
 ((0 : Int),
 (0 : Int))
 b j).fst,
 (nthD
 ((0 : Int),
 (0 : Int))
 b j).snd))
 b.length) then
 B
 else (0 : Int))
 IB
 (bif
 validF A
 (mkN
 (fun (j : Nat) =>
 ((nthD
 ((0 : Int),
 (0 : Int))
 a j).fst,
 (nthD
 ((0 : Int),
 (0 : Int))
 a j).snd))
 a.length) then
 A
 else (0 : Int))
 IA then
 (0 : Int)
 else (1 : Int)) !=
 (0 : Int) ||
 !sameF
 (bif
 validF
 (bif
 bothF A
 (mkN
 (fun (j : Nat) =>
 ((nthD
 ((0 : Int),
 (0 : Int))
 a j).fst,
 (nthD
 ((0 : Int),
 (0 : Int))
 a j).snd))
 a.length)
 B
 (mkN
 (fun (j : Nat) =>
 ((nthD
 ((0 : Int),
 (0 : Int))
 b j).fst,
 (nthD
 ((0 : Int),
 (0 : Int))
 b j).snd))
 b.length) then
 A
 else (0 : Int))
 C then
 bif
 bothF A
 (mkN
 (fun (j : Nat) =>
 ((nthD
 ((0 : Int), (0 : Int))
 a j).fst,
 (nthD
 ((0 : Int), (0 : Int))
 a j).snd))
 a.length)
 B
 (mkN
 (fun (j : Nat) =>
 ((nthD
 ((0 : Int), (0 : Int))
 b j).fst,
 (nthD
 ((0 : Int), (0 : Int))
 b j).snd))
 b.length) then
 A
 else (0 : Int)
 else (0 : Int))
 IC
 (bif
 bothF
 (bif
 validF B
 (mkN
 (fun (j : Nat) =>
 ((nthD
 ((0 : Int),
 (0 : Int))
 b j).fst,
 (nthD
 ((0 : Int),
 (0 : Int))
 b j).snd))
 b.length) then
 B
 else (0 : Int))
 IB
 (bif
 validF A
 (mkN
 (fun (j : Nat) =>
 ((nthD
 ((0 : Int),
 (0 : Int))
 a j).fst,
 (nthD
 ((0 : Int),
 (0 : Int))
 a j).snd))
 a.length) then
 A
 else (0 : Int))
 IA then
 bif
 validF B
 (mkN
 (fun (j : Nat) =>
 ((nthD
 ((0 : Int), (0 : Int))
 b j).fst,
 (nthD
 ((0 : Int), (0 : Int))
 b j).snd))
 b.length) then
 B
 else (0 : Int)
 else (0 : Int))
 D) =
 true →
 false = true) ∧
 (((bif
 bothF A
 (mkN
 (fun (j : Nat) =>
 ((nthD ((0 : Int), (0 : Int))
 a j).fst,
 (nthD ((0 : Int), (0 : Int))
 a j).snd))
 a.length)
 B
 (mkN
 (fun (j : Nat) =>
 ((nthD ((0 : Int), (0 : Int))
 b j).fst,
 (nthD ((0 : Int), (0 : Int))
 b j).snd))
 b.length) then
 (0 : Int)
 else (1 : Int)) !=
 (0 : Int) ||
 (bif
 bothF
 (bif
 validF B
 (mkN
 (fun (j : Nat) =>
 ((nthD
 ((0 : Int),
 (0 : Int))
 b j).fst,
 (nthD
 ((0 : Int),
 (0 : Int))
 b j).snd))
 b.length) then
 B
 else (0 : Int))
 IB
 (bif
 validF A
 (mkN
 (fun (j : Nat) =>
 ((nthD
 ((0 : Int),
 (0 : Int))
 a j).fst,
 (nthD
 ((0 : Int),
 (0 : Int))
 a j).snd))
 a.length) then
 A
 else (0 : Int))
 IA then
 (0 : Int)
 else (1 : Int)) !=
 (0 : Int) ||
 !sameF
 (bif
 validF
 (bif
 bothF A
 (mkN
 (fun (j : Nat) =>
 ((nthD
 ((0 : Int),
 (0 : Int))
 a j).fst,
 (nthD
 ((0 : Int),
 (0 : Int))
 a j).snd))
 a.length)
 B
 (mkN
 (fun (j : Nat) =>
 ((nthD
 ((0 : Int),
 (0 : Int))
 b j).fst,
 (nthD
 ((0 : Int),
 (0 : Int))
 b j).snd))
 b.length) then
 A
 else (0 : Int))
 C then
 bif
 bothF A
 (mkN
 (fun (j : Nat) =>
 ((nthD
 ((0 : Int), (0 : Int))
 a j).fst,
 (nthD
 ((0 : Int), (0 : Int))
 a j).snd))
 a.length)
 B
 (mkN
 (fun (j : Nat) =>
 ((nthD
 ((0 : Int), (0 : Int))
 b j).fst,
 (nthD
 ((0 : Int), (0 : Int))
 b j).snd))
 b.length) then
 A
 else (0 : Int)
 else (0 : Int))
 IC
 (bif
 bothF
 (bif
 validF B
 (mkN
 (fun (j : Nat) =>
 ((nthD
 ((0 : Int),
 (0 : Int))
 b j).fst,
 (nthD
 ((0 : Int),
 (0 : Int))
 b j).snd))
 b.length) then
 B
 else (0 : Int))
 IB
 (bif
 validF A
 (mkN
 (fun (j : Nat) =>
 ((nthD
 ((0 : Int),
 (0 : Int))
 a j).fst,
 (nthD
 ((0 : Int),
 (0 : Int))
 a j).snd))
 a.length) then
 A
 else (0 : Int))
 IA then
 bif
 validF B
 (mkN
 (fun (j : Nat) =>
 ((nthD
 ((0 : Int), (0 : Int))
 b j).fst,
 (nthD
 ((0 : Int), (0 : Int))
 b j).snd))
 b.length) then
 B
 else (0 : Int)
 else (0 : Int))
 D) =
 false →
 a.length = a.length ∧
 (mkN
 (fun (j : Nat) =>
 ((nthD ((0 : Int), (0 : Int)) a
 j).fst,
 (nthD ((0 : Int), (0 : Int)) a
 j).snd))
 a.length).length ≤
 (1099511627776 : Nat) ∧
 (bif
 validF A
 (mkN
 (fun (j : Nat) =>
 ((nthD ((0 : Int), (0 : Int))
 a j).fst,
 (nthD ((0 : Int), (0 : Int))
 a j).snd))
 a.length) then
 normL A
 (setF
 (swapL
 (mkN
 (fun (j : Nat) =>
 ((nthD
 ((0 : Int), (0 : Int))
 a j).fst,
 (nthD
 ((0 : Int), (0 : Int))
 a j).snd))
 a.length)))
 else []) =
 IA ∧
 (AV.ps IA).len = (AV.ps IA).len ∧
 mkN
 (fun (j : Nat) =>
 ((nthD ((0 : Int), (0 : Int)) IA
 j).fst,
 (nthD ((0 : Int), (0 : Int))
 IA j).snd))
 (AV.ps IA).len =
 IA ∧
 IA.length ≤ (1099511627776 : Nat) ∧
 (bif
 validF
 (bif
 validF A
 (mkN
 (fun (j : Nat) =>
 ((nthD
 ((0 :
 Int),
 (0 :
 Int))
 a j).fst,
 (nthD
 ((0 :
 Int),
 (0 :
 Int))
 a j).snd))
 a.length) then
 A
 else (0 : Int))
 IA then
 normL
 (bif
 validF A
 (mkN
 (fun (j : Nat) =>
 ((nthD
 ((0 : Int),
 (0 : Int))
 a j).fst,
 (nthD
 ((0 : Int),
 (0 : Int))
 a j).snd))
 a.length) then
 A
 else (0 : Int))
 (setF (swapL IA))
 else []) =
 IIA ∧
 a.length = a.length ∧
 (mkN
 (fun (j : Nat) =>
 ((nthD
 ((0 : Int),
 (0 : Int))
 a j).fst,
 (nthD
 ((0 : Int),
 (0 : Int))
 a j).snd))
 a.length).length ≤
 (1099511627776 : Nat) ∧
 (bif
 validF A
 (mkN
 (fun (j : Nat) =>
 ((nthD
 ((0 :
 Int),
 (0 :
 Int))
 a j).fst,
 (nthD
 ((0 :
 Int),
 (0 :
 Int))
 a j).snd))
 a.length) then
 normL A
 (setF
 (mkN
 (fun (j : Nat) =>
 ((nthD
 ((0 :
 Int),
 (0 :
 Int))
 a j).fst,
 (nthD
 ((0 :
 Int),
 (0 :
 Int))
 a j).snd))
 a.length))
 else []) =
 NA ∧
 (AV.ps IIA).len =
 (AV.ps IIA).len ∧
 (AV.ps NA).len =
 (AV.ps NA).len ∧
 mkN
 (fun (j : Nat) =>
 ((nthD
 ((0 :
 Int),
 (0 :
 Int))
 IIA
 j).fst,
 (nthD
 ((0 :
 Int),
 (0 :
 Int))
 IIA
 j).snd))
 (AV.ps IIA).len =
 IIA ∧
 mkN
 (fun
 (j : Nat) =>
 ((nthD
 ((0 :
 Int),
 (0 :
 Int))
 NA
 j).fst,
 (nthD
 ((0 :
 Int),
 (0 :
 Int))
 NA
 j).snd))
 (AV.ps NA).len =
 NA ∧
 IIA.length ≤
 (1099511627776 :
 Nat) ∧
 NA.length ≤
 (1099511627776 :
 Nat) ∧
 (sameF
 (bif
 validF
 (bif
 validF
 A
 (mkN
 (fun
 (j :
 Nat) =>
 ((nthD
 ((0 :
 Int),
 (0 :
 Int))
 a
 j).fst,
 (nthD
 ((0 :
 Int),
 (0 :
 Int))
 a
 j).snd))
 a.length) then
 A
 else
 (0 :
 Int))
 IA then
 bif
 validF
 A
 (mkN
 (fun
 (j :
 Nat) =>
 ((nthD
 ((0 :
 Int),
 (0 :
 Int))
 a
 j).fst,
 (nthD
 ((0 :
 Int),
 (0 :
 Int))
 a
 j).snd))
 a.length) then
 A
 else
 (0 :
 Int)
 else
 (0 :
 Int))
 IIA
 (bif
 validF
 A
 (mkN
 (fun
 (j :
 Nat) =>
 ((nthD
 ((0 :
 Int),
 (0 :
 Int))
 a
 j).fst,
 (nthD
 ((0 :
 Int),
 (0 :
 Int))
 a
 j).snd))
 a.length) then
 A
 else
 (0 :
 Int))
 NA =
 true →
 a.length =
 a.length) ∧
 (sameF
 (bif
 validF
 (bif
 validF
 A
 (mkN
 (fun
 (j :
 Nat) =>
 ((nthD
 ((0 :
 Int),
 (0 :
 Int))
 a
 j).fst,
 (nthD
 ((0 :
 Int),
 (0 :
 Int))
 a
 j).snd))
 a.length) then
 A
 else
 (0 :
 Int))
 IA then
 bif
 validF
 A
 (mkN
 (fun
 (j :
 Nat) =>
 ((nthD
 ((0 :
 Int),
 (0 :
 Int))
 a
 j).fst,
 (nthD
 ((0 :
 Int),
 (0 :
 Int))
 a
 j).snd))
 a.length) then
 A
 else
 (0 :
 Int)
 else
 (0 :
 Int))
 IIA
 (bif
 validF
 A
 (mkN
 (fun
 (j :
 Nat) =>
 ((nthD
 ((0 :
 Int),
 (0 :
 Int))
 a
 j).fst,
 (nthD
 ((0 :
 Int),
 (0 :
 Int))
 a
 j).snd))
 a.length) then
 A
 else
 (0 :
 Int))
 NA =
 true →
 (mkN
 (fun
 (j :
 Nat) =>
 ((nthD
 ((0 :
 Int),
 (0 :
 Int))
 a
 j).fst,
 (nthD
 ((0 :
 Int),
 (0 :
 Int))
 a
 j).snd))
 a.length).length ≤
 (1099511627776 :
 Nat)) ∧
 (sameF
 (bif
 validF
 (bif
 validF
 A
 (mkN
 (fun
 (j :
 Nat) =>
 ((nthD
 ((0 :
 Int),
 (0 :
 Int))
 a
 j).fst,
 (nthD
 ((0 :
 Int),
 (0 :
 Int))
 a
 j).snd))
 a.length) then
 A
 else
 (0 :
 Int))
 IA then
 bif
 validF
 A
 (mkN
 (fun
 (j :
 Nat) =>
 ((nthD
 ((0 :
 Int),
 (0 :
 Int))
 a
 j).fst,
 (nthD
 ((0 :
 Int),
 (0 :
 Int))
 a
 j).snd))
 a.length) then
 A
 else
 (0 :
 Int)
 else
 (0 :
 Int))
 IIA
 (bif
 validF
 A
 (mkN
 (fun
 (j :
 Nat) =>
 ((nthD
 ((0 :
 Int),
 (0 :
 Int))
 a
 j).fst,
 (nthD
 ((0 :
 Int),
 (0 :
 Int))
 a
 j).snd))
 a.length) then
 A
 else
 (0 :
 Int))
 NA =
 true →
 a.length =
 a.length) ∧
 (sameF
 (bif
 validF
 (bif
 validF
 A
 (mkN
 (fun
 (j :
 Nat) =>
 ((nthD
 ((0 :
 Int),
 (0 :
 Int))
 a
 j).fst,
 (nthD
 ((0 :
 Int),
 (0 :
 Int))
 a
 j).snd))
 a.length) then
 A
 else
 (0 :
 Int))
 IA then
 bif
 validF
 A
 (mkN
 (fun
 (j :
 Nat) =>
 ((nthD
 ((0 :
 Int),
 (0 :
 Int))
 a
 j).fst,
 (nthD
 ((0 :
 Int),
 (0 :
 Int))
 a
 j).snd))
 a.length) then
 A
 else
 (0 :
 Int)
 else
 (0 :
 Int))
 IIA
 (bif
 validF
 A
 (mkN
 (fun
 (j :
 Nat) =>
 ((nthD
 ((0 :
 Int),
 (0 :
 Int))
 a
 j).fst,
 (nthD
 ((0 :
 Int),
 (0 :
 Int))
 a
 j).snd))
 a.length) then
 A
 else
 (0 :
 Int))
 NA =
 true →
 (mkN
 (fun
 (j :
 Nat) =>
 ((nthD
 ((0 :
 Int),
 (0 :
 Int))
 a
 j).fst,
 (nthD
 ((0 :
 Int),
 (0 :
 Int))
 a
 j).snd))
 a.length).length ≤
 (1099511627776 :
 Nat)) ∧
 (sameF
 (bif
 validF
 (bif
 validF
 A
 (mkN
 (fun
 (j :
 Nat) =>
 ((nthD
 ((0 :
 Int),
 (0 :
 Int))
 a
 j).fst,
 (nthD
 ((0 :
 Int),
 (0 :
 Int))
 a
 j).snd))
 a.length) then
 A
 else
 (0 :
 Int))
 IA then
 bif
 validF
 A
 (mkN
 (fun
 (j :
 Nat) =>
 ((nthD
 ((0 :
 Int),
 (0 :
 Int))
 a
 j).fst,
 (nthD
 ((0 :
 Int),
 (0 :
 Int))
 a
 j).snd))
 a.length) then
 A
 else
 (0 :
 Int)
 else
 (0 :
 Int))
 IIA
 (bif
 validF
 A
 (mkN
 (fun
 (j :
 Nat) =>
 ((nthD
 ((0 :
 Int),
 (0 :
 Int))
 a
 j).fst,
 (nthD
 ((0 :
 Int),
 (0 :
 Int))
 a
 j).snd))
 a.length) then
 A
 else
 (0 :
 Int))
 NA =
 true →
 (bif
 validF
 A
 (mkN
 (fun
 (j :
 Nat) =>
 ((nthD
 ((0 :
 Int),
 (0 :
 Int))
 a
 j).fst,
 (nthD
 ((0 :
 Int),
 (0 :
 Int))
 a
 j).snd))
 a.length) then
 normL
 A
 (setF
 (swapL
 (mkN
 (fun
 (j :
 Nat) =>
 ((nthD
 ((0 :
 Int),
 (0 :
 Int))
 a
 j).fst,
 (nthD
 ((0 :
 Int),
 (0 :
 Int))
 a
 j).snd))
 a.length)))
 else
 []) =
 IA) ∧
 (sameF
 (bif
 validF
 (bif
 validF
 A
 (mkN
 (fun
 (j :
 Nat) =>
 ((nthD
 ((0 :
 Int),
 (0 :
 Int))
 a
 j).fst,
 (nthD
 ((0 :
 Int),
 (0 :
 Int))
 a
 j).snd))
 a.length) then
 A
 else
 (0 :
 Int))
 IA then
 bif
 validF
 A
 (mkN
 (fun
 (j :
 Nat) =>
 ((nthD
 ((0 :
 Int),
 (0 :
 Int))
 a
 j).fst,
 (nthD
 ((0 :
 Int),
 (0 :
 Int))
 a
 j).snd))
 a.length) then
 A
 else
 (0 :
 Int)
 else
 (0 :
 Int))
 IIA
 (bif
 validF
 A
 (mkN
 (fun
 (j :
 Nat) =>
 ((nthD
 ((0 :
 Int),
 (0 :
 Int))
 a
 j).fst,
 (nthD
 ((0 :
 Int),
 (0 :
 Int))
 a
 j).snd))
 a.length) then
 A
 else
 (0 :
 Int))
 NA =
 true →
 (AV.ps
 IA).len =
 (AV.ps
 IA).len) ∧
 (sameF
 (bif
 validF
 (bif
 validF
 A
 (mkN
 (fun
 (j :
 Nat) =>
 ((nthD
 ((0 :
 Int),
 (0 :
 Int))
 a
 j).fst,
 (nthD
 ((0 :
 Int),
 (0 :
 Int))
 a
 j).snd))
 a.length) then
 A
 else
 (0 :
 Int))
 IA then
 bif
 validF
 A
 (mkN
 (fun
 (j :
 Nat) =>
 ((nthD
 ((0 :
 Int),
 (0 :
 Int))
 a
 j).fst,
 (nthD
 ((0 :
 Int),
 (0 :
 Int))
 a
 j).snd))
 a.length) then
 A
 else
 (0 :
 Int)
 else
 (0 :
 Int))
 IIA
 (bif
 validF
 A
 (mkN
 (fun
 (j :
 Nat) =>
 ((nthD
 ((0 :
 Int),
 (0 :
 Int))
 a
 j).fst,
 (nthD
 ((0 :
 Int),
 (0 :
 Int))
 a
 j).snd))
 a.length) then
 A
 else
 (0 :
 Int))
 NA =
 true →
 mkN
 (fun
 (j :
 Nat) =>
 ((nthD
 ((0 :
 Int),
 (0 :
 Int))
 IA
 j).fst,
 (nthD
 ((0 :
 Int),
 (0 :
 Int))
 IA
 j).snd))
 (AV.ps
 IA).len =
 IA) ∧
 (sameF
 (bif
 validF
 (bif
 validF
 A
 (mkN
 (fun
 (j :
 Nat) =>
 ((nthD
 ((0 :
 Int),
 (0 :
 Int))
 a
 j).fst,
 (nthD
 ((0 :
 Int),
 (0 :
 Int))
 a
 j).snd))
 a.length) then
 A
 else
 (0 :
 Int))
 IA then
 bif
 validF
 A
 (mkN
 (fun
 (j :
 Nat) =>
 ((nthD
 ((0 :
 Int),
 (0 :
 Int))
 a
 j).fst,
 (nthD
 ((0 :
 Int),
 (0 :
 Int))
 a
 j).snd))
 a.length) then
 A
 else
 (0 :
 Int)
 else
 (0 :
 Int))
 IIA
 (bif
 validF
 A
 (mkN
 (fun
 (j :
 Nat) =>
 ((nthD
 ((0 :
 Int),
 (0 :
 Int))
 a
 j).fst,
 (nthD
 ((0 :
 Int),
 (0 :
 Int))
 a
 j).snd))
 a.length) then
 A
 else
 (0 :
 Int))
 NA =
 true →
 IA.length ≤
 (1099511627776 :
 Nat)) ∧
 (sameF
 (bif
 validF
 (bif
 validF
 A
 (mkN
 (fun
 (j :
 Nat) =>
 ((nthD
 ((0 :
 Int),
 (0 :
 Int))
 a
 j).fst,
 (nthD
 ((0 :
 Int),
 (0 :
 Int))
 a
 j).snd))
 a.length) then
 A
 else
 (0 :
 Int))
 IA then
 bif
 validF
 A
 (mkN
 (fun
 (j :
 Nat) =>
 ((nthD
 ((0 :
 Int),
 (0 :
 Int))
 a
 j).fst,
 (nthD
 ((0 :
 Int),
 (0 :
 Int))
 a
 j).snd))
 a.length) then
 A
 else
 (0 :
 Int)
 else
 (0 :
 Int))
 IIA
 (bif
 validF
 A
 (mkN
 (fun
 (j :
 Nat) =>
 ((nthD
 ((0 :
 Int),
 (0 :
 Int))
 a
 j).fst,
 (nthD
 ((0 :
 Int),
 (0 :
 Int))
 a
 j).snd))
 a.length) then
 A
 else
 (0 :
 Int))
 NA &&
 (validF
 A
 (mkN
 (fun
 (j :
 Nat) =>
 ((nthD
 ((0 :
 Int),
 (0 :
 Int))
 a
 j).fst,
 (nthD
 ((0 :
 Int),
 (0 :
 Int))
 a
 j).snd))
 a.length) &&
 acyF
 A.toNat
 (wF
 (setF
 (mkN
 (fun
 (j :
 Nat) =>
 ((nthD
 ((0 :
 Int),
 (0 :
 Int))
 a
 j).fst,
 (nthD
 ((0 :
 Int),
 (0 :
 Int))
 a
 j).snd))
 a.length))
 A.toNat)) ==
 (validF
 (bif
 validF
 A
 (mkN
 (fun
 (j :
 Nat) =>
 ((nthD
 ((0 :
 Int),
 (0 :
 Int))
 a
 j).fst,
 (nthD
 ((0 :
 Int),
 (0 :
 Int))
 a
 j).snd))
 a.length) then
 A
 else
 (0 :
 Int))
 IA &&
 acyF
 (bif
 validF
 A
 (mkN
 (fun
 (j :
 Nat) =>
 ((nthD
 ((0 :
 Int),
 (0 :
 Int))
 a
 j).fst,
 (nthD
 ((0 :
 Int),
 (0 :
 Int))
 a
 j).snd))
 a.length) then
 A
 else
 (0 :
 Int)).toNat
 (wF
 (setF
 IA)
 (bif
 validF
 A
 (mkN
 (fun
 (j :
 Nat) =>
 ((nthD
 ((0 :
 Int),
 (0 :
 Int))
 a
 j).fst,
 (nthD
 ((0 :
 Int),
 (0 :
 Int))
 a
 j).snd))
 a.length) then
 A
 else
 (0 :
 Int)).toNat)) &&
 true) =
 true))) := by kernel_rfl
theorem v8 (A : Int) (a : List Pq) (B : Int) (b : List Pq) (C IB IA D IC IIA NA : List Pq) (hC : (bif bothF A a B b then normL A (cmpK (setF a) (setF b) A.toNat) else []) = C) (hIB : (bif validF B b then normL B (setF (swapL b)) else []) = IB) (hIA : (bif validF A a then normL A (setF (swapL a)) else []) = IA) (hD : (bif bothF (bif validF B b then B else 0) IB (bif validF A a then A else 0) IA then normL (bif validF B b then B else 0) (cmpK (setF IB) (setF IA) (bif validF B b then B else 0).toNat) else []) = D) (hIC : (bif validF (bif bothF A a B b then A else 0) C then normL (bif bothF A a B b then A else 0) (setF (swapL C)) else []) = IC) (hIIA : (bif validF (bif validF A a then A else 0) IA then normL (bif validF A a then A else 0) (setF (swapL IA)) else []) = IIA) (hNA : (bif validF A a then normL A (setF a) else []) = NA) : fnVc (tab [kExa [], kVal' [], kCmp [none, none, none, none, o C, none, o IB, o IA, o D], kInv [none, none, none, none, o C, none, o IB, o IA, o D, none, o IC, o IA, o IIA, o NA, o IA], kSam [none, none, none, none, o C, none, o IB, o IA, o D, none, o IC, o IA, o IIA, o NA, o IA], kNml [none, none, none, none, o C, none, o IB, o IA, o D, none, o IC, o IA, o IIA, o NA, o IA], kAcy [none, none, none, none, o C, none, o IB, o IA, o D, none, o IC, o IA, o IIA, o NA, o IA]] []) Try.f8 [rlV A 0 a, rlV B 1 b] [arP a, arP b] (plainIs .tt) := by
  rw [v8_eq]
  simp only [eq_self, true_and, and_true, implies_true, imp_self, mkN_ps, mkN_rs, mkN_self, mkN_len, PLoop.of, lCnt, AV.len]
  refine ⟨fun h => ?_, fun h => ?_, fun h => ?_⟩
  · rw [Bool.or_eq_false_iff] at h
    exact L9_300 (lt_of h.1)
  · simp only [Bool.or_eq_false_iff] at h
    exact L9_300 (lt_of h.1.2)
  · simp only [Bool.or_eq_false_iff, Bool.not_eq_false', bne_eq_false_iff_eq] at h
    obtain ⟨⟨⟨⟨hl1, hl2⟩, hv⟩, hm⟩, hAB⟩ := h
    subst hAB
    have g1 := lt_of hl1
    have g2 := lt_of hl2
    obtain ⟨h0, h1, _⟩ := validF_iff.1 hv
    have hs := sup_set hv
    have hsb := sup_set hm
    have bab := both_of hv hm
    simp only [hv, hm, bab, cond_true] at hC hIB hIA hD hIC hIIA hNA ⊢
    have vC : validF A C = true := by rw [← hC]; exact valid_norm h0 h1
    have vIA : validF A IA = true := by rw [← hIA]; exact valid_norm h0 h1
    have vIB : validF A IB = true := by rw [← hIB]; exact valid_norm h0 h1
    have eC : setF C = cmpK (setF a) (setF b) A.toNat := by rw [← hC]; exact setF_norm h0 (sup_cmp hs hsb)
    have eIA : setF IA = setF (swapL a) := by rw [← hIA]; exact setF_norm h0 (sup_swap hs)
    have eIB : setF IB = setF (swapL b) := by rw [← hIB]; exact setF_norm h0 (sup_swap hsb)
    have bBA := both_of vIB vIA
    simp only [vC, vIA, vIB, bBA, cond_true] at hD hIC hIIA ⊢
    have s1 : IC = D := by
      rw [← hIC, ← hD]
      congr 1
      funext x y
      rw [setF_swap, eC, eIA, eIB, Bool.eq_iff_iff, cmpK_iff hs, cmpK_iff (sup_swap hsb)]
      simp only [setF_swap]
      exact ⟨fun ⟨k, h1, h2⟩ => ⟨k, h2, h1⟩, fun ⟨k, h1, h2⟩ => ⟨k, h2, h1⟩⟩
    have s2 : IIA = NA := by
      rw [← hIIA, ← hNA]
      congr 1
      funext x y
      rw [setF_swap, eIA, setF_swap]
    have s3 : acyF A.toNat (wF (setF IA) A.toNat) = acyF A.toNat (wF (setF a) A.toNat) := acy_swap hs (by rw [eIA]; exact sup_swap hs) fun x y => by rw [eIA, setF_swap]
    have m1 : a.length ≤ 1099511627776 := by omega
    have m2 : b.length ≤ 1099511627776 := by omega
    have n1 : C.length ≤ 4096 := by rw [← hC]; exact norm_len h1
    have n2 : IA.length ≤ 4096 := by rw [← hIA]; exact norm_len h1
    have n3 : IB.length ≤ 4096 := by rw [← hIB]; exact norm_len h1
    have n4 : D.length ≤ 4096 := by rw [← hD]; exact norm_len h1
    have n5 : NA.length ≤ 4096 := by rw [← hNA]; exact norm_len h1
    have m3 : C.length ≤ 1099511627776 := by omega
    have m4 : IA.length ≤ 1099511627776 := by omega
    have m5 : IB.length ≤ 1099511627776 := by omega
    have m6 : D.length ≤ 1099511627776 := by omega
    have m7 : NA.length ≤ 1099511627776 := by omega
    simp only [s1, s2, s3, sameF_refl, hC, hD, hIA, hIB, hIC, hIIA, hNA, m1, m2, m3, m4, m5, m6, m7, Bool.not_true, Bool.or_false, bne_self_eq_false, beq_self_eq_true, true_and, and_true, implies_true, Bool.and_self]
    simp
end Go.Proofs.Ytcbmbnlgilampaa
