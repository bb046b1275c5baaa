/-
  The linext layer: the reference's levels, walked.
-/
import Derived.Test.YtiokmglajigngaaW37
namespace Go.Proofs.Ytiokmglajigngaa
open Go Go.Proofs.Ytiokmglajigngaa.Sx
set_option maxRecDepth 100000
set_option linter.unusedSimpArgs false
set_option linter.unusedVariables false
theorem waysN {N : Int} {l : List Pq} (h : Ok9 N l) {n : Nat} (hn : n ≤ 9) : ∀ p ∈ lvN N l n, 0 ≤ p.2 ∧ p.2 ≤ 387420489 := fun p hp => by
  have h1 := (lvN_ok h n).pos
  have h2 := wsum_mem h1 p hp
  have h3 := lvN_w h n
  have h4 := p9 hn
  exact ⟨h1 p hp, by omega⟩
theorem v43_eq (N : Int) (l : List Pq) (T : Nat) (c : Int) : (fnVc (tabQ [kCan [some (.ps l)]] [(49, kAdd)] [(0, .of (lLv0 N l)), (2, lLv2 N l), (4, lLv4 N l)] [(7, fun _ _ => ghLv)]) Try.f43 [rlV N 0 l] [arP l] (resTwo (.i .i64 (T : Int)) .tt .ff 3 1 (isCols [c]))) = (∃ (x : PUnit),
 (∃ (x : Nat),
 x ≤ N.toNat ∧
 ((1 : Int) = (↑(lvT N l x) : Int) ∧ (0 : Int) = (↑x : Int) ∧ True) ∧
 ((1 : Nat) = (lvN N l x).length ∧
 (∀ (j : Nat),
 j < (lvN N l x).length → pickI [(0 : Int)] j = (nthD ((0 : Int), (0 : Int)) (lvN N l x) j).fst) ∧
 True) ∧
 ((1 : Nat) = (lvN N l x).length ∧
 (∀ (j : Nat),
 j < (lvN N l x).length → pickI [(1 : Int)] j = (nthD ((0 : Int), (0 : Int)) (lvN N l x) j).snd) ∧
 True) ∧
 ((1 : Nat) = (lvN N l x).length ∧ (1 : Nat) = (lvN N l x).length ∧ false = false) ∧ True) ∧
 ∀ (x_1 : Nat),
 x_1 ≤ N.toNat →
 (decide ((↑x_1 : Int) < N) = true →
 (0 : Nat) = (0 : Nat) ∧
 (0 : Nat) = (0 : Nat) ∧
 ∃ (x_2 : Nat),
 (∃ (x : Nat),
 (x ≤ (lvN N l x_2).length ∧ x_2 < N.toNat) ∧
 ((0 : Int) = (↑x : Int) ∧ True) ∧
 ((0 : Nat) = (lvI N l (lvN N l x_2) x).length ∧
 (∀ (j : Nat),
 j < (lvI N l (lvN N l x_2) x).length →
 (0 : Int) = (nthD ((0 : Int), (0 : Int)) (lvI N l (lvN N l x_2) x) j).fst) ∧
 True) ∧
 ((0 : Nat) = (lvI N l (lvN N l x_2) x).length ∧
 (∀ (j : Nat),
 j < (lvI N l (lvN N l x_2) x).length →
 (0 : Int) = (nthD ((0 : Int), (0 : Int)) (lvI N l (lvN N l x_2) x) j).snd) ∧
 True) ∧
 ((0 : Nat) = (lvI N l (lvN N l x_2) x).length ∧
 (0 : Nat) = (lvI N l (lvN N l x_2) x).length ∧ false = false) ∧
 True) ∧
 ∀ (x_3 : Nat),
 x_3 ≤ (lvN N l x_2).length ∧ x_2 < N.toNat →
 (decide ((↑x_3 : Int) < (↑(lvN N l x_1).length : Int)) = true →
 ∃ (x : Nat × Nat),
 (∃ (x_4 : Nat),
 (x_4 ≤ N.toNat ∧ x.snd < (lvN N l x.fst).length ∧ x.fst < N.toNat) ∧
 ((0 : Int) = (↑x_4 : Int) ∧ True) ∧
 ((lvI N l (lvN N l x_2) x_3).length =
 (lvK l (lvI N l (lvN N l x.fst) x.snd)
 (nthD ((0 : Int), (0 : Int)) (lvN N l x.fst) x.snd).fst
 (nthD ((0 : Int), (0 : Int)) (lvN N l x.fst) x.snd).snd x_4).length ∧
 (∀ (j : Nat),
 j <
 (lvK l (lvI N l (lvN N l x.fst) x.snd)
 (nthD ((0 : Int), (0 : Int)) (lvN N l x.fst) x.snd).fst
 (nthD ((0 : Int), (0 : Int)) (lvN N l x.fst) x.snd).snd
 x_4).length →
 (nthD ((0 : Int), (0 : Int)) (lvI N l (lvN N l x_2) x_3) j).fst =
 (nthD ((0 : Int), (0 : Int))
 (lvK l (lvI N l (lvN N l x.fst) x.snd)
 (nthD ((0 : Int), (0 : Int)) (lvN N l x.fst) x.snd).fst
 (nthD ((0 : Int), (0 : Int)) (lvN N l x.fst) x.snd).snd x_4)
 j).fst) ∧
 True) ∧
 ((lvI N l (lvN N l x_2) x_3).length =
 (lvK l (lvI N l (lvN N l x.fst) x.snd)
 (nthD ((0 : Int), (0 : Int)) (lvN N l x.fst) x.snd).fst
 (nthD ((0 : Int), (0 : Int)) (lvN N l x.fst) x.snd).snd x_4).length ∧
 (∀ (j : Nat),
 j <
 (lvK l (lvI N l (lvN N l x.fst) x.snd)
 (nthD ((0 : Int), (0 : Int)) (lvN N l x.fst) x.snd).fst
 (nthD ((0 : Int), (0 : Int)) (lvN N l x.fst) x.snd).snd
 x_4).length →
 (nthD ((0 : Int), (0 : Int)) (lvI N l (lvN N l x_2) x_3) j).snd =
 (nthD ((0 : Int), (0 : Int))
 (lvK l (lvI N l (lvN N l x.fst) x.snd)
 (nthD ((0 : Int), (0 : Int)) (lvN N l x.fst) x.snd).fst
 (nthD ((0 : Int), (0 : Int)) (lvN N l x.fst) x.snd).snd x_4)
 j).snd) ∧
 True) ∧
 ((lvI N l (lvN N l x_2) x_3).length =
 (lvK l (lvI N l (lvN N l x.fst) x.snd)
 (nthD ((0 : Int), (0 : Int)) (lvN N l x.fst) x.snd).fst
 (nthD ((0 : Int), (0 : Int)) (lvN N l x.fst) x.snd).snd
 x_4).length ∧
 (lvI N l (lvN N l x_2) x_3).length =
 (lvK l (lvI N l (lvN N l x.fst) x.snd)
 (nthD ((0 : Int), (0 : Int)) (lvN N l x.fst) x.snd).fst
 (nthD ((0 : Int), (0 : Int)) (lvN N l x.fst) x.snd).snd
 x_4).length ∧
 false = false) ∧
 True) ∧
 ∀ (x_4 : Nat),
 x_4 ≤ N.toNat ∧ x.snd < (lvN N l x.fst).length ∧ x.fst < N.toNat →
 (decide ((↑x_4 : Int) < N) = true →
 ((0 : Int) ≤ (↑x_3 : Int) ∧ (↑x_3 : Int) < (↑(lvN N l x_1).length : Int)) ∧
 x_3 < (lvN N l x_1).length ∧
 l.length = l.length ∧
 psK l =
 l ∧
 l.length ≤ (1099511627776 : Nat) ∧
 ((0 : Int) ≤ (↑x_4 : Int) ∧ (↑x_4 : Int) < (64 : Int)) ∧
 (∀ (p : Int × Int),
 List.Mem p l → (0 : Int) ≤ p.fst ∧ p.fst < (64 : Int)) ∧
 (canF l (nthD ((0 : Int), (0 : Int)) (lvN N l x_1) x_3).fst
 (↑x_4 : Int) =
 true →
 ((0 : Int) ≤ (↑x_3 : Int) ∧
 (↑x_3 : Int) < (↑(lvN N l x_1).length : Int)) ∧
 x_3 < (lvN N l x_1).length ∧
 ((0 : Int) ≤ IntKind.u64.wrap (↑x_4 : Int) ∧
 IntKind.u64.wrap (↑x_4 : Int) ≤
 (↑IntKind.u64.bits : Int)) ∧
 ((0 : Int) ≤ (↑x_3 : Int) ∧
 (↑x_3 : Int) < (↑(lvN N l x_1).length : Int)) ∧
 x_3 < (lvN N l x_1).length ∧
 (lvK l (lvI N l (lvN N l x.fst) x.snd)
 (nthD ((0 : Int), (0 : Int)) (lvN N l x.fst)
 x.snd).fst
 (nthD ((0 : Int), (0 : Int)) (lvN N l x.fst)
 x.snd).snd
 x_4).length =
 (lvK l (lvI N l (lvN N l x.fst) x.snd)
 (nthD ((0 : Int), (0 : Int)) (lvN N l x.fst)
 x.snd).fst
 (nthD ((0 : Int), (0 : Int)) (lvN N l x.fst)
 x.snd).snd
 x_4).length ∧
 (lvK l (lvI N l (lvN N l x.fst) x.snd)
 (nthD ((0 : Int), (0 : Int))
 (lvN N l x.fst) x.snd).fst
 (nthD ((0 : Int), (0 : Int))
 (lvN N l x.fst) x.snd).snd
 x_4).length =
 (lvK l (lvI N l (lvN N l x.fst) x.snd)
 (nthD ((0 : Int), (0 : Int))
 (lvN N l x.fst) x.snd).fst
 (nthD ((0 : Int), (0 : Int))
 (lvN N l x.fst) x.snd).snd
 x_4).length ∧
 (lvK l (lvI N l (lvN N l x.fst) x.snd)
 (nthD ((0 : Int), (0 : Int))
 (lvN N l x.fst) x.snd).fst
 (nthD ((0 : Int), (0 : Int))
 (lvN N l x.fst) x.snd).snd
 x_4).length =
 (lvK l (lvI N l (lvN N l x.fst) x.snd)
 (nthD ((0 : Int), (0 : Int))
 (lvN N l x.fst) x.snd).fst
 (nthD ((0 : Int), (0 : Int))
 (lvN N l x.fst) x.snd).snd
 x_4).length ∧
 (mkN
 (fun (j : Nat) =>
 ((nthD ((0 : Int), (0 : Int))
 (lvK l
 (lvI N l (lvN N l x.fst)
 x.snd)
 (nthD ((0 : Int), (0 : Int))
 (lvN N l x.fst)
 x.snd).fst
 (nthD ((0 : Int), (0 : Int))
 (lvN N l x.fst)
 x.snd).snd
 x_4)
 j).fst,
 (nthD ((0 : Int), (0 : Int))
 (lvK l
 (lvI N l (lvN N l x.fst)
 x.snd)
 (nthD ((0 : Int), (0 : Int))
 (lvN N l x.fst)
 x.snd).fst
 (nthD ((0 : Int), (0 : Int))
 (lvN N l x.fst)
 x.snd).snd
 x_4)
 j).snd))
 (lvK l (lvI N l (lvN N l x.fst) x.snd)
 (nthD ((0 : Int), (0 : Int))
 (lvN N l x.fst) x.snd).fst
 (nthD ((0 : Int), (0 : Int))
 (lvN N l x.fst) x.snd).snd
 x_4).length).length ≤
 (1099511627776 : Nat) ∧
 ((0 : Int) ≤
 (nthD ((0 : Int), (0 : Int))
 (lvN N l x_1) x_3).snd ∧
 (nthD ((0 : Int), (0 : Int))
 (lvN N l x_1) x_3).snd ≤
 (1099511627776 : Int)) ∧
 (∀ (p : Int × Int),
 List.Mem p
 (mkN
 (fun (j : Nat) =>
 ((nthD ((0 : Int), (0 : Int))
 (lvK l
 (lvI N l
 (lvN N l x.fst)
 x.snd)
 (nthD
 ((0 : Int),
 (0 : Int))
 (lvN N l x.fst)
 x.snd).fst
 (nthD
 ((0 : Int),
 (0 : Int))
 (lvN N l x.fst)
 x.snd).snd
 x_4)
 j).fst,
 (nthD ((0 : Int), (0 : Int))
 (lvK l
 (lvI N l
 (lvN N l x.fst)
 x.snd)
 (nthD
 ((0 : Int),
 (0 : Int))
 (lvN N l x.fst)
 x.snd).fst
 (nthD
 ((0 : Int),
 (0 : Int))
 (lvN N l x.fst)
 x.snd).snd
 x_4)
 j).snd))
 (lvK l
 (lvI N l (lvN N l x.fst)
 x.snd)
 (nthD ((0 : Int), (0 : Int))
 (lvN N l x.fst)
 x.snd).fst
 (nthD ((0 : Int), (0 : Int))
 (lvN N l x.fst)
 x.snd).snd
 x_4).length) →
 (0 : Int) ≤ p.snd ∧
 p.snd ≤ (1099511627776 : Int)) ∧
 ∃ (x_5 : Nat),
 (x_5 ≤ N.toNat ∧
 x.snd < (lvN N l x.fst).length ∧
 x.fst < N.toNat) ∧
 ((lLv4 N l).ann x).mu x_5 <
 ((lLv4 N l).ann x).mu x_4 ∧
 ((N = N ∧ l.length = l.length) ∧
 True ∧
 True ∧
 True ∧
 (↑(lvT N l x_1) : Int) =
 (↑(lvT N l x_1) :
 Int) ∧
 (↑x_1 : Int) =
 (↑x_1 : Int) ∧
 True ∧
 (↑x_3 : Int) =
 (↑x_3 : Int) ∧
 IntKind.i64.wrap
 ((↑x_4 :
 Int) +
 (1 :
 Int)) =
 (↑x_5 :
 Int) ∧
 (↑x_1 : Int) =
 (↑x_1 :
 Int) ∧
 True ∧
 N = N ∧
 true =
 true ∧
 True ∧
 false =
 false ∧
 (True ∧
 True ∧
 false =
 false) ∧
 (↑x_3 :
 Int) =
 (↑x_3 :
 Int) ∧
 True ∧
 (lvN
 N
 l
 x_1).length =
 (lvN
 N
 l
 x_1).length ∧
 (↑(lvN
 N
 l
 x_1).length :
 Int) =
 (↑(lvN
 N
 l
 x_1).length :
 Int) ∧
 true =
 true ∧
 True) ∧
 (l.length = l.length ∧
 (∀ (j : Nat),
 j < l.length →
 (nthD
 ((0 : Int),
 (0 : Int))
 l j).fst =
 (nthD
 ((0 : Int),
 (0 : Int))
 l j).fst) ∧
 (∀ (j : Nat),
 j < l.length →
 (nthD
 ((0 : Int),
 (0 : Int))
 l j).snd =
 (nthD
 ((0 : Int),
 (0 : Int))
 l j).snd) ∧
 True) ∧
 (N = N ∧
 l.length = l.length) ∧
 (True ∧
 True ∧ false = false) ∧
 ((lvN N l x_1).length =
 (lvN N l
 x_1).length ∧
 (∀ (j : Nat),
 j <
 (lvN N l
 x_1).length →
 (nthD
 ((0 :
 Int),
 (0 :
 Int))
 (lvN N l
 x_1)
 j).fst =
 (nthD
 ((0 :
 Int),
 (0 :
 Int))
 (lvN N l
 x_1)
 j).fst) ∧
 True) ∧
 ((lvN N l x_1).length =
 (lvN N l
 x_1).length ∧
 (∀ (j : Nat),
 j <
 (lvN N l
 x_1).length →
 (nthD
 ((0 :
 Int),
 (0 :
 Int))
 (lvN N l
 x_1)
 j).snd =
 (nthD
 ((0 :
 Int),
 (0 :
 Int))
 (lvN N l
 x_1)
 j).snd) ∧
 True) ∧
 ((lvN N l
 x_1).length =
 (lvN N l
 x_1).length ∧
 (lvN N l
 x_1).length =
 (lvN N l
 x_1).length ∧
 false = false) ∧
 ((addL
 (mkN
 (fun
 (j :
 Nat) =>
 ((nthD
 ((0 :
 Int),
 (0 :
 Int))
 (lvK
 l
 (lvI
 N
 l
 (lvN
 N
 l
 x.fst)
 x.snd)
 (nthD
 ((0 :
 Int),
 (0 :
 Int))
 (lvN
 N
 l
 x.fst)
 x.snd).fst
 (nthD
 ((0 :
 Int),
 (0 :
 Int))
 (lvN
 N
 l
 x.fst)
 x.snd).snd
 x_4)
 j).fst,
 (nthD
 ((0 :
 Int),
 (0 :
 Int))
 (lvK
 l
 (lvI
 N
 l
 (lvN
 N
 l
 x.fst)
 x.snd)
 (nthD
 ((0 :
 Int),
 (0 :
 Int))
 (lvN
 N
 l
 x.fst)
 x.snd).fst
 (nthD
 ((0 :
 Int),
 (0 :
 Int))
 (lvN
 N
 l
 x.fst)
 x.snd).snd
 x_4)
 j).snd))
 (lvK l
 (lvI
 N
 l
 (lvN
 N
 l
 x.fst)
 x.snd)
 (nthD
 ((0 :
 Int),
 (0 :
 Int))
 (lvN
 N
 l
 x.fst)
 x.snd).fst
 (nthD
 ((0 :
 Int),
 (0 :
 Int))
 (lvN
 N
 l
 x.fst)
 x.snd).snd
 x_4).length)
 (bits
 BinOp.or
 IntKind.u64
 (nthD
 ((0 :
 Int),
 (0 :
 Int))
 (lvN
 N
 l
 x_1)
 x_3).fst
 (IntKind.u64.wrap
 ((1 :
 Int) *
 (2 :
 Int) ^
 (IntKind.u64.wrap
 (↑x_4 :
 Int)).toNat)))
 (nthD
 ((0 :
 Int),
 (0 :
 Int))
 (lvN N
 l
 x_1)
 x_3).snd).length =
 (lvK l
 (lvI N l
 (lvN N l
 x.fst)
 x.snd)
 (nthD
 ((0 :
 Int),
 (0 :
 Int))
 (lvN N
 l
 x.fst)
 x.snd).fst
 (nthD
 ((0 :
 Int),
 (0 :
 Int))
 (lvN N
 l
 x.fst)
 x.snd).snd
 x_5).length ∧
 (addL
 (mkN
 (fun
 (j :
 Nat) =>
 ((nthD
 ((0 :
 Int),
 (0 :
 Int))
 (lvK
 l
 (lvI
 N
 l
 (lvN
 N
 l
 x.fst)
 x.snd)
 (nthD
 ((0 :
 Int),
 (0 :
 Int))
 (lvN
 N
 l
 x.fst)
 x.snd).fst
 (nthD
 ((0 :
 Int),
 (0 :
 Int))
 (lvN
 N
 l
 x.fst)
 x.snd).snd
 x_4)
 j).fst,
 (nthD
 ((0 :
 Int),
 (0 :
 Int))
 (lvK
 l
 (lvI
 N
 l
 (lvN
 N
 l
 x.fst)
 x.snd)
 (nthD
 ((0 :
 Int),
 (0 :
 Int))
 (lvN
 N
 l
 x.fst)
 x.snd).fst
 (nthD
 ((0 :
 Int),
 (0 :
 Int))
 (lvN
 N
 l
 x.fst)
 x.snd).snd
 x_4)
 j).snd))
 (lvK l
 (lvI
 N
 l
 (lvN
 N
 l
 x.fst)
 x.snd)
 (nthD
 ((0 :
 Int),
 (0 :
 Int))
 (lvN
 N
 l
 x.fst)
 x.snd).fst
 (nthD
 ((0 :
 Int),
 (0 :
 Int))
 (lvN
 N
 l
 x.fst)
 x.snd).snd
 x_4).length)
 (bits
 BinOp.or
 IntKind.u64
 (nthD
 ((0 :
 Int),
 (0 :
 Int))
 (lvN
 N
 l
 x_1)
 x_3).fst
 (IntKind.u64.wrap
 ((1 :
 Int) *
 (2 :
 Int) ^
 (IntKind.u64.wrap
 (↑x_4 :
 Int)).toNat)))
 (nthD
 ((0 :
 Int),
 (0 :
 Int))
 (lvN
 N
 l
 x_1)
 x_3).snd).length =
 (lvK l
 (lvI N l
 (lvN N
 l
 x.fst)
 x.snd)
 (nthD
 ((0 :
 Int),
 (0 :
 Int))
 (lvN
 N
 l
 x.fst)
 x.snd).fst
 (nthD
 ((0 :
 Int),
 (0 :
 Int))
 (lvN
 N
 l
 x.fst)
 x.snd).snd
 x_5).length ∧
 false =
 false) ∧
 ((addL
 (mkN
 (fun
 (j :
 Nat) =>
 ((nthD
 ((0 :
 Int),
 (0 :
 Int))
 (lvK
 l
 (lvI
 N
 l
 (lvN
 N
 l
 x.fst)
 x.snd)
 (nthD
 ((0 :
 Int),
 (0 :
 Int))
 (lvN
 N
 l
 x.fst)
 x.snd).fst
 (nthD
 ((0 :
 Int),
 (0 :
 Int))
 (lvN
 N
 l
 x.fst)
 x.snd).snd
 x_4)
 j).fst,
 (nthD
 ((0 :
 Int),
 (0 :
 Int))
 (lvK
 l
 (lvI
 N
 l
 (lvN
 N
 l
 x.fst)
 x.snd)
 (nthD
 ((0 :
 Int),
 (0 :
 Int))
 (lvN
 N
 l
 x.fst)
 x.snd).fst
 (nthD
 ((0 :
 Int),
 (0 :
 Int))
 (lvN
 N
 l
 x.fst)
 x.snd).snd
 x_4)
 j).snd))
 (lvK l
 (lvI
 N
 l
 (lvN
 N
 l
 x.fst)
 x.snd)
 (nthD
 ((0 :
 Int),
 (0 :
 Int))
 (lvN
 N
 l
 x.fst)
 x.snd).fst
 (nthD
 ((0 :
 Int),
 (0 :
 Int))
 (lvN
 N
 l
 x.fst)
 x.snd).snd
 x_4).length)
 (bits
 BinOp.or
 IntKind.u64
 (nthD
 ((0 :
 Int),
 (0 :
 Int))
 (lvN
 N
 l
 x_1)
 x_3).fst
 (IntKind.u64.wrap
 ((1 :
 Int) *
 (2 :
 Int) ^
 (IntKind.u64.wrap
 (↑x_4 :
 Int)).toNat)))
 (nthD
 ((0 :
 Int),
 (0 :
 Int))
 (lvN
 N
 l
 x_1)
 x_3).snd).length =
 (lvK l
 (lvI N l
 (lvN N
 l
 x.fst)
 x.snd)
 (nthD
 ((0 :
 Int),
 (0 :
 Int))
 (lvN
 N
 l
 x.fst)
 x.snd).fst
 (nthD
 ((0 :
 Int),
 (0 :
 Int))
 (lvN
 N
 l
 x.fst)
 x.snd).snd
 x_5).length ∧
 (∀ (j : Nat),
 j <
 (lvK l
 (lvI
 N
 l
 (lvN
 N
 l
 x.fst)
 x.snd)
 (nthD
 ((0 :
 Int),
 (0 :
 Int))
 (lvN
 N
 l
 x.fst)
 x.snd).fst
 (nthD
 ((0 :
 Int),
 (0 :
 Int))
 (lvN
 N
 l
 x.fst)
 x.snd).snd
 x_5).length →
 (nthD
 ((0 :
 Int),
 (0 :
 Int))
 (addL
 (mkN
 (fun
 (j :
 Nat) =>
 ((nthD
 ((0 :
 Int),
 (0 :
 Int))
 (lvK
 l
 (lvI
 N
 l
 (lvN
 N
 l
 x.fst)
 x.snd)
 (nthD
 ((0 :
 Int),
 (0 :
 Int))
 (lvN
 N
 l
 x.fst)
 x.snd).fst
 (nthD
 ((0 :
 Int),
 (0 :
 Int))
 (lvN
 N
 l
 x.fst)
 x.snd).snd
 x_4)
 j).fst,
 (nthD
 ((0 :
 Int),
 (0 :
 Int))
 (lvK
 l
 (lvI
 N
 l
 (lvN
 N
 l
 x.fst)
 x.snd)
 (nthD
 ((0 :
 Int),
 (0 :
 Int))
 (lvN
 N
 l
 x.fst)
 x.snd).fst
 (nthD
 ((0 :
 Int),
 (0 :
 Int))
 (lvN
 N
 l
 x.fst)
 x.snd).snd
 x_4)
 j).snd))
 (lvK
 l
 (lvI
 N
 l
 (lvN
 N
 l
 x.fst)
 x.snd)
 (nthD
 ((0 :
 Int),
 (0 :
 Int))
 (lvN
 N
 l
 x.fst)
 x.snd).fst
 (nthD
 ((0 :
 Int),
 (0 :
 Int))
 (lvN
 N
 l
 x.fst)
 x.snd).snd
 x_4).length)
 (bits
 BinOp.or
 IntKind.u64
 (nthD
 ((0 :
 Int),
 (0 :
 Int))
 (lvN
 N
 l
 x_1)
 x_3).fst
 (IntKind.u64.wrap
 ((1 :
 Int) *
 (2 :
 Int) ^
 (IntKind.u64.wrap
 (↑x_4 :
 Int)).toNat)))
 (nthD
 ((0 :
 Int),
 (0 :
 Int))
 (lvN
 N
 l
 x_1)
 x_3).snd)
 j).fst =
 (nthD
 ((0 :
 Int),
 (0 :
 Int))
 (lvK
 l
 (lvI
 N
 l
 (lvN
 N
 l
 x.fst)
 x.snd)
 (nthD
 ((0 :
 Int),
 (0 :
 Int))
 (lvN
 N
 l
 x.fst)
 x.snd).fst
 (nthD
 ((0 :
 Int),
 (0 :
 Int))
 (lvN
 N
 l
 x.fst)
 x.snd).snd
 x_5)
 j).fst) ∧
 True) ∧
 ((addL
 (mkN
 (fun
 (j :
 Nat) =>
 ((nthD
 ((0 :
 Int),
 (0 :
 Int))
 (lvK
 l
 (lvI
 N
 l
 (lvN
 N
 l
 x.fst)
 x.snd)
 (nthD
 ((0 :
 Int),
 (0 :
 Int))
 (lvN
 N
 l
 x.fst)
 x.snd).fst
 (nthD
 ((0 :
 Int),
 (0 :
 Int))
 (lvN
 N
 l
 x.fst)
 x.snd).snd
 x_4)
 j).fst,
 (nthD
 ((0 :
 Int),
 (0 :
 Int))
 (lvK
 l
 (lvI
 N
 l
 (lvN
 N
 l
 x.fst)
 x.snd)
 (nthD
 ((0 :
 Int),
 (0 :
 Int))
 (lvN
 N
 l
 x.fst)
 x.snd).fst
 (nthD
 ((0 :
 Int),
 (0 :
 Int))
 (lvN
 N
 l
 x.fst)
 x.snd).snd
 x_4)
 j).snd))
 (lvK
 l
 (lvI
 N
 l
 (lvN
 N
 l
 x.fst)
 x.snd)
 (nthD
 ((0 :
 Int),
 (0 :
 Int))
 (lvN
 N
 l
 x.fst)
 x.snd).fst
 (nthD
 ((0 :
 Int),
 (0 :
 Int))
 (lvN
 N
 l
 x.fst)
 x.snd).snd
 x_4).length)
 (bits
 BinOp.or
 IntKind.u64
 (nthD
 ((0 :
 Int),
 (0 :
 Int))
 (lvN
 N
 l
 x_1)
 x_3).fst
 (IntKind.u64.wrap
 ((1 :
 Int) *
 (2 :
 Int) ^
 (IntKind.u64.wrap
 (↑x_4 :
 Int)).toNat)))
 (nthD
 ((0 :
 Int),
 (0 :
 Int))
 (lvN
 N
 l
 x_1)
 x_3).snd).length =
 (lvK l
 (lvI N
 l
 (lvN
 N
 l
 x.fst)
 x.snd)
 (nthD
 ((0 :
 Int),
 (0 :
 Int))
 (lvN
 N
 l
 x.fst)
 x.snd).fst
 (nthD
 ((0 :
 Int),
 (0 :
 Int))
 (lvN
 N
 l
 x.fst)
 x.snd).snd
 x_5).length ∧
 (∀
 (j :
 Nat),
 j <
 (lvK
 l
 (lvI
 N
 l
 (lvN
 N
 l
 x.fst)
 x.snd)
 (nthD
 ((0 :
 Int),
 (0 :
 Int))
 (lvN
 N
 l
 x.fst)
 x.snd).fst
 (nthD
 ((0 :
 Int),
 (0 :
 Int))
 (lvN
 N
 l
 x.fst)
 x.snd).snd
 x_5).length →
 (nthD
 ((0 :
 Int),
 (0 :
 Int))
 (addL
 (mkN
 (fun
 (j :
 Nat) =>
 ((nthD
 ((0 :
 Int),
 (0 :
 Int))
 (lvK
 l
 (lvI
 N
 l
 (lvN
 N
 l
 x.fst)
 x.snd)
 (nthD
 ((0 :
 Int),
 (0 :
 Int))
 (lvN
 N
 l
 x.fst)
 x.snd).fst
 (nthD
 ((0 :
 Int),
 (0 :
 Int))
 (lvN
 N
 l
 x.fst)
 x.snd).snd
 x_4)
 j).fst,
 (nthD
 ((0 :
 Int),
 (0 :
 Int))
 (lvK
 l
 (lvI
 N
 l
 (lvN
 N
 l
 x.fst)
 x.snd)
 (nthD
 ((0 :
 Int),
 (0 :
 Int))
 (lvN
 N
 l
 x.fst)
 x.snd).fst
 (nthD
 ((0 :
 Int),
 (0 :
 Int))
 (lvN
 N
 l
 x.fst)
 x.snd).snd
 x_4)
 j).snd))
 (lvK
 l
 (lvI
 N
 l
 (lvN
 N
 l
 x.fst)
 x.snd)
 (nthD
 ((0 :
 Int),
 (0 :
 Int))
 (lvN
 N
 l
 x.fst)
 x.snd).fst
 (nthD
 ((0 :
 Int),
 (0 :
 Int))
 (lvN
 N
 l
 x.fst)
 x.snd).snd
 x_4).length)
 (bits
 BinOp.or
 IntKind.u64
 (nthD
 ((0 :
 Int),
 (0 :
 Int))
 (lvN
 N
 l
 x_1)
 x_3).fst
 (IntKind.u64.wrap
 ((1 :
 Int) *
 (2 :
 Int) ^
 (IntKind.u64.wrap
 (↑x_4 :
 Int)).toNat)))
 (nthD
 ((0 :
 Int),
 (0 :
 Int))
 (lvN
 N
 l
 x_1)
 x_3).snd)
 j).snd =
 (nthD
 ((0 :
 Int),
 (0 :
 Int))
 (lvK
 l
 (lvI
 N
 l
 (lvN
 N
 l
 x.fst)
 x.snd)
 (nthD
 ((0 :
 Int),
 (0 :
 Int))
 (lvN
 N
 l
 x.fst)
 x.snd).fst
 (nthD
 ((0 :
 Int),
 (0 :
 Int))
 (lvN
 N
 l
 x.fst)
 x.snd).snd
 x_5)
 j).snd) ∧
 True) ∧
 True) ∧
 (canF l (nthD ((0 : Int), (0 : Int)) (lvN N l x_1) x_3).fst
 (↑x_4 : Int) =
 false →
 ∃ (x_5 : Nat),
 (x_5 ≤ N.toNat ∧
 x.snd < (lvN N l x.fst).length ∧ x.fst < N.toNat) ∧
 ((lLv4 N l).ann x).mu x_5 < ((lLv4 N l).ann x).mu x_4 ∧
 ((N = N ∧ l.length = l.length) ∧
 True ∧
 True ∧
 True ∧
 (↑(lvT N l x_1) : Int) =
 (↑(lvT N l x_1) : Int) ∧
 (↑x_1 : Int) = (↑x_1 : Int) ∧
 True ∧
 (↑x_3 : Int) = (↑x_3 : Int) ∧
 IntKind.i64.wrap
 ((↑x_4 : Int) + (1 : Int)) =
 (↑x_5 : Int) ∧
 (↑x_1 : Int) = (↑x_1 : Int) ∧
 True ∧
 N = N ∧
 true = true ∧
 True ∧
 false = false ∧
 (True ∧
 True ∧
 false = false) ∧
 (↑x_3 : Int) =
 (↑x_3 : Int) ∧
 True ∧
 (lvN N l
 x_1).length =
 (lvN N l
 x_1).length ∧
 (↑(lvN N l
 x_1).length :
 Int) =
 (↑(lvN N l
 x_1).length :
 Int) ∧
 true = true ∧
 True) ∧
 (l.length = l.length ∧
 (∀ (j : Nat),
 j < l.length →
 (nthD ((0 : Int), (0 : Int)) l j).fst =
 (nthD ((0 : Int), (0 : Int)) l j).fst) ∧
 (∀ (j : Nat),
 j < l.length →
 (nthD ((0 : Int), (0 : Int)) l j).snd =
 (nthD ((0 : Int), (0 : Int)) l j).snd) ∧
 True) ∧
 (N = N ∧ l.length = l.length) ∧
 (True ∧ True ∧ false = false) ∧
 ((lvN N l x_1).length = (lvN N l x_1).length ∧
 (∀ (j : Nat),
 j < (lvN N l x_1).length →
 (nthD ((0 : Int), (0 : Int))
 (lvN N l x_1) j).fst =
 (nthD ((0 : Int), (0 : Int))
 (lvN N l x_1) j).fst) ∧
 True) ∧
 ((lvN N l x_1).length = (lvN N l x_1).length ∧
 (∀ (j : Nat),
 j < (lvN N l x_1).length →
 (nthD ((0 : Int), (0 : Int))
 (lvN N l x_1) j).snd =
 (nthD ((0 : Int), (0 : Int))
 (lvN N l x_1) j).snd) ∧
 True) ∧
 ((lvN N l x_1).length =
 (lvN N l x_1).length ∧
 (lvN N l x_1).length =
 (lvN N l x_1).length ∧
 false = false) ∧
 ((lvK l (lvI N l (lvN N l x.fst) x.snd)
 (nthD ((0 : Int), (0 : Int))
 (lvN N l x.fst) x.snd).fst
 (nthD ((0 : Int), (0 : Int))
 (lvN N l x.fst) x.snd).snd
 x_4).length =
 (lvK l
 (lvI N l (lvN N l x.fst) x.snd)
 (nthD ((0 : Int), (0 : Int))
 (lvN N l x.fst) x.snd).fst
 (nthD ((0 : Int), (0 : Int))
 (lvN N l x.fst) x.snd).snd
 x_5).length ∧
 (lvK l (lvI N l (lvN N l x.fst) x.snd)
 (nthD ((0 : Int), (0 : Int))
 (lvN N l x.fst) x.snd).fst
 (nthD ((0 : Int), (0 : Int))
 (lvN N l x.fst) x.snd).snd
 x_4).length =
 (lvK l
 (lvI N l (lvN N l x.fst)
 x.snd)
 (nthD ((0 : Int), (0 : Int))
 (lvN N l x.fst) x.snd).fst
 (nthD ((0 : Int), (0 : Int))
 (lvN N l x.fst) x.snd).snd
 x_5).length ∧
 false = false) ∧
 ((lvK l (lvI N l (lvN N l x.fst) x.snd)
 (nthD ((0 : Int), (0 : Int))
 (lvN N l x.fst) x.snd).fst
 (nthD ((0 : Int), (0 : Int))
 (lvN N l x.fst) x.snd).snd
 x_4).length =
 (lvK l
 (lvI N l (lvN N l x.fst)
 x.snd)
 (nthD ((0 : Int), (0 : Int))
 (lvN N l x.fst) x.snd).fst
 (nthD ((0 : Int), (0 : Int))
 (lvN N l x.fst) x.snd).snd
 x_5).length ∧
 (∀ (j : Nat),
 j <
 (lvK l
 (lvI N l (lvN N l x.fst)
 x.snd)
 (nthD
 ((0 : Int),
 (0 : Int))
 (lvN N l x.fst)
 x.snd).fst
 (nthD
 ((0 : Int),
 (0 : Int))
 (lvN N l x.fst)
 x.snd).snd
 x_5).length →
 (nthD ((0 : Int), (0 : Int))
 (lvK l
 (lvI N l
 (lvN N l x.fst)
 x.snd)
 (nthD
 ((0 : Int),
 (0 : Int))
 (lvN N l x.fst)
 x.snd).fst
 (nthD
 ((0 : Int),
 (0 : Int))
 (lvN N l x.fst)
 x.snd).snd
 x_4)
 j).fst =
 (nthD ((0 : Int), (0 : Int))
 (lvK l
 (lvI N l
 (lvN N l x.fst)
 x.snd)
 (nthD
 ((0 : Int),
 (0 : Int))
 (lvN N l x.fst)
 x.snd).fst
 (nthD
 ((0 : Int),
 (0 : Int))
 (lvN N l x.fst)
 x.snd).snd
 x_5)
 j).fst) ∧
 True) ∧
 ((lvK l
 (lvI N l (lvN N l x.fst)
 x.snd)
 (nthD ((0 : Int), (0 : Int))
 (lvN N l x.fst)
 x.snd).fst
 (nthD ((0 : Int), (0 : Int))
 (lvN N l x.fst)
 x.snd).snd
 x_4).length =
 (lvK l
 (lvI N l (lvN N l x.fst)
 x.snd)
 (nthD ((0 : Int), (0 : Int))
 (lvN N l x.fst)
 x.snd).fst
 (nthD ((0 : Int), (0 : Int))
 (lvN N l x.fst)
 x.snd).snd
 x_5).length ∧
 (∀ (j : Nat),
 j <
 (lvK l
 (lvI N l
 (lvN N l x.fst)
 x.snd)
 (nthD
 ((0 : Int),
 (0 : Int))
 (lvN N l x.fst)
 x.snd).fst
 (nthD
 ((0 : Int),
 (0 : Int))
 (lvN N l x.fst)
 x.snd).snd
 x_5).length →
 (nthD ((0 : Int), (0 : Int))
 (lvK l
 (lvI N l
 (lvN N l x.fst)
 x.snd)
 (nthD
 ((0 : Int),
 (0 : Int))
 (lvN N l x.fst)
 x.snd).fst
 (nthD
 ((0 : Int),
 (0 : Int))
 (lvN N l x.fst)
 x.snd).snd
 x_4)
 j).snd =
 (nthD
 ((0 : Int), (0 : Int))
 (lvK l
 (lvI N l
 (lvN N l x.fst)
 x.snd)
 (nthD
 ((0 : Int),
 (0 : Int))
 (lvN N l x.fst)
 x.snd).fst
 (nthD
 ((0 : Int),
 (0 : Int))
 (lvN N l x.fst)
 x.snd).snd
 x_5)
 j).snd) ∧
 True) ∧
 True)) ∧
 (decide ((↑x_4 : Int) < N) = false →
 (decide
 (IntKind.i64.wrap
 ((↑(lvT N l x_1) : Int) +
 (↑(lvK l (lvI N l (lvN N l x.fst) x.snd)
 (nthD ((0 : Int), (0 : Int)) (lvN N l x.fst) x.snd).fst
 (nthD ((0 : Int), (0 : Int)) (lvN N l x.fst) x.snd).snd
 x_4).length :
 Int)) >
 (65536 : Int)) =
 true →
 False) ∧
 (decide
 (IntKind.i64.wrap
 ((↑(lvT N l x_1) : Int) +
 (↑(lvK l (lvI N l (lvN N l x.fst) x.snd)
 (nthD ((0 : Int), (0 : Int)) (lvN N l x.fst) x.snd).fst
 (nthD ((0 : Int), (0 : Int)) (lvN N l x.fst) x.snd).snd
 x_4).length :
 Int)) >
 (65536 : Int)) =
 false →
 ∃ (x_5 : Nat),
 (x_5 ≤ (lvN N l x_2).length ∧ x_2 < N.toNat) ∧
 ((lLv2 N l).ann x_2).mu x_5 < ((lLv2 N l).ann x_2).mu x_3 ∧
 ((N = N ∧ l.length = l.length) ∧
 True ∧
 True ∧
 True ∧
 (↑(lvT N l x_1) : Int) = (↑(lvT N l x_1) : Int) ∧
 (↑x_1 : Int) = (↑x_1 : Int) ∧
 True ∧
 IntKind.i64.wrap ((↑x_3 : Int) + (1 : Int)) =
 (↑x_5 : Int) ∧
 (↑x_1 : Int) = (↑x_1 : Int) ∧
 True ∧
 N = N ∧
 true = true ∧
 True ∧
 false = false ∧
 (True ∧ True ∧ false = false) ∧ True) ∧
 (l.length = l.length ∧
 (∀ (j : Nat),
 j < l.length →
 (nthD ((0 : Int), (0 : Int)) l j).fst =
 (nthD ((0 : Int), (0 : Int)) l j).fst) ∧
 (∀ (j : Nat),
 j < l.length →
 (nthD ((0 : Int), (0 : Int)) l j).snd =
 (nthD ((0 : Int), (0 : Int)) l j).snd) ∧
 True) ∧
 (N = N ∧ l.length = l.length) ∧
 (True ∧ True ∧ false = false) ∧
 ((lvN N l x_1).length = (lvN N l x_1).length ∧
 (∀ (j : Nat),
 j < (lvN N l x_1).length →
 (nthD ((0 : Int), (0 : Int)) (lvN N l x_1) j).fst =
 (nthD ((0 : Int), (0 : Int)) (lvN N l x_1)
 j).fst) ∧
 True) ∧
 ((lvN N l x_1).length = (lvN N l x_1).length ∧
 (∀ (j : Nat),
 j < (lvN N l x_1).length →
 (nthD ((0 : Int), (0 : Int)) (lvN N l x_1)
 j).snd =
 (nthD ((0 : Int), (0 : Int)) (lvN N l x_1)
 j).snd) ∧
 True) ∧
 ((lvN N l x_1).length = (lvN N l x_1).length ∧
 (lvN N l x_1).length = (lvN N l x_1).length ∧
 false = false) ∧
 ((lvK l (lvI N l (lvN N l x.fst) x.snd)
 (nthD ((0 : Int), (0 : Int)) (lvN N l x.fst)
 x.snd).fst
 (nthD ((0 : Int), (0 : Int)) (lvN N l x.fst)
 x.snd).snd
 x_4).length =
 (lvI N l (lvN N l x_2) x_5).length ∧
 (lvK l (lvI N l (lvN N l x.fst) x.snd)
 (nthD ((0 : Int), (0 : Int)) (lvN N l x.fst)
 x.snd).fst
 (nthD ((0 : Int), (0 : Int)) (lvN N l x.fst)
 x.snd).snd
 x_4).length =
 (lvI N l (lvN N l x_2) x_5).length ∧
 false = false) ∧
 ((lvK l (lvI N l (lvN N l x.fst) x.snd)
 (nthD ((0 : Int), (0 : Int)) (lvN N l x.fst)
 x.snd).fst
 (nthD ((0 : Int), (0 : Int)) (lvN N l x.fst)
 x.snd).snd
 x_4).length =
 (lvI N l (lvN N l x_2) x_5).length ∧
 (∀ (j : Nat),
 j < (lvI N l (lvN N l x_2) x_5).length →
 (nthD ((0 : Int), (0 : Int))
 (lvK l (lvI N l (lvN N l x.fst) x.snd)
 (nthD ((0 : Int), (0 : Int))
 (lvN N l x.fst) x.snd).fst
 (nthD ((0 : Int), (0 : Int))
 (lvN N l x.fst) x.snd).snd
 x_4)
 j).fst =
 (nthD ((0 : Int), (0 : Int))
 (lvI N l (lvN N l x_2) x_5) j).fst) ∧
 True) ∧
 ((lvK l (lvI N l (lvN N l x.fst) x.snd)
 (nthD ((0 : Int), (0 : Int))
 (lvN N l x.fst) x.snd).fst
 (nthD ((0 : Int), (0 : Int))
 (lvN N l x.fst) x.snd).snd
 x_4).length =
 (lvI N l (lvN N l x_2) x_5).length ∧
 (∀ (j : Nat),
 j < (lvI N l (lvN N l x_2) x_5).length →
 (nthD ((0 : Int), (0 : Int))
 (lvK l
 (lvI N l (lvN N l x.fst) x.snd)
 (nthD ((0 : Int), (0 : Int))
 (lvN N l x.fst) x.snd).fst
 (nthD ((0 : Int), (0 : Int))
 (lvN N l x.fst) x.snd).snd
 x_4)
 j).snd =
 (nthD ((0 : Int), (0 : Int))
 (lvI N l (lvN N l x_2) x_5)
 j).snd) ∧
 True) ∧
 True))) ∧
 (decide ((↑x_3 : Int) < (↑(lvN N l x_1).length : Int)) = false →
 ∃ (x_4 : Nat),
 x_4 ≤ N.toNat ∧
 ((PLoop.of (lLv0 N l)).ann x).mu x_4 < ((PLoop.of (lLv0 N l)).ann x).mu x_1 ∧
 ((N = N ∧ l.length = l.length) ∧
 True ∧
 True ∧
 True ∧
 IntKind.i64.wrap
 ((↑(lvT N l x_1) : Int) +
 (↑(lvI N l (lvN N l x_2) x_3).length : Int)) =
 (↑(lvT N l x_4) : Int) ∧
 IntKind.i64.wrap ((↑x_1 : Int) + (1 : Int)) = (↑x_4 : Int) ∧ True) ∧
 (l.length = l.length ∧
 (∀ (j : Nat),
 j < l.length →
 (nthD ((0 : Int), (0 : Int)) l j).fst =
 (nthD ((0 : Int), (0 : Int)) l j).fst) ∧
 (∀ (j : Nat),
 j < l.length →
 (nthD ((0 : Int), (0 : Int)) l j).snd =
 (nthD ((0 : Int), (0 : Int)) l j).snd) ∧
 True) ∧
 (N = N ∧ l.length = l.length) ∧
 (True ∧ True ∧ false = false) ∧
 ((lvI N l (lvN N l x_2) x_3).length = (lvN N l x_4).length ∧
 (∀ (j : Nat),
 j < (lvN N l x_4).length →
 (nthD ((0 : Int), (0 : Int)) (lvI N l (lvN N l x_2) x_3) j).fst =
 (nthD ((0 : Int), (0 : Int)) (lvN N l x_4) j).fst) ∧
 True) ∧
 ((lvI N l (lvN N l x_2) x_3).length = (lvN N l x_4).length ∧
 (∀ (j : Nat),
 j < (lvN N l x_4).length →
 (nthD ((0 : Int), (0 : Int)) (lvI N l (lvN N l x_2) x_3) j).snd =
 (nthD ((0 : Int), (0 : Int)) (lvN N l x_4) j).snd) ∧
 True) ∧
 ((lvI N l (lvN N l x_2) x_3).length = (lvN N l x_4).length ∧
 (lvI N l (lvN N l x_2) x_3).length = (lvN N l x_4).length ∧
 false = false) ∧
 True)) ∧
 (decide ((↑x_1 : Int) < N) = false →
 (↑(lvT N l x_1) : Int) = (↑T : Int) ∧
 true = true ∧
 false = false ∧
 (lvN N l x_1).length = (1 : Nat) ∧
 (lvN N l x_1).length = (1 : Nat) ∧
 (lvN N l x_1).length = (1 : Nat) ∧
 (∀ (j : Nat),
 j < (1 : Nat) → (nthD ((0 : Int), (0 : Int)) (lvN N l x_1) j).snd = nthD (0 : Int) [c] j) ∧
 True)) := by kernel_rfl
theorem v43 (N : Int) (l : List Pq) (T : Nat) (c : Int) (hl : L9 l) (h9 : Ok9 N l) (hT : T = lvT N l N.toNat) (hc : waysL (lvN N l N.toNat) = [c]) : fnVc (tabQ [kCan [some (.ps l)]] [(49, kAdd)] [(0, .of (lLv0 N l)), (2, lLv2 N l), (4, lLv4 N l)] [(7, fun _ _ => ghLv)]) Try.f43 [rlV N 0 l] [arP l] (resTwo (.i .i64 (T : Int)) .tt .ff 3 1 (isCols [c])) := by
  rw [v43_eq]
  simp only [eq_self, true_and, and_true, implies_true, imp_self, psK_eq, mkN_ps, mkN_self, mkN_len, PLoop.of, lCnt, Nat.zero_add, lLv0]
  have hn9 := h9.n9
  obtain ⟨v1, v2, v3⟩ := validF_iff.1 h9.v
  refine ⟨(), ⟨0, Nat.zero_le _, ⟨rfl, rfl⟩, ⟨rfl, fun j hj => ?_⟩, ⟨rfl, fun j hj => ?_⟩, rfl, rfl⟩, fun n hn => ⟨fun hlt => ?_, fun hge => ?_⟩⟩
  · have : j = 0 := by have hj : j < 1 := hj
                       omega
    subst this; rfl
  · have : j = 0 := by have hj : j < 1 := hj
                       omega
    subst this; rfl
  · have hn2 : n < N.toNat := by have := of_decide_eq_true hlt; omega
    refine ⟨n, ⟨0, ⟨Nat.zero_le _, hn2⟩, rfl, ⟨rfl, fun j hj => absurd hj (Nat.not_lt_zero _)⟩, ⟨rfl, fun j hj => absurd hj (Nat.not_lt_zero _)⟩, rfl, rfl⟩, fun i hi => ⟨fun hli => ?_, fun hli => ?_⟩⟩
    · have hi2 : i < (lvN N l n).length := lt_len hli
      have hw := waysN h9 (n := n) (by omega) _ (nthM' (0, 0) hi2)
      have hlenN := (lvN_ok h9 n).len h9
      refine ⟨(n, i), ⟨0, ⟨Nat.zero_le _, hi2, hn2⟩, rfl, ⟨rfl, fun _ _ => rfl⟩, ⟨rfl, fun _ _ => rfl⟩, rfl, rfl⟩, fun k hk => ⟨fun hlk => ?_, fun hgk => ?_⟩⟩
      · have hk2 : k < N.toNat := by have := of_decide_eq_true hlk; omega
        obtain ⟨L1, L2⟩ := lvK_all h9 hn2 hi2 hk.1
        have hlen := L1.len h9
        have hwr := wrS (n := 9) (i := k) (by omega) (by omega)
        refine ⟨bd hi2, hi2, hl, ⟨by omega, by omega⟩, fun p hp => ⟨(v3 p hp).1, by have := (v3 p hp).2.1; omega⟩, fun hc => ⟨bd hi2, hi2, wrB2 (by omega) (by omega), bd hi2, hi2, Nat.le_trans hlen (by omega), ⟨hw.1, by omega⟩, fun p hp => ⟨L1.pos p hp, by have := L2 p hp; omega⟩, k + 1, ⟨hk2, hk.2⟩, ?_, hwr, ?_⟩, fun hc => ⟨k + 1, ⟨hk2, hk.2⟩, ?_, hwr, ?_⟩⟩
        · show N.toNat - (k + 1) < N.toNat - k; omega
        · have key : addL (lvK l (lvI N l (lvN N l n) i) (nthD (0, 0) (lvN N l n) i).1 (nthD (0, 0) (lvN N l n) i).2 k) (orS (nthD (0, 0) (lvN N l n) i).1 k) (nthD (0, 0) (lvN N l n) i).2 = lvK l (lvI N l (lvN N l n) i) (nthD (0, 0) (lvN N l n) i).1 (nthD (0, 0) (lvN N l n) i).2 (k + 1) := by rw [lvK, hc]; rfl
          have key := key.symm
          unfold orS at key
          simp only at key ⊢
          rw [key]
          exact ⟨⟨rfl, rfl⟩, ⟨rfl, fun _ _ => rfl⟩, rfl, fun _ _ => rfl⟩
        · show N.toNat - (k + 1) < N.toNat - k; omega
        · have key : lvK l (lvI N l (lvN N l n) i) (nthD (0, 0) (lvN N l n) i).1 (nthD (0, 0) (lvN N l n) i).2 (k + 1) = lvK l (lvI N l (lvN N l n) i) (nthD (0, 0) (lvN N l n) i).1 (nthD (0, 0) (lvN N l n) i).2 k := by rw [lvK, hc]; rfl
          simp only at key ⊢
          rw [key]
          exact ⟨⟨rfl, rfl⟩, ⟨rfl, fun _ _ => rfl⟩, rfl, fun _ _ => rfl⟩
      · have hkN : k = N.toNat := by have := of_decide_eq_false hgk; omega
        subst hkN
        obtain ⟨L1, L2⟩ := lvK_all h9 hn2 hi2 (Nat.le_refl _)
        have hlen := lvT_le h9 L1
        simp only at hlen ⊢
        rw [w64_eq (by omega) (by omega)]
        refine ⟨fun hb => ?_, fun _ => ⟨i + 1, ⟨hi2, hn2⟩, ?_, wrS (n := 512) (by omega) (by omega), ⟨rfl, rfl⟩, ⟨rfl, fun _ _ => rfl⟩, rfl, fun _ _ => rfl⟩⟩
        · have := of_decide_eq_true hb; omega
        · show (lvN N l n).length - (i + 1) < (lvN N l n).length - i; omega
    · have hi2 : i = (lvN N l n).length := ge_len hli hi.1
      subst hi2
      have L1 := lvN_ok h9 (n + 1)
      have hlen := lvT_le h9 L1
      have e : lvI N l (lvN N l n) (lvN N l n).length = lvN N l (n + 1) := rfl
      rw [e]
      refine ⟨n + 1, hn2, by omega, ⟨?_, wrS (n := 9) (by omega) (by omega)⟩, ⟨rfl, fun _ _ => rfl⟩, ⟨rfl, fun _ _ => rfl⟩, rfl, rfl⟩
      rw [w64_eq (by omega) (by omega), lvT]; omega
  · have hnN : n = N.toNat := by have := of_decide_eq_false hge; omega
    subst hnN
    have hl1 : (lvN N l N.toNat).length = 1 := by have := congrArg List.length hc; rwa [waysL, List.length_map] at this
    obtain ⟨p, hp⟩ : ∃ p, lvN N l N.toNat = [p] := List.length_eq_one_iff.1 hl1
    rw [hp] at hc
    have hpc : p.2 = c := by simpa [waysL] using hc
    rw [hp]
    refine ⟨by rw [hT], rfl, rfl, rfl, fun j hj => ?_⟩
    have : j = 0 := by have hj : j < 1 := hj
                       omega
    subst this
    exact hpc
theorem fo43 : fnOk Try.prog 43 := ⟨Try.f43, Try.func43, by kernel_rfl, by kernel_rfl⟩
theorem tabQOk {calls : Calling} {cb : List (Nat × (List MBlk → List SV → Option BRes))} {loops : List (Nat × PLoop)} {takes : List (Nat × (List Slot → List MBlk → List Gh))} (h : ∀ p ∈ calls, CallOk Try.prog [] p.1 p.2) (hb : ∀ p ∈ cb, CallOkB Try.prog [] p.1 p.2) : TabOk Try.prog (tabQ calls cb loops takes) := ⟨mixed, tys, ints, fun _ _ hf => h _ (assoc_mem hf), fun _ _ hf => hb _ (assoc_mem hf)⟩
def t43 : List AV → Tab
  | [.r N l] => tabQ [kCan [some (.ps l)]] [(49, kAdd)] [(0, .of (lLv0 N l)), (2, lLv2 N l), (4, lLv4 N l)] [(7, fun _ _ => ghLv)]
  | _ => tab [] []
theorem c43 : CallOk Try.prog [] 43 (genF EL [] [.r] sLev) := by
  refine okT (fn := Try.f43) Try.func43 fo43 t43 (fun av => ?_) (fun av => ?_) (fun av pre rv h => ?_) (fun av pre rv h hp => ?_)
  · unfold t43; split <;> first | exact tabQOk (mOne (n48 _) mNil) (fun p hp => by simp only [List.mem_singleton] at hp; subst hp; exact b49) | exact tabOk mNil
  · unfold t43; split <;> exact ⟨rfl, rfl⟩
  · unfold sLev at h; split at h <;> cases h
    exact ⟨rfl, fun t a e => by cases e <;> exact List.cons_ne_nil _ _⟩
  · unfold sLev at h; split at h <;> cases h
    have hok := hp _ (.tail _ (.head _))
    have h9 : Ok9 _ _ := ⟨hok, hp _ (.tail _ (.tail _ (.head _)))⟩
    obtain ⟨e, _⟩ := befP_ok hok
    exact v43 _ _ _ _ (hp _ (.head _)) h9 (by rw [e, lvT_eq h9]) (lv_last h9)
theorem n43 (nm : List (Option AV)) : CallOk Try.prog [] 43 (genF EL nm [.r] sLev) := genNm c43
end Go.Proofs.Ytiokmglajigngaa
namespace Go.Proofs.Ytiokmglajigngaa
open Go Go.Proofs.Ytiokmglajigngaa.Sx
set_option maxRecDepth 100000
set_option linter.unusedSimpArgs false
set_option linter.unusedVariables false
theorem v25_eq (N : Int) (l : List Pq) : (fnVc (tab [kWro [], kLev []] []) Try.f25 [rlV N 0 l] [arP l] (plainIs (.tup [.i .i64 (cntV N l : Int), .i .i64 (cntE N l)]))) = (l.length = l.length ∧
 (psK l).length ≤
 (1099511627776 : Nat) ∧
 ((errP N
 (psK l) !=
 (0 : Int)) =
 true →
 (0 : Int) = (↑(cntV N l) : Int) ∧
 errP N
 (psK l) =
 cntE N l) ∧
 ((errP N
 (psK l) !=
 (0 : Int)) =
 false →
 l.length = l.length ∧
 (psK l).length ≤
 (1099511627776 : Nat) ∧
 okP N
 (psK l) =
 true ∧
 N ≤ (9 : Int) ∧
 ((0 : Int) ≤ (0 : Int) ∧
 (0 : Int) <
 (↑[(↑(cmp
 (befP N
 (psK l))
 (0 : Nat)) :
 Int)].length :
 Int)) ∧
 Int.toNat (0 : Int) <
 [(↑(cmp
 (befP N
 (psK l))
 (0 : Nat)) :
 Int)].length ∧
 nthD (0 : Int)
 [(↑(cmp
 (befP N
 (psK l))
 (0 : Nat)) :
 Int)]
 (Int.toNat (0 : Int)) =
 (↑(cntV N l) : Int) ∧
 (0 : Int) = cntE N l)) := by kernel_rfl
theorem v25 (N : Int) (l : List Pq) (hl : L9 l) (h9 : N ≤ 9) : fnVc (tab [kWro [], kLev []] []) Try.f25 [rlV N 0 l] [arP l] (plainIs (.tup [.i .i64 (cntV N l : Int), .i .i64 (cntE N l)])) := by
  rw [v25_eq]
  simp only [eq_self, true_and, and_true, implies_true, imp_self, psK_eq, mkN_ps, mkN_self, mkN_len, PLoop.of, lCnt, Nat.zero_add, AV.len]
  rw [err_ok]
  refine ⟨hl, fun h => ?_, fun h => ?_⟩
  · have h : okP N l = false := by simpa using h
    rw [cntV, cntE, h]; exact ⟨rfl, rfl⟩
  · have h : okP N l = true := by simpa using h
    obtain ⟨_, _, hn, _, _⟩ := befP_ok h
    have hc := okC_small (B := befP N l) (by omega)
    refine ⟨hl, h, h9, ⟨by omega, by simp⟩, by simp, ?_, ?_⟩
    · rw [cntV, h, hc]; rfl
    · rw [cntE, h, errC_ok hc]; rfl
theorem fo25 : fnOk Try.prog 25 := ⟨Try.f25, Try.func25, by kernel_rfl, by kernel_rfl⟩
def t25 : List AV → Tab
  | [.r N l] => tab [kWro [], kLev []] []
  | _ => tab [] []
theorem c25 : CallOk Try.prog [] 25 (genF EL [] [.r] sCnR) := by
  refine okT (fn := Try.f25) Try.func25 fo25 t25 (fun av => ?_) (fun av => ?_) (fun av pre rv h => ?_) (fun av pre rv h hp => ?_)
  · unfold t25; split <;> first | exact tabOk (mOne (n35 _) (mOne (n43 _) mNil)) | exact tabOk mNil
  · unfold t25; split <;> exact ⟨rfl, rfl⟩
  · unfold sCnR at h; split at h <;> cases h
    exact ⟨rfl, fun t a e => by cases e <;> exact List.cons_ne_nil _ _⟩
  · unfold sCnR at h; split at h <;> cases h
    exact v25 _ _ (hp _ (.head _)) (hp _ (.tail _ (.head _)))
theorem n25 (nm : List (Option AV)) : CallOk Try.prog [] 25 (genF EL nm [.r] sCnR) := genNm c25
end Go.Proofs.Ytiokmglajigngaa
namespace Go.Proofs.Ytiokmglajigngaa
open Go Go.Proofs.Ytiokmglajigngaa.Sx
def tabN (calls : Calling) (loops : List (Nat × PLoop)) : Tab := ⟨tyTab, [], calls, loops, [], [], [], [1000001]⟩
/-- Whether the number k comes behind element i of the prefix. -/
def behB (pre : List Int) (i k : Nat) : Bool := decide (posI (k : Int) pre 0 < 0) || decide (posI (k : Int) pre 0 > (i : Int))
/-- The pairs that force element i of the prefix ahead of the numbers below k that come behind it. -/
def aftR (pre : List Int) (i : Nat) : Nat → List Pq
  | 0 => []
  | k + 1 => aftR pre i k ++ bif behB pre i k then [(nthD 0 pre i, (k : Int))] else []
def aftL (N : Int) (l : List Pq) (pre : List Int) : Nat → List Pq
  | 0 => l
  | i + 1 => aftL N l pre i ++ aftR pre i N.toNat
def aftP (N : Int) (l : List Pq) (pre : List Int) : List Pq := aftL N l pre pre.length
def sAft : Sp := fun | [.r N l, .is pre] => some ([l.length ≤ 1000000, pre.length ≤ 64, 0 ≤ N ∧ N ≤ 64], .sl (fun k => .agg [.i .i64 N, .sl 0 k]) (.ps (aftP N l pre))) | _ => none
def kAft (nm : List (Option AV)) : Nat × (List MBlk → List SV → Option AR) := (46, genF EL nm [.r, .is] sAft)
def aftMem (N : Int) (L : List Pq) : List (Nat × MBlk) := [(4, .oarr 40 L.length (psCols L)), (5, .cells [.i .i64 N, .sl 4 L.length])]
def lAf0 (N : Int) (l : List Pq) (pre : List Int) : LAnn := ⟨Nat, fun i => i ≤ pre.length, fun i => [(6, .i .i64 (i : Int))], fun i => aftMem N (aftL N l pre i), fun i => pre.length - i, [4], []⟩
def lAf2 (N : Int) (l : List Pq) (pre : List Int) : PLoop := ⟨Nat, fun i => ⟨Nat, fun k => k ≤ N.toNat ∧ i < pre.length, fun k => [(7, .i .i64 (k : Int))], fun k => aftMem N (aftL N l pre i ++ aftR pre i k), fun k => N.toNat - k, [4], []⟩⟩
/-- The number of extensions that begin with the prefix and one of the first k that can follow. -/
def preC (N : Int) (l : List Pq) (x : List Int) : Nat := cntV N (aftP N l x)
def sumC (N : Int) (l : List Pq) (P : List Int) : Nat → Nat
  | 0 => 0
  | k + 1 => sumC N l P k + preC N l (P ++ [nthD 0 (nxtL N l P) k])
end Go.Proofs.Ytiokmglajigngaa
