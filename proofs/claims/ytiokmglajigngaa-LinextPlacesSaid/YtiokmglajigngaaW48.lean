/-
  The linext layer: the reference's Rank.
-/
import Derived.Test.YtiokmglajigngaaW44
import Derived.Test.YtiokmglajigngaaW35
namespace Go.Proofs.Ytiokmglajigngaa
open Go Go.Proofs.Ytiokmglajigngaa.Sx
set_option maxRecDepth 100000
set_option linter.unusedSimpArgs false
set_option linter.unusedVariables false
theorem mkN_nx {o : List Int} {i : Nat} {z : Int} : mkN (fun j => bif Nat.blt j i then nthD 0 o j else pickI [z] (j - i)) (i + 1) = tkO o i ++ [z] := by
  apply List.ext_getElem
  · rw [mkN_len, List.length_append, tkO, mkN_len]; rfl
  · intro j h1 h2
    rw [mkN_len] at h1
    rw [← nthD_get 0 _ _ (by rw [mkN_len]; exact h1), ← nthD_get 0 _ _ h2, nthD_mkN _ _ h1]
    by_cases h : j < i
    · rw [nthD_lt _ (by rw [tkO, mkN_len]; exact h), tkO, nthD_mkN _ _ h, show Nat.blt j i = true from Nat.ble_eq_true_of_le h, cond_true]
    · have e : j = i := by omega
      subst e
      have hl : (tkO o j).length = j := by rw [tkO, mkN_len]
      have e2 : nthD 0 (tkO o j ++ [z]) j = z := by
        conv => lhs; rw [show nthD 0 (tkO o j ++ [z]) j = nthD 0 (tkO o j ++ [z]) (tkO o j).length by rw [hl]]
        rw [nthD_at]
      rw [e2, show Nat.blt j j = false by rw [Bool.eq_false_iff]; intro h; have := Nat.le_of_ble_eq_true h; omega, cond_false, Nat.sub_self]; rfl
theorem aftP_len {N : Int} {l : List Pq} {pre : List Int} (hN : N ≤ 64) (hl : l.length ≤ 1000000) (hp : pre.length ≤ 64) : (aftP N l pre).length ≤ 1004096 := by
  have := aftL_len (l := l) (pre := pre) hN pre.length
  rw [aftP]; omega
theorem cnt9 {N : Int} {l : List Pq} (h : Rl N l) (h9 : N ≤ 9) : cmp (befP N l) 0 ≤ maxI := by
  obtain ⟨_, _, hn, _, _⟩ := befP_ok h.ok
  exact (okC_iff.1 (okC_small (B := befP N l) (by omega))).2
theorem v30_eq (N : Int) (l : List Pq) (o : List Int) (B : List Int) : (fnVc (tabN [kWro [some (.ps l)], kIs' [some (.ps l), some (.is o)], kCnR [some (.ps l)], kNxt [some (.ps l)], kAft [some (.ps l)]] [(0, .of (lRr0 B o)), (2, lRr2 N l B o)]) Try.f30 [rlV N 0 l, .sl 1 o.length] [arP l, arI o] (plainIs (.tup [.i .i64 (rkV N l o : Int), .i .i64 (rkE N l o)]))) = (l.length = l.length ∧
 psK l = l ∧
 l.length ≤ (1099511627776 : Nat) ∧
 ((errP N l != (0 : Int)) = true → (0 : Int) = (↑(rkV N l o) : Int) ∧ errP N l = rkE N l o) ∧
 ((errP N l != (0 : Int)) = false →
 l.length = l.length ∧
 o.length = o.length ∧
 psK l =
 l ∧
 mkN (nthD (0 : Int) o) o.length = o ∧
 l.length ≤ (1099511627776 : Nat) ∧
 o.length ≤ (1099511627776 : Nat) ∧
 ((!isX N l o) = true → (0 : Int) = (↑(rkV N l o) : Int) ∧ (5 : Int) = rkE N l o) ∧
 ((!isX N l o) = false →
 l.length = l.length ∧
 psK l =
 l ∧
 l.length ≤ (1099511627776 : Nat) ∧
 N ≤ (9 : Int) ∧
 ((cntE N l != (0 : Int)) = true →
 (0 : Int) = (↑(rkV N l o) : Int) ∧ cntE N l = rkE N l o) ∧
 ((cntE N l != (0 : Int)) = false →
 ∃ (x : PUnit),
 (∃ (x : Nat),
 x ≤ o.length ∧
 ((0 : Int) = (↑x : Int) ∧ (0 : Int) = (↑(rkT B o x) : Int) ∧ True) ∧
 True) ∧
 ∀ (x_1 : Nat),
 x_1 ≤ o.length →
 (decide ((↑x_1 : Int) < (↑o.length : Int)) = true →
 o.length = o.length ∧
 (0 : Int) ≤ (↑x_1 : Int) ∧
 (↑x_1 : Int) ≤ (↑o.length : Int) ∧
 l.length = l.length ∧
 x_1 = x_1 ∧
 psK l =
 l ∧
 validF N l = true ∧
 l.length ≤ (1099511627776 : Nat) ∧
 (mkN (nthD (0 : Int) o) x_1).length ≤
 (1099511627776 : Nat) ∧
 ∃ (x_2 : Nat),
 (∃ (x : Nat),
 (x ≤ (nxtL N l (tkO o x_2)).length ∧
 x_2 < o.length ∧
 ∀ (j : Nat),
 j < x →
 nthD (0 : Int)
 (nxtL N l (tkO o x_2)) j <
 nthD (0 : Int) o x_2) ∧
 ((0 : Int) = (↑x : Int) ∧
 (↑(rkT B o x_1) : Int) =
 (↑(rkT B o x_2 +
 sumC N l (tkO o x_2) x) :
 Int) ∧
 True) ∧
 True) ∧
 ∀ (x_3 : Nat),
 (x_3 ≤ (nxtL N l (tkO o x_2)).length ∧
 x_2 < o.length ∧
 ∀ (j : Nat),
 j < x_3 →
 nthD (0 : Int)
 (nxtL N l (tkO o x_2)) j <
 nthD (0 : Int) o x_2) →
 (decide
 ((↑x_3 : Int) <
 (↑(AV.is
 (nxtL N l
 (mkN (nthD (0 : Int) o)
 x_1))).len :
 Int)) =
 true →
 (0 : Int) ≤ (↑x_3 : Int) ∧
 (↑x_3 : Int) <
 (↑(AV.is
 (nxtL N l
 (mkN (nthD (0 : Int) o)
 x_1))).len :
 Int)) ∧
 (decide
 ((↑x_3 : Int) <
 (↑(AV.is
 (nxtL N l
 (mkN
 (nthD (0 : Int) o)
 x_1))).len :
 Int)) =
 true →
 x_3 <
 (AV.is
 (nxtL N l
 (mkN (nthD (0 : Int) o)
 x_1))).len) ∧
 (decide
 ((↑x_3 : Int) <
 (↑(AV.is
 (nxtL N l
 (mkN
 (nthD (0 : Int) o)
 x_1))).len :
 Int)) =
 true →
 (0 : Int) ≤ (↑x_1 : Int) ∧
 (↑x_1 : Int) <
 (↑o.length : Int)) ∧
 (decide
 ((↑x_3 : Int) <
 (↑(AV.is
 (nxtL N l
 (mkN
 (nthD (0 : Int)
 o)
 x_1))).len :
 Int)) =
 true →
 x_1 < o.length) ∧
 ((decide
 ((↑x_3 : Int) <
 (↑(AV.is
 (nxtL N l
 (mkN
 (nthD
 (0 : Int)
 o)
 x_1))).len :
 Int)) &&
 decide
 (nthD (0 : Int)
 (nxtL N l
 (mkN
 (nthD (0 : Int) o)
 x_1))
 x_3 <
 nthD (0 : Int) o x_1)) =
 true →
 o.length = o.length ∧
 (0 : Int) ≤ (↑x_1 : Int) ∧
 (↑x_1 : Int) ≤
 (↑o.length : Int) ∧
 (0 : Nat) = (0 : Nat) ∧
 x_1 = x_1 ∧
 ((0 : Nat) + x_1) *
 (8 : Nat) ≤
 (140737488355328 :
 Nat) ∧
 (0 : Nat) + x_1 ≤
 (9223372036854775807 :
 Nat) ∧
 ((0 : Int) ≤
 (↑x_3 :
 Int) ∧
 (↑x_3 : Int) <
 (↑(AV.is
 (nxtL
 N
 l
 (mkN
 (nthD
 (0 :
 Int)
 o)
 x_1))).len :
 Int)) ∧
 x_3 <
 (AV.is
 (nxtL N
 l
 (mkN
 (nthD
 (0 :
 Int)
 o)
 x_1))).len ∧
 (0 : Nat) +
 x_1 =
 (0 :
 Nat) +
 x_1 ∧
 (1 : Nat) =
 (1 :
 Nat) ∧
 ((0 :
 Nat) +
 x_1 +
 (1 :
 Nat)) *
 (8 :
 Nat) ≤
 (140737488355328 :
 Nat) ∧
 (0 :
 Nat) +
 x_1 +
 (1 :
 Nat) ≤
 (9223372036854775807 :
 Nat) ∧
 l.length =
 l.length ∧
 (0 :
 Nat) +
 x_1 +
 (1 :
 Nat) =
 (0 :
 Nat) +
 x_1 +
 (1 :
 Nat) ∧
 mkN
 (fun
 (j :
 Nat) =>
 ((nthD
 ((0 :
 Int),
 (0 :
 Int))
 l
 j).fst,
 (nthD
 ((0 :
 Int),
 (0 :
 Int))
 l
 j).snd))
 l.length =
 l ∧
 l.length ≤
 (1000000 :
 Nat) ∧
 (mkN
 (fun
 (j :
 Nat) =>
 bif
 j.blt
 ((0 :
 Nat) +
 x_1) then
 nthD
 (0 :
 Int)
 o
 j
 else
 pickI
 [nthD
 (0 :
 Int)
 (nxtL
 N
 l
 (mkN
 (nthD
 (0 :
 Int)
 o)
 x_1))
 x_3]
 (j -
 ((0 :
 Nat) +
 x_1)))
 ((0 :
 Nat) +
 x_1 +
 (1 :
 Nat))).length ≤
 (64 :
 Nat) ∧
 ((0 :
 Int) ≤
 N ∧
 N ≤
 (64 :
 Int)) ∧
 (AV.ps
 (aftP
 N
 l
 (mkN
 (fun
 (j :
 Nat) =>
 bif
 j.blt
 ((0 :
 Nat) +
 x_1) then
 nthD
 (0 :
 Int)
 o
 j
 else
 pickI
 [nthD
 (0 :
 Int)
 (nxtL
 N
 l
 (mkN
 (nthD
 (0 :
 Int)
 o)
 x_1))
 x_3]
 (j -
 ((0 :
 Nat) +
 x_1)))
 ((0 :
 Nat) +
 x_1 +
 (1 :
 Nat))))).len =
 (AV.ps
 (aftP
 N
 l
 (mkN
 (fun
 (j :
 Nat) =>
 bif
 j.blt
 ((0 :
 Nat) +
 x_1) then
 nthD
 (0 :
 Int)
 o
 j
 else
 pickI
 [nthD
 (0 :
 Int)
 (nxtL
 N
 l
 (mkN
 (nthD
 (0 :
 Int)
 o)
 x_1))
 x_3]
 (j -
 ((0 :
 Nat) +
 x_1)))
 ((0 :
 Nat) +
 x_1 +
 (1 :
 Nat))))).len ∧
 (mkN
 (fun
 (j :
 Nat) =>
 ((nthD
 ((0 :
 Int),
 (0 :
 Int))
 (aftP
 N
 l
 (mkN
 (fun
 (j :
 Nat) =>
 bif
 j.blt
 ((0 :
 Nat) +
 x_1) then
 nthD
 (0 :
 Int)
 o
 j
 else
 pickI
 [nthD
 (0 :
 Int)
 (nxtL
 N
 l
 (mkN
 (nthD
 (0 :
 Int)
 o)
 x_1))
 x_3]
 (j -
 ((0 :
 Nat) +
 x_1)))
 ((0 :
 Nat) +
 x_1 +
 (1 :
 Nat))))
 j).fst,
 (nthD
 ((0 :
 Int),
 (0 :
 Int))
 (aftP
 N
 l
 (mkN
 (fun
 (j :
 Nat) =>
 bif
 j.blt
 ((0 :
 Nat) +
 x_1) then
 nthD
 (0 :
 Int)
 o
 j
 else
 pickI
 [nthD
 (0 :
 Int)
 (nxtL
 N
 l
 (mkN
 (nthD
 (0 :
 Int)
 o)
 x_1))
 x_3]
 (j -
 ((0 :
 Nat) +
 x_1)))
 ((0 :
 Nat) +
 x_1 +
 (1 :
 Nat))))
 j).snd))
 (AV.ps
 (aftP
 N
 l
 (mkN
 (fun
 (j :
 Nat) =>
 bif
 j.blt
 ((0 :
 Nat) +
 x_1) then
 nthD
 (0 :
 Int)
 o
 j
 else
 pickI
 [nthD
 (0 :
 Int)
 (nxtL
 N
 l
 (mkN
 (nthD
 (0 :
 Int)
 o)
 x_1))
 x_3]
 (j -
 ((0 :
 Nat) +
 x_1)))
 ((0 :
 Nat) +
 x_1 +
 (1 :
 Nat))))).len).length ≤
 (1099511627776 :
 Nat) ∧
 N ≤
 (9 :
 Int) ∧
 ∃
 (x
 :
 Nat),
 (x ≤
 (nxtL
 N
 l
 (tkO
 o
 x_2)).length ∧
 x_2 <
 o.length ∧
 ∀
 (j :
 Nat),
 j <
 x →
 nthD
 (0 :
 Int)
 (nxtL
 N
 l
 (tkO
 o
 x_2))
 j <
 nthD
 (0 :
 Int)
 o
 x_2) ∧
 ((lRr2
 N
 l
 B
 o).ann
 x_2).mu
 x <
 ((lRr2
 N
 l
 B
 o).ann
 x_2).mu
 x_3 ∧
 ((N =
 N ∧
 l.length =
 l.length) ∧
 o.length =
 o.length ∧
 True ∧
 (0 :
 Int) =
 (0 :
 Int) ∧
 (0 :
 Int) =
 (0 :
 Int) ∧
 errP
 N
 l =
 errP
 N
 l ∧
 (↑(cntV
 N
 l) :
 Int) =
 (↑(cntV
 N
 l) :
 Int) ∧
 cntE
 N
 l =
 cntE
 N
 l ∧
 IntKind.i64.wrap
 ((↑(rkT
 B
 o
 x_2 +
 sumC
 N
 l
 (tkO
 o
 x_2)
 x_3) :
 Int) +
 (↑(cntV
 N
 (mkN
 (fun
 (j :
 Nat) =>
 ((nthD
 ((0 :
 Int),
 (0 :
 Int))
 (aftP
 N
 l
 (mkN
 (fun
 (j :
 Nat) =>
 bif
 j.blt
 ((0 :
 Nat) +
 x_1) then
 nthD
 (0 :
 Int)
 o
 j
 else
 pickI
 [nthD
 (0 :
 Int)
 (nxtL
 N
 l
 (mkN
 (nthD
 (0 :
 Int)
 o)
 x_1))
 x_3]
 (j -
 ((0 :
 Nat) +
 x_1)))
 ((0 :
 Nat) +
 x_1 +
 (1 :
 Nat))))
 j).fst,
 (nthD
 ((0 :
 Int),
 (0 :
 Int))
 (aftP
 N
 l
 (mkN
 (fun
 (j :
 Nat) =>
 bif
 j.blt
 ((0 :
 Nat) +
 x_1) then
 nthD
 (0 :
 Int)
 o
 j
 else
 pickI
 [nthD
 (0 :
 Int)
 (nxtL
 N
 l
 (mkN
 (nthD
 (0 :
 Int)
 o)
 x_1))
 x_3]
 (j -
 ((0 :
 Nat) +
 x_1)))
 ((0 :
 Nat) +
 x_1 +
 (1 :
 Nat))))
 j).snd))
 (AV.ps
 (aftP
 N
 l
 (mkN
 (fun
 (j :
 Nat) =>
 bif
 j.blt
 ((0 :
 Nat) +
 x_1) then
 nthD
 (0 :
 Int)
 o
 j
 else
 pickI
 [nthD
 (0 :
 Int)
 (nxtL
 N
 l
 (mkN
 (nthD
 (0 :
 Int)
 o)
 x_1))
 x_3]
 (j -
 ((0 :
 Nat) +
 x_1)))
 ((0 :
 Nat) +
 x_1 +
 (1 :
 Nat))))).len)) :
 Int)) =
 (↑(rkT
 B
 o
 x_2 +
 sumC
 N
 l
 (tkO
 o
 x_2)
 x) :
 Int) ∧
 (↑x_1 :
 Int) =
 (↑x_1 :
 Int) ∧
 (AV.is
 (nxtL
 N
 l
 (mkN
 (nthD
 (0 :
 Int)
 o)
 x_1))).len =
 (AV.is
 (nxtL
 N
 l
 (mkN
 (nthD
 (0 :
 Int)
 o)
 x_1))).len ∧
 IntKind.i64.wrap
 ((↑x_3 :
 Int) +
 (1 :
 Int)) =
 (↑x :
 Int) ∧
 (N =
 N ∧
 l.length =
 l.length) ∧
 errP
 N
 l =
 errP
 N
 l ∧
 errP
 N
 l =
 errP
 N
 l ∧
 false =
 false ∧
 (N =
 N ∧
 l.length =
 l.length) ∧
 o.length =
 o.length ∧
 isX
 N
 l
 o =
 isX
 N
 l
 o ∧
 false =
 false ∧
 ((↑(cntV
 N
 l) :
 Int) =
 (↑(cntV
 N
 l) :
 Int) ∧
 cntE
 N
 l =
 cntE
 N
 l) ∧
 (N =
 N ∧
 l.length =
 l.length) ∧
 ((↑(cntV
 N
 l) :
 Int) =
 (↑(cntV
 N
 l) :
 Int) ∧
 cntE
 N
 l =
 cntE
 N
 l) ∧
 (↑(cntV
 N
 l) :
 Int) =
 (↑(cntV
 N
 l) :
 Int) ∧
 cntE
 N
 l =
 cntE
 N
 l ∧
 cntE
 N
 l =
 cntE
 N
 l ∧
 false =
 false ∧
 (↑x_1 :
 Int) =
 (↑x_1 :
 Int) ∧
 o.length =
 o.length ∧
 (↑o.length :
 Int) =
 (↑o.length :
 Int) ∧
 true =
 true ∧
 (N =
 N ∧
 l.length =
 l.length) ∧
 o.length =
 o.length ∧
 (↑x_1 :
 Int) =
 (↑x_1 :
 Int) ∧
 x_1 =
 x_1 ∧
 (AV.is
 (nxtL
 N
 l
 (mkN
 (nthD
 (0 :
 Int)
 o)
 x_1))).len =
 (AV.is
 (nxtL
 N
 l
 (mkN
 (nthD
 (0 :
 Int)
 o)
 x_1))).len ∧
 True) ∧
 (l.length =
 l.length ∧
 (∀
 (j :
 Nat),
 j <
 l.length →
 (nthD
 ((0 :
 Int),
 (0 :
 Int))
 l
 j).fst =
 (nthD
 ((0 :
 Int),
 (0 :
 Int))
 l
 j).fst) ∧
 (∀
 (j :
 Nat),
 j <
 l.length →
 (nthD
 ((0 :
 Int),
 (0 :
 Int))
 l
 j).snd =
 (nthD
 ((0 :
 Int),
 (0 :
 Int))
 l
 j).snd) ∧
 True) ∧
 (o.length =
 o.length ∧
 (∀
 (j :
 Nat),
 j <
 o.length →
 nthD
 (0 :
 Int)
 o
 j =
 nthD
 (0 :
 Int)
 o
 j) ∧
 True) ∧
 (N =
 N ∧
 l.length =
 l.length) ∧
 (x_1 =
 x_1 ∧
 (∀
 (j :
 Nat),
 j <
 x_1 →
 nthD
 (0 :
 Int)
 o
 j =
 nthD
 (0 :
 Int)
 o
 j) ∧
 True) ∧
 ((AV.is
 (nxtL
 N
 l
 (mkN
 (nthD
 (0 :
 Int)
 o)
 x_1))).len =
 (AV.is
 (nxtL
 N
 l
 (mkN
 (nthD
 (0 :
 Int)
 o)
 x_1))).len ∧
 (∀
 (j :
 Nat),
 j <
 (AV.is
 (nxtL
 N
 l
 (mkN
 (nthD
 (0 :
 Int)
 o)
 x_1))).len →
 nthD
 (0 :
 Int)
 (nxtL
 N
 l
 (mkN
 (nthD
 (0 :
 Int)
 o)
 x_1))
 j =
 nthD
 (0 :
 Int)
 (nxtL
 N
 l
 (mkN
 (nthD
 (0 :
 Int)
 o)
 x_1))
 j) ∧
 True) ∧
 True) ∧
 ((decide
 ((↑x_3 : Int) <
 (↑(AV.is
 (nxtL N l
 (mkN
 (nthD
 (0 : Int)
 o)
 x_1))).len :
 Int)) &&
 decide
 (nthD (0 : Int)
 (nxtL N l
 (mkN
 (nthD (0 : Int) o)
 x_1))
 x_3 <
 nthD (0 : Int) o x_1)) =
 false →
 ∃ (x_4 : Nat),
 x_4 ≤ o.length ∧
 ((PLoop.of (lRr0 B o)).ann
 x).mu
 x_4 <
 ((PLoop.of
 (lRr0 B
 o)).ann
 x).mu
 x_1 ∧
 ((N = N ∧
 l.length =
 l.length) ∧
 o.length = o.length ∧
 True ∧
 (0 : Int) =
 (0 : Int) ∧
 (0 : Int) =
 (0 : Int) ∧
 errP N l =
 errP N l ∧
 (↑(cntV N
 l) :
 Int) =
 (↑(cntV
 N
 l) :
 Int) ∧
 cntE N l =
 cntE N
 l ∧
 (↑(rkT B
 o
 x_2 +
 sumC
 N
 l
 (tkO
 o
 x_2)
 x_3) :
 Int) =
 (↑(rkT
 B
 o
 x_4) :
 Int) ∧
 IntKind.i64.wrap
 ((↑x_1 :
 Int) +
 (1 :
 Int)) =
 (↑x_4 :
 Int) ∧
 (N =
 N ∧
 l.length =
 l.length) ∧
 errP
 N
 l =
 errP
 N
 l ∧
 errP
 N
 l =
 errP
 N
 l ∧
 false =
 false ∧
 (N =
 N ∧
 l.length =
 l.length) ∧
 o.length =
 o.length ∧
 isX
 N
 l
 o =
 isX
 N
 l
 o ∧
 false =
 false ∧
 ((↑(cntV
 N
 l) :
 Int) =
 (↑(cntV
 N
 l) :
 Int) ∧
 cntE
 N
 l =
 cntE
 N
 l) ∧
 (N =
 N ∧
 l.length =
 l.length) ∧
 ((↑(cntV
 N
 l) :
 Int) =
 (↑(cntV
 N
 l) :
 Int) ∧
 cntE
 N
 l =
 cntE
 N
 l) ∧
 (↑(cntV
 N
 l) :
 Int) =
 (↑(cntV
 N
 l) :
 Int) ∧
 cntE
 N
 l =
 cntE
 N
 l ∧
 cntE
 N
 l =
 cntE
 N
 l ∧
 false =
 false ∧
 True) ∧
 (l.length = l.length ∧
 (∀ (j : Nat),
 j < l.length →
 (nthD
 ((0 :
 Int),
 (0 :
 Int))
 l
 j).fst =
 (nthD
 ((0 :
 Int),
 (0 :
 Int))
 l
 j).fst) ∧
 (∀ (j : Nat),
 j < l.length →
 (nthD
 ((0 :
 Int),
 (0 :
 Int))
 l
 j).snd =
 (nthD
 ((0 :
 Int),
 (0 :
 Int))
 l
 j).snd) ∧
 True) ∧
 (o.length = o.length ∧
 (∀ (j : Nat),
 j < o.length →
 nthD
 (0 :
 Int)
 o j =
 nthD
 (0 :
 Int)
 o j) ∧
 True) ∧
 (N = N ∧
 l.length =
 l.length) ∧
 True)) ∧
 (decide ((↑x_1 : Int) < (↑o.length : Int)) = false →
 (↑(rkT B o x_1) : Int) = (↑(rkV N l o) : Int) ∧
 (0 : Int) = rkE N l o))))) := by kernel_rfl
theorem v30 (N : Int) (l : List Pq) (o : List Int) (B : List Int) (hB : B = befP N l) (hl : l.length ≤ 1000000) (ho : L9 o) (h9 : N ≤ 9) : fnVc (tabN [kWro [some (.ps l)], kIs' [some (.ps l), some (.is o)], kCnR [some (.ps l)], kNxt [some (.ps l)], kAft [some (.ps l)]] [(0, .of (lRr0 B o)), (2, lRr2 N l B o)]) Try.f30 [rlV N 0 l, .sl 1 o.length] [arP l, arI o] (plainIs (.tup [.i .i64 (rkV N l o : Int), .i .i64 (rkE N l o)])) := by
  rw [v30_eq]
  simp only [eq_self, true_and, and_true, implies_true, imp_self, psK_eq, mkN_ps, mkN_self, mkN_len, PLoop.of, lCnt, Nat.zero_add, AV.len]
  have hl9 : l.length ≤ 1099511627776 := by omega
  rw [err_ok]
  refine ⟨hl9, fun h => ?_, fun h => ⟨hl9, ho, fun hx => ?_, fun hx => ⟨hl9, h9, fun hc => ?_, fun hc => ?_⟩⟩⟩
  · have h : okP N l = false := by simpa using h
    rw [rkV, rkE, h]; exact ⟨rfl, rfl⟩
  · have h : okP N l = true := by simpa using h
    have hx : isX N l o = false := by simpa using hx
    rw [rkV, rkE, h, hx]; exact ⟨rfl, rfl⟩
  · have h : okP N l = true := by simpa using h
    obtain ⟨_, _, hn, _, _⟩ := befP_ok h
    rw [cntE, h, cond_true, errC, okC_small (B := befP N l) (by omega)] at hc
    exact absurd hc (by decide)
  · have h : okP N l = true := by simpa using h
    have hx : isX N l o = true := by simpa using hx
    obtain ⟨eB, hN1, hN2, hn, hv⟩ := befP_ok h
    have hok := okC_small (B := befP N l) (by omega)
    have R := Rl.of9 h h9
    have hM := cnt9 R h9
    obtain ⟨_, hol, _⟩ := isX_iff.1 hx
    have hV := validF_iff.1 hv
    subst hB
    refine ⟨(), ⟨0, Nat.zero_le _, rfl, rfl⟩, fun i hi => ⟨fun hlt => ?_, fun hge => ?_⟩⟩
    · have hi2 : i < o.length := lt_len hlt
      have g := isX_gp hx i hi
      rw [← tkO_eq hi] at g
      have hR := (isX_step hx hi2).1
      obtain ⟨y, hy⟩ := Int.eq_ofNat_of_zero_le hR.1
      have hle := rk_le h hx R.okD (i + 1) (by omega)
      have hrk : rkT (befP N l) o (i + 1) = rkT (befP N l) o i + sumF (befP N l) (maskM (tkO o i)) (cmp (befP N l)) y := by rw [rkT, tkO_eq hi, hy, Int.toNat_natCast]
      refine ⟨by omega, by omega, hv, hl9, (by have := ho; unfold L9 at this; omega), i, ⟨0, ⟨Nat.zero_le _, hi2, fun j hj => absurd hj (Nat.not_lt_zero _)⟩, rfl, rfl⟩, fun k hk => ?_⟩
      obtain ⟨hk1, _, hk2⟩ := hk
      change k ≤ (nxtL N l (tkO o i)).length at hk1
      rw [show mkN (nthD 0 o) i = tkO o i from rfl]
      have hdk : ∀ {n : Nat}, decide ((k : Int) < (n : Int)) = true → k < n := fun h => by have := of_decide_eq_true h; omega
      refine ⟨fun q => ⟨by omega, by have := hdk q; omega⟩, fun q => hdk q, fun _ => ⟨by omega, by omega⟩, fun _ => hi2, fun q => ?_, fun q => ?_⟩
      · rw [Bool.and_eq_true] at q
        have hkl := hdk q.1
        have hky := of_decide_eq_true q.2
        obtain ⟨z, e1, e2, e3, e4, e5⟩ := sumC_at R h9 g hkl
        rw [mkN_nx]
        have hm : sumF (befP N l) (maskM (tkO o i)) (cmp (befP N l)) (z + 1) ≤ sumF (befP N l) (maskM (tkO o i)) (cmp (befP N l)) y := sumF_mono (by omega)
        have hlen : (tkO o i ++ [nthD 0 (nxtL N l (tkO o i)) k]).length ≤ 64 := by rw [List.length_append, tkO, mkN_len]; simp; omega
        have hA := aftP_len (pre := tkO o i ++ [nthD 0 (nxtL N l (tkO o i)) k]) hV.2.1 hl hlen
        have hmx : maxI = 9223372036854775807 := rfl
        have hkN := nxtK_len l (tkO o i) N.toNat
        change (nxtL N l (tkO o i)).length ≤ N.toNat at hkN
        have hs : sumC N l (tkO o i) (k + 1) = sumC N l (tkO o i) k + cntV N (aftP N l (tkO o i ++ [nthD 0 (nxtL N l (tkO o i)) k])) := rfl
        refine ⟨by omega, by omega, by omega, by omega, ⟨by omega, by omega⟩, hkl, by omega, by omega, hl, by omega, ⟨hV.1, hV.2.1⟩, by omega, h9, k + 1, ⟨hkl, hi2, fun j hj => ?_⟩, ?_, ?_, wrS (n := 64) (by omega) (by omega)⟩
        · by_cases hjk : j < k
          · exact hk2 j hjk
          · have e : j = k := by omega
            subst e; exact hky
        · show (nxtL N l (tkO o i)).length - (k + 1) < (nxtL N l (tkO o i)).length - k; omega
        · rw [w64_eq (by omega) (by omega), ← Int.natCast_add]
          rw [hs, Nat.add_assoc]
      · have hs : sumC N l (tkO o i) k = sumF (befP N l) (maskM (tkO o i)) (cmp (befP N l)) y := by
          refine sumC_all R h9 g (by omega) hk1 (fun j hj => by rw [← hy]; exact hk2 j hj) fun hkl => ?_
          rw [Bool.and_eq_false_iff] at q
          rcases q with q | q
          · have := of_decide_eq_false q; omega
          · have := of_decide_eq_false q; omega
        refine ⟨i + 1, hi2, ?_, by rw [hrk, hs], wrS (n := 64) (by omega) (by omega)⟩
        show o.length - (i + 1) < o.length - i; omega
    · have hi2 : i = o.length := ge_len hge hi
      subst hi2
      rw [rkV, rkE, h, hx, hok, errC, hok]; exact ⟨rfl, rfl⟩
theorem tabNOk {calls : Calling} {loops : List (Nat × PLoop)} (h : ∀ p ∈ calls, CallOk Try.prog [] p.1 p.2) : TabOk Try.prog (tabN calls loops) := by
  have := tabOk (loops := loops) h
  exact ⟨this.1, this.2, this.3, this.4, this.5⟩
theorem fo30 : fnOk Try.prog 30 := ⟨Try.f30, Try.func30, by kernel_rfl, by kernel_rfl⟩
def t30 : List AV → Tab
  | [.r N l, .is o] => tabN [kWro [some (.ps l)], kIs' [some (.ps l), some (.is o)], kCnR [some (.ps l)], kNxt [some (.ps l)], kAft [some (.ps l)]] [(0, .of (lRr0 (befP N l) o)), (2, lRr2 N l (befP N l) o)]
  | _ => tab [] []
theorem c30 : CallOk Try.prog [] 30 (genF EL [] [.r, .is] sRkR) := by
  refine okT (fn := Try.f30) Try.func30 fo30 t30 (fun av => ?_) (fun av => ?_) (fun av pre rv h => ?_) (fun av pre rv h hp => ?_)
  · unfold t30; split <;> first | exact tabNOk (mOne (n35 _) (mOne (n17 _) (mOne (n25 _) (mOne (n36 _) (mOne (n46 _) mNil))))) | exact tabOk mNil
  · unfold t30; split <;> exact ⟨rfl, rfl⟩
  · unfold sRkR at h; split at h <;> cases h
    exact ⟨rfl, fun t a e => by cases e <;> exact List.cons_ne_nil _ _⟩
  · unfold sRkR at h; split at h <;> cases h
    exact v30 _ _ _ _ rfl (hp _ (.head _)) (hp _ (.tail _ (.head _))) (hp _ (.tail _ (.tail _ (.head _))))
theorem n30 (nm : List (Option AV)) : CallOk Try.prog [] 30 (genF EL nm [.r, .is] sRkR) := genNm c30
end Go.Proofs.Ytiokmglajigngaa
namespace Go.Proofs.Ytiokmglajigngaa
open Go Go.Proofs.Ytiokmglajigngaa.Sx
def lNr0 (N : Int) (B : List Int) (r e : Nat) : LAnn := ⟨Nat, fun k => k ≤ N.toNat, fun k => [(8, .sl e (ntS B r k).1.length), (1, .i .i64 ((ntS B r k).2 : Int))], fun k => [ownI e (ntS B r k).1], fun k => N.toNat - k, [e], [(e, 3000008)]⟩
def lNr2 (N : Int) (l : List Pq) (B : List Int) (r : Nat) : PLoop := ⟨Nat, fun k => ⟨Nat, fun j => j ≤ (nxtL N l (ntS B r k).1).length ∧ k < N.toNat ∧ sumC N l (ntS B r k).1 j ≤ (ntS B r k).2, fun j => [(8, .sl 2 (ntS B r k).1.length), (10, .i .i64 (j : Int)), (1, .i .i64 (((ntS B r k).2 - sumC N l (ntS B r k).1 j : Nat) : Int))], fun _ => [], fun j => (nxtL N l (ntS B r k).1).length - j, [], []⟩⟩
end Go.Proofs.Ytiokmglajigngaa
namespace Go.Proofs.Ytiokmglajigngaa
open Go Go.Proofs.Ytiokmglajigngaa.Sx
set_option maxRecDepth 100000
set_option linter.unusedSimpArgs false
set_option linter.unusedVariables false
theorem tkO_self {P : List Int} : tkO P P.length = P := mkN_self 0 P
theorem mkN_nx' {P : List Int} {z : Int} : mkN (fun j => bif Nat.blt j P.length then nthD 0 P j else pickI [z] (j - P.length)) (P.length + 1) = P ++ [z] := by
  rw [mkN_nx, tkO_self]
theorem Rl.gp {N : Int} {l : List Pq} (h : Rl N l) {r : Nat} (hr : r < cmp (befP N l) 0) : ∀ k, k ≤ N.toNat → Gp N l (ntS (befP N l) r k).1 := by
  intro k
  induction k with
  | zero => intro _; exact .nil
  | succ k ih =>
    intro hk
    obtain ⟨y, h1, h2, h3, _⟩ := h.step hr (show k < N.toNat by omega)
    rw [h3]
    exact .snoc (ih (by omega)) h1 h2
theorem v32_eq (N : Int) (l : List Pq) (r : Int) (B : List Int) : (fnVc (tab [kCnR [some (.ps l)], kNxt [some (.ps l)], kAft [some (.ps l)]] [(0, .of (lNr0 N B r.toNat 2)), (2, lNr2 N l B r.toNat)]) Try.f32 [rlV N 0 l, .i .i64 r] [arP l] (resIs (.tup [.sl 0 (ntL N l r).length, .i .i64 (ntE N l r)]) 3 (ntL N l r).length (isCols (ntL N l r)))) = (l.length = l.length ∧
 psK l = l ∧
 l.length ≤ (1099511627776 : Nat) ∧
 N ≤ (9 : Int) ∧
 ((cntE N l != (0 : Int)) = true →
 (0 : Nat) = (ntL N l r).length ∧
 ((ntL N l r).length = (0 : Nat) ∧ True) ∧ (0 : Nat) = (ntL N l r).length ∧ cntE N l = ntE N l r ∧ True) ∧
 ((cntE N l != (0 : Int)) = false →
 ((decide (r < (0 : Int)) || decide (r ≥ (↑(cntV N l) : Int))) = true →
 (0 : Nat) = (ntL N l r).length ∧
 ((ntL N l r).length = (0 : Nat) ∧ True) ∧
 (0 : Nat) = (ntL N l r).length ∧ (2 : Int) = ntE N l r ∧ True) ∧
 ((decide (r < (0 : Int)) || decide (r ≥ (↑(cntV N l) : Int))) = false →
 ∃ (x : PUnit),
 (∃ (x : Nat),
 x ≤ N.toNat ∧
 ((0 : Nat) = (ntS B r.toNat x).fst.length ∧ r = (↑(ntS B r.toNat x).snd : Int) ∧ True) ∧
 ((0 : Nat) = (ntS B r.toNat x).fst.length ∧ (ntS B r.toNat x).fst.length = (0 : Nat) ∧ True) ∧
 True) ∧
 ∀ (x_1 : Nat),
 x_1 ≤ N.toNat →
 (decide ((↑(ntS B r.toNat x_1).fst.length : Int) < N) = true →
 l.length = l.length ∧
 (ntS B r.toNat x_1).fst.length = (ntS B r.toNat x_1).fst.length ∧
 psK l =
 l ∧
 validF N l = true ∧
 l.length ≤ (1099511627776 : Nat) ∧
 (mkN (nthD (0 : Int) (ntS B r.toNat x_1).fst)
 (ntS B r.toNat x_1).fst.length).length ≤
 (1099511627776 : Nat) ∧
 ∃ (x_2 : Nat),
 (∃ (x : Nat),
 (x ≤ (nxtL N l (ntS B r.toNat x_2).fst).length ∧
 x_2 < N.toNat ∧
 sumC N l (ntS B r.toNat x_2).fst x ≤ (ntS B r.toNat x_2).snd) ∧
 ((ntS B r.toNat x_1).fst.length = (ntS B r.toNat x_2).fst.length ∧
 (0 : Int) = (↑x : Int) ∧
 (↑(ntS B r.toNat x_1).snd : Int) =
 (↑((ntS B r.toNat x_2).snd -
 sumC N l (ntS B r.toNat x_2).fst x) :
 Int) ∧
 True) ∧
 True) ∧
 ∀ (x_3 : Nat),
 x_3 ≤ (nxtL N l (ntS B r.toNat x_2).fst).length ∧
 x_2 < N.toNat ∧
 sumC N l (ntS B r.toNat x_2).fst x_3 ≤ (ntS B r.toNat x_2).snd →
 (decide
 ((↑x_3 : Int) <
 (↑(AV.is
 (nxtL N l
 (mkN (nthD (0 : Int) (ntS B r.toNat x_1).fst)
 (ntS B r.toNat x_1).fst.length))).len :
 Int)) =
 true →
 (0 : Nat) = (0 : Nat) ∧
 (ntS B r.toNat x_2).fst.length = (ntS B r.toNat x_1).fst.length ∧
 ((0 : Nat) + (ntS B r.toNat x_2).fst.length) * (8 : Nat) ≤
 (140737488355328 : Nat) ∧
 (0 : Nat) + (ntS B r.toNat x_2).fst.length ≤
 (9223372036854775807 : Nat) ∧
 ((0 : Int) ≤ (↑x_3 : Int) ∧
 (↑x_3 : Int) <
 (↑(AV.is
 (nxtL N l
 (mkN
 (nthD (0 : Int) (ntS B r.toNat x_1).fst)
 (ntS B r.toNat x_1).fst.length))).len :
 Int)) ∧
 x_3 <
 (AV.is
 (nxtL N l
 (mkN (nthD (0 : Int) (ntS B r.toNat x_1).fst)
 (ntS B r.toNat x_1).fst.length))).len ∧
 (0 : Nat) + (ntS B r.toNat x_2).fst.length =
 (0 : Nat) + (ntS B r.toNat x_2).fst.length ∧
 (1 : Nat) = (1 : Nat) ∧
 ((0 : Nat) + (ntS B r.toNat x_2).fst.length +
 (1 : Nat)) *
 (8 : Nat) ≤
 (140737488355328 : Nat) ∧
 (0 : Nat) + (ntS B r.toNat x_2).fst.length +
 (1 : Nat) ≤
 (9223372036854775807 : Nat) ∧
 l.length = l.length ∧
 (0 : Nat) + (ntS B r.toNat x_2).fst.length +
 (1 : Nat) =
 (0 : Nat) +
 (ntS B r.toNat x_2).fst.length +
 (1 : Nat) ∧
 psK l =
 l ∧
 l.length ≤ (1000000 : Nat) ∧
 (mkN
 (fun (j : Nat) =>
 bif
 j.blt
 ((0 : Nat) +
 (ntS B r.toNat
 x_2).fst.length) then
 nthD (0 : Int)
 (ntS B r.toNat x_1).fst j
 else
 pickI
 [nthD (0 : Int)
 (nxtL N l
 (mkN
 (nthD (0 : Int)
 (ntS B r.toNat
 x_1).fst)
 (ntS B r.toNat
 x_1).fst.length))
 x_3]
 (j -
 ((0 : Nat) +
 (ntS B r.toNat
 x_2).fst.length)))
 ((0 : Nat) +
 (ntS B r.toNat
 x_2).fst.length +
 (1 : Nat))).length ≤
 (64 : Nat) ∧
 ((0 : Int) ≤ N ∧ N ≤ (64 : Int)) ∧
 (AV.ps
 (aftP N l
 (mkN
 (fun (j : Nat) =>
 bif
 j.blt
 ((0 : Nat) +
 (ntS B r.toNat
 x_2).fst.length) then
 nthD (0 : Int)
 (ntS B r.toNat
 x_1).fst
 j
 else
 pickI
 [nthD (0 : Int)
 (nxtL N l
 (mkN
 (nthD
 (0 :
 Int)
 (ntS B
 r.toNat
 x_1).fst)
 (ntS B
 r.toNat
 x_1).fst.length))
 x_3]
 (j -
 ((0 : Nat) +
 (ntS B r.toNat
 x_2).fst.length)))
 ((0 : Nat) +
 (ntS B r.toNat
 x_2).fst.length +
 (1 : Nat))))).len =
 (AV.ps
 (aftP N l
 (mkN
 (fun (j : Nat) =>
 bif
 j.blt
 ((0 : Nat) +
 (ntS B r.toNat
 x_2).fst.length) then
 nthD (0 : Int)
 (ntS B r.toNat
 x_1).fst
 j
 else
 pickI
 [nthD (0 : Int)
 (nxtL N l
 (mkN
 (nthD
 (0 :
 Int)
 (ntS B
 r.toNat
 x_1).fst)
 (ntS B
 r.toNat
 x_1).fst.length))
 x_3]
 (j -
 ((0 : Nat) +
 (ntS B r.toNat
 x_2).fst.length)))
 ((0 : Nat) +
 (ntS B r.toNat
 x_2).fst.length +
 (1 : Nat))))).len ∧
 (mkN
 (fun (j : Nat) =>
 ((nthD
 ((0 : Int),
 (0 : Int))
 (aftP N l
 (mkN
 (fun
 (j :
 Nat) =>
 bif
 j.blt
 ((0 :
 Nat) +
 (ntS
 B
 r.toNat
 x_2).fst.length) then
 nthD
 (0 :
 Int)
 (ntS B
 r.toNat
 x_1).fst
 j
 else
 pickI
 [nthD
 (0 :
 Int)
 (nxtL
 N
 l
 (mkN
 (nthD
 (0 :
 Int)
 (ntS
 B
 r.toNat
 x_1).fst)
 (ntS
 B
 r.toNat
 x_1).fst.length))
 x_3]
 (j -
 ((0 :
 Nat) +
 (ntS
 B
 r.toNat
 x_2).fst.length)))
 ((0 : Nat) +
 (ntS B
 r.toNat
 x_2).fst.length +
 (1 : Nat))))
 j).fst,
 (nthD
 ((0 : Int),
 (0 : Int))
 (aftP N l
 (mkN
 (fun
 (j :
 Nat) =>
 bif
 j.blt
 ((0 :
 Nat) +
 (ntS
 B
 r.toNat
 x_2).fst.length) then
 nthD
 (0 :
 Int)
 (ntS B
 r.toNat
 x_1).fst
 j
 else
 pickI
 [nthD
 (0 :
 Int)
 (nxtL
 N
 l
 (mkN
 (nthD
 (0 :
 Int)
 (ntS
 B
 r.toNat
 x_1).fst)
 (ntS
 B
 r.toNat
 x_1).fst.length))
 x_3]
 (j -
 ((0 :
 Nat) +
 (ntS
 B
 r.toNat
 x_2).fst.length)))
 ((0 : Nat) +
 (ntS B
 r.toNat
 x_2).fst.length +
 (1 : Nat))))
 j).snd))
 (AV.ps
 (aftP N l
 (mkN
 (fun (j : Nat) =>
 bif
 j.blt
 ((0 :
 Nat) +
 (ntS B
 r.toNat
 x_2).fst.length) then
 nthD (0 : Int)
 (ntS B
 r.toNat
 x_1).fst
 j
 else
 pickI
 [nthD
 (0 :
 Int)
 (nxtL N
 l
 (mkN
 (nthD
 (0 :
 Int)
 (ntS
 B
 r.toNat
 x_1).fst)
 (ntS
 B
 r.toNat
 x_1).fst.length))
 x_3]
 (j -
 ((0 :
 Nat) +
 (ntS B
 r.toNat
 x_2).fst.length)))
 ((0 : Nat) +
 (ntS B r.toNat
 x_2).fst.length +
 (1 :
 Nat))))).len).length ≤
 (1099511627776 : Nat) ∧
 N ≤ (9 : Int) ∧
 (decide
 ((↑((ntS B r.toNat
 x_2).snd -
 sumC N l
 (ntS B
 r.toNat
 x_2).fst
 x_3) :
 Int) <
 (↑(cntV N
 (mkN
 (fun
 (j :
 Nat) =>
 ((nthD
 ((0 :
 Int),
 (0 :
 Int))
 (aftP
 N
 l
 (mkN
 (fun
 (j :
 Nat) =>
 bif
 j.blt
 ((0 :
 Nat) +
 (ntS
 B
 r.toNat
 x_2).fst.length) then
 nthD
 (0 :
 Int)
 (ntS
 B
 r.toNat
 x_1).fst
 j
 else
 pickI
 [nthD
 (0 :
 Int)
 (nxtL
 N
 l
 (mkN
 (nthD
 (0 :
 Int)
 (ntS
 B
 r.toNat
 x_1).fst)
 (ntS
 B
 r.toNat
 x_1).fst.length))
 x_3]
 (j -
 ((0 :
 Nat) +
 (ntS
 B
 r.toNat
 x_2).fst.length)))
 ((0 :
 Nat) +
 (ntS
 B
 r.toNat
 x_2).fst.length +
 (1 :
 Nat))))
 j).fst,
 (nthD
 ((0 :
 Int),
 (0 :
 Int))
 (aftP
 N
 l
 (mkN
 (fun
 (j :
 Nat) =>
 bif
 j.blt
 ((0 :
 Nat) +
 (ntS
 B
 r.toNat
 x_2).fst.length) then
 nthD
 (0 :
 Int)
 (ntS
 B
 r.toNat
 x_1).fst
 j
 else
 pickI
 [nthD
 (0 :
 Int)
 (nxtL
 N
 l
 (mkN
 (nthD
 (0 :
 Int)
 (ntS
 B
 r.toNat
 x_1).fst)
 (ntS
 B
 r.toNat
 x_1).fst.length))
 x_3]
 (j -
 ((0 :
 Nat) +
 (ntS
 B
 r.toNat
 x_2).fst.length)))
 ((0 :
 Nat) +
 (ntS
 B
 r.toNat
 x_2).fst.length +
 (1 :
 Nat))))
 j).snd))
 (AV.ps
 (aftP N
 l
 (mkN
 (fun
 (j :
 Nat) =>
 bif
 j.blt
 ((0 :
 Nat) +
 (ntS
 B
 r.toNat
 x_2).fst.length) then
 nthD
 (0 :
 Int)
 (ntS
 B
 r.toNat
 x_1).fst
 j
 else
 pickI
 [nthD
 (0 :
 Int)
 (nxtL
 N
 l
 (mkN
 (nthD
 (0 :
 Int)
 (ntS
 B
 r.toNat
 x_1).fst)
 (ntS
 B
 r.toNat
 x_1).fst.length))
 x_3]
 (j -
 ((0 :
 Nat) +
 (ntS
 B
 r.toNat
 x_2).fst.length)))
 ((0 :
 Nat) +
 (ntS
 B
 r.toNat
 x_2).fst.length +
 (1 :
 Nat))))).len)) :
 Int)) =
 true →
 ∃ (x_4 : Nat),
 x_4 ≤ N.toNat ∧
 ((PLoop.of
 (lNr0 N
 B
 r.toNat
 (2 :
 Nat))).ann
 x).mu
 x_4 <
 ((PLoop.of
 (lNr0 N
 B
 r.toNat
 (2 :
 Nat))).ann
 x).mu
 x_1 ∧
 ((N = N ∧
 l.length =
 l.length) ∧
 (↑((ntS B
 r.toNat
 x_2).snd -
 sumC N
 l
 (ntS
 B
 r.toNat
 x_2).fst
 x_3) :
 Int) =
 (↑(ntS B
 r.toNat
 x_4).snd :
 Int) ∧
 True ∧
 (0 : Int) =
 (0 :
 Int) ∧
 (↑(cntV N
 l) :
 Int) =
 (↑(cntV
 N
 l) :
 Int) ∧
 cntE N
 l =
 cntE
 N
 l ∧
 (0 :
 Nat) +
 (ntS
 B
 r.toNat
 x_2).fst.length +
 (1 :
 Nat) =
 (ntS
 B
 r.toNat
 x_4).fst.length ∧
 ((↑(cntV
 N
 l) :
 Int) =
 (↑(cntV
 N
 l) :
 Int) ∧
 cntE
 N
 l =
 cntE
 N
 l) ∧
 (N =
 N ∧
 l.length =
 l.length) ∧
 ((↑(cntV
 N
 l) :
 Int) =
 (↑(cntV
 N
 l) :
 Int) ∧
 cntE
 N
 l =
 cntE
 N
 l) ∧
 (↑(cntV
 N
 l) :
 Int) =
 (↑(cntV
 N
 l) :
 Int) ∧
 cntE
 N
 l =
 cntE
 N
 l ∧
 cntE
 N
 l =
 cntE
 N
 l ∧
 false =
 false ∧
 r =
 r ∧
 decide
 (r <
 (0 :
 Int)) =
 decide
 (r <
 (0 :
 Int)) ∧
 decide
 (r <
 (0 :
 Int)) =
 decide
 (r <
 (0 :
 Int)) ∧
 false =
 false ∧
 True) ∧
 (l.length =
 l.length ∧
 (∀ (j : Nat),
 j <
 l.length →
 (nthD
 ((0 :
 Int),
 (0 :
 Int))
 l
 j).fst =
 (nthD
 ((0 :
 Int),
 (0 :
 Int))
 l
 j).fst) ∧
 (∀
 (j :
 Nat),
 j <
 l.length →
 (nthD
 ((0 :
 Int),
 (0 :
 Int))
 l
 j).snd =
 (nthD
 ((0 :
 Int),
 (0 :
 Int))
 l
 j).snd) ∧
 True) ∧
 (N = N ∧
 l.length =
 l.length) ∧
 ((0 : Nat) +
 (ntS
 B
 r.toNat
 x_2).fst.length +
 (1 :
 Nat) =
 (ntS B
 r.toNat
 x_4).fst.length ∧
 (∀
 (j :
 Nat),
 j <
 (ntS
 B
 r.toNat
 x_4).fst.length →
 (bif
 j.blt
 ((0 :
 Nat) +
 (ntS
 B
 r.toNat
 x_2).fst.length) then
 nthD
 (0 :
 Int)
 (ntS
 B
 r.toNat
 x_1).fst
 j
 else
 pickI
 [nthD
 (0 :
 Int)
 (nxtL
 N
 l
 (mkN
 (nthD
 (0 :
 Int)
 (ntS
 B
 r.toNat
 x_1).fst)
 (ntS
 B
 r.toNat
 x_1).fst.length))
 x_3]
 (j -
 ((0 :
 Nat) +
 (ntS
 B
 r.toNat
 x_2).fst.length))) =
 nthD
 (0 :
 Int)
 (ntS
 B
 r.toNat
 x_4).fst
 j) ∧
 True) ∧
 True) ∧
 (decide
 ((↑((ntS B r.toNat
 x_2).snd -
 sumC N l
 (ntS B
 r.toNat
 x_2).fst
 x_3) :
 Int) <
 (↑(cntV N
 (mkN
 (fun
 (j :
 Nat) =>
 ((nthD
 ((0 :
 Int),
 (0 :
 Int))
 (aftP
 N
 l
 (mkN
 (fun
 (j :
 Nat) =>
 bif
 j.blt
 ((0 :
 Nat) +
 (ntS
 B
 r.toNat
 x_2).fst.length) then
 nthD
 (0 :
 Int)
 (ntS
 B
 r.toNat
 x_1).fst
 j
 else
 pickI
 [nthD
 (0 :
 Int)
 (nxtL
 N
 l
 (mkN
 (nthD
 (0 :
 Int)
 (ntS
 B
 r.toNat
 x_1).fst)
 (ntS
 B
 r.toNat
 x_1).fst.length))
 x_3]
 (j -
 ((0 :
 Nat) +
 (ntS
 B
 r.toNat
 x_2).fst.length)))
 ((0 :
 Nat) +
 (ntS
 B
 r.toNat
 x_2).fst.length +
 (1 :
 Nat))))
 j).fst,
 (nthD
 ((0 :
 Int),
 (0 :
 Int))
 (aftP
 N
 l
 (mkN
 (fun
 (j :
 Nat) =>
 bif
 j.blt
 ((0 :
 Nat) +
 (ntS
 B
 r.toNat
 x_2).fst.length) then
 nthD
 (0 :
 Int)
 (ntS
 B
 r.toNat
 x_1).fst
 j
 else
 pickI
 [nthD
 (0 :
 Int)
 (nxtL
 N
 l
 (mkN
 (nthD
 (0 :
 Int)
 (ntS
 B
 r.toNat
 x_1).fst)
 (ntS
 B
 r.toNat
 x_1).fst.length))
 x_3]
 (j -
 ((0 :
 Nat) +
 (ntS
 B
 r.toNat
 x_2).fst.length)))
 ((0 :
 Nat) +
 (ntS
 B
 r.toNat
 x_2).fst.length +
 (1 :
 Nat))))
 j).snd))
 (AV.ps
 (aftP N
 l
 (mkN
 (fun
 (j :
 Nat) =>
 bif
 j.blt
 ((0 :
 Nat) +
 (ntS
 B
 r.toNat
 x_2).fst.length) then
 nthD
 (0 :
 Int)
 (ntS
 B
 r.toNat
 x_1).fst
 j
 else
 pickI
 [nthD
 (0 :
 Int)
 (nxtL
 N
 l
 (mkN
 (nthD
 (0 :
 Int)
 (ntS
 B
 r.toNat
 x_1).fst)
 (ntS
 B
 r.toNat
 x_1).fst.length))
 x_3]
 (j -
 ((0 :
 Nat) +
 (ntS
 B
 r.toNat
 x_2).fst.length)))
 ((0 :
 Nat) +
 (ntS
 B
 r.toNat
 x_2).fst.length +
 (1 :
 Nat))))).len)) :
 Int)) =
 false →
 ∃ (x : Nat),
 (x ≤
 (nxtL N l
 (ntS B r.toNat
 x_2).fst).length ∧
 x_2 < N.toNat ∧
 sumC N l
 (ntS B r.toNat
 x_2).fst
 x ≤
 (ntS B r.toNat
 x_2).snd) ∧
 ((lNr2 N l B
 r.toNat).ann
 x_2).mu
 x <
 ((lNr2 N l B
 r.toNat).ann
 x_2).mu
 x_3 ∧
 ((N = N ∧
 l.length =
 l.length) ∧
 IntKind.i64.wrap
 ((↑((ntS B
 r.toNat
 x_2).snd -
 sumC
 N
 l
 (ntS
 B
 r.toNat
 x_2).fst
 x_3) :
 Int) -
 (↑(cntV
 N
 (mkN
 (fun
 (j :
 Nat) =>
 ((nthD
 ((0 :
 Int),
 (0 :
 Int))
 (aftP
 N
 l
 (mkN
 (fun
 (j :
 Nat) =>
 bif
 j.blt
 ((0 :
 Nat) +
 (ntS
 B
 r.toNat
 x_2).fst.length) then
 nthD
 (0 :
 Int)
 (ntS
 B
 r.toNat
 x_1).fst
 j
 else
 pickI
 [nthD
 (0 :
 Int)
 (nxtL
 N
 l
 (mkN
 (nthD
 (0 :
 Int)
 (ntS
 B
 r.toNat
 x_1).fst)
 (ntS
 B
 r.toNat
 x_1).fst.length))
 x_3]
 (j -
 ((0 :
 Nat) +
 (ntS
 B
 r.toNat
 x_2).fst.length)))
 ((0 :
 Nat) +
 (ntS
 B
 r.toNat
 x_2).fst.length +
 (1 :
 Nat))))
 j).fst,
 (nthD
 ((0 :
 Int),
 (0 :
 Int))
 (aftP
 N
 l
 (mkN
 (fun
 (j :
 Nat) =>
 bif
 j.blt
 ((0 :
 Nat) +
 (ntS
 B
 r.toNat
 x_2).fst.length) then
 nthD
 (0 :
 Int)
 (ntS
 B
 r.toNat
 x_1).fst
 j
 else
 pickI
 [nthD
 (0 :
 Int)
 (nxtL
 N
 l
 (mkN
 (nthD
 (0 :
 Int)
 (ntS
 B
 r.toNat
 x_1).fst)
 (ntS
 B
 r.toNat
 x_1).fst.length))
 x_3]
 (j -
 ((0 :
 Nat) +
 (ntS
 B
 r.toNat
 x_2).fst.length)))
 ((0 :
 Nat) +
 (ntS
 B
 r.toNat
 x_2).fst.length +
 (1 :
 Nat))))
 j).snd))
 (AV.ps
 (aftP
 N
 l
 (mkN
 (fun
 (j :
 Nat) =>
 bif
 j.blt
 ((0 :
 Nat) +
 (ntS
 B
 r.toNat
 x_2).fst.length) then
 nthD
 (0 :
 Int)
 (ntS
 B
 r.toNat
 x_1).fst
 j
 else
 pickI
 [nthD
 (0 :
 Int)
 (nxtL
 N
 l
 (mkN
 (nthD
 (0 :
 Int)
 (ntS
 B
 r.toNat
 x_1).fst)
 (ntS
 B
 r.toNat
 x_1).fst.length))
 x_3]
 (j -
 ((0 :
 Nat) +
 (ntS
 B
 r.toNat
 x_2).fst.length)))
 ((0 :
 Nat) +
 (ntS
 B
 r.toNat
 x_2).fst.length +
 (1 :
 Nat))))).len)) :
 Int)) =
 (↑((ntS B
 r.toNat
 x_2).snd -
 sumC N
 l
 (ntS
 B
 r.toNat
 x_2).fst
 x) :
 Int) ∧
 True ∧
 (0 : Int) =
 (0 :
 Int) ∧
 (↑(cntV N
 l) :
 Int) =
 (↑(cntV
 N
 l) :
 Int) ∧
 cntE N
 l =
 cntE
 N
 l ∧
 (ntS B
 r.toNat
 x_2).fst.length =
 (ntS
 B
 r.toNat
 x_2).fst.length ∧
 (AV.is
 (nxtL
 N
 l
 (mkN
 (nthD
 (0 :
 Int)
 (ntS
 B
 r.toNat
 x_1).fst)
 (ntS
 B
 r.toNat
 x_1).fst.length))).len =
 (AV.is
 (nxtL
 N
 l
 (mkN
 (nthD
 (0 :
 Int)
 (ntS
 B
 r.toNat
 x_1).fst)
 (ntS
 B
 r.toNat
 x_1).fst.length))).len ∧
 IntKind.i64.wrap
 ((↑x_3 :
 Int) +
 (1 :
 Int)) =
 (↑x :
 Int) ∧
 ((↑(cntV
 N
 l) :
 Int) =
 (↑(cntV
 N
 l) :
 Int) ∧
 cntE
 N
 l =
 cntE
 N
 l) ∧
 (N =
 N ∧
 l.length =
 l.length) ∧
 ((↑(cntV
 N
 l) :
 Int) =
 (↑(cntV
 N
 l) :
 Int) ∧
 cntE
 N
 l =
 cntE
 N
 l) ∧
 (↑(cntV
 N
 l) :
 Int) =
 (↑(cntV
 N
 l) :
 Int) ∧
 cntE
 N
 l =
 cntE
 N
 l ∧
 cntE
 N
 l =
 cntE
 N
 l ∧
 false =
 false ∧
 r =
 r ∧
 decide
 (r <
 (0 :
 Int)) =
 decide
 (r <
 (0 :
 Int)) ∧
 decide
 (r <
 (0 :
 Int)) =
 decide
 (r <
 (0 :
 Int)) ∧
 false =
 false ∧
 (ntS
 B
 r.toNat
 x_1).fst.length =
 (ntS
 B
 r.toNat
 x_1).fst.length ∧
 (↑(ntS
 B
 r.toNat
 x_1).fst.length :
 Int) =
 (↑(ntS
 B
 r.toNat
 x_1).fst.length :
 Int) ∧
 True ∧
 N =
 N ∧
 true =
 true ∧
 (N =
 N ∧
 l.length =
 l.length) ∧
 (ntS
 B
 r.toNat
 x_1).fst.length =
 (ntS
 B
 r.toNat
 x_1).fst.length ∧
 (AV.is
 (nxtL
 N
 l
 (mkN
 (nthD
 (0 :
 Int)
 (ntS
 B
 r.toNat
 x_1).fst)
 (ntS
 B
 r.toNat
 x_1).fst.length))).len =
 (AV.is
 (nxtL
 N
 l
 (mkN
 (nthD
 (0 :
 Int)
 (ntS
 B
 r.toNat
 x_1).fst)
 (ntS
 B
 r.toNat
 x_1).fst.length))).len ∧
 True) ∧
 (l.length =
 l.length ∧
 (∀ (j : Nat),
 j <
 l.length →
 (nthD
 ((0 :
 Int),
 (0 :
 Int))
 l
 j).fst =
 (nthD
 ((0 :
 Int),
 (0 :
 Int))
 l
 j).fst) ∧
 (∀
 (j :
 Nat),
 j <
 l.length →
 (nthD
 ((0 :
 Int),
 (0 :
 Int))
 l
 j).snd =
 (nthD
 ((0 :
 Int),
 (0 :
 Int))
 l
 j).snd) ∧
 True) ∧
 (N = N ∧
 l.length =
 l.length) ∧
 ((ntS B
 r.toNat
 x_1).fst.length =
 (ntS B
 r.toNat
 x_1).fst.length ∧
 (∀
 (j :
 Nat),
 j <
 (ntS
 B
 r.toNat
 x_1).fst.length →
 nthD
 (0 :
 Int)
 (ntS
 B
 r.toNat
 x_1).fst
 j =
 nthD
 (0 :
 Int)
 (ntS
 B
 r.toNat
 x_1).fst
 j) ∧
 True) ∧
 ((AV.is
 (nxtL
 N
 l
 (mkN
 (nthD
 (0 :
 Int)
 (ntS
 B
 r.toNat
 x_1).fst)
 (ntS
 B
 r.toNat
 x_1).fst.length))).len =
 (AV.is
 (nxtL
 N
 l
 (mkN
 (nthD
 (0 :
 Int)
 (ntS
 B
 r.toNat
 x_1).fst)
 (ntS
 B
 r.toNat
 x_1).fst.length))).len ∧
 (∀
 (j :
 Nat),
 j <
 (AV.is
 (nxtL
 N
 l
 (mkN
 (nthD
 (0 :
 Int)
 (ntS
 B
 r.toNat
 x_1).fst)
 (ntS
 B
 r.toNat
 x_1).fst.length))).len →
 nthD
 (0 :
 Int)
 (nxtL
 N
 l
 (mkN
 (nthD
 (0 :
 Int)
 (ntS
 B
 r.toNat
 x_1).fst)
 (ntS
 B
 r.toNat
 x_1).fst.length))
 j =
 nthD
 (0 :
 Int)
 (nxtL
 N
 l
 (mkN
 (nthD
 (0 :
 Int)
 (ntS
 B
 r.toNat
 x_1).fst)
 (ntS
 B
 r.toNat
 x_1).fst.length))
 j) ∧
 True) ∧
 True)) ∧
 (decide
 ((↑x_3 : Int) <
 (↑(AV.is
 (nxtL N l
 (mkN (nthD (0 : Int) (ntS B r.toNat x_1).fst)
 (ntS B r.toNat x_1).fst.length))).len :
 Int)) =
 false →
 ∃ (x_4 : Nat),
 x_4 ≤ N.toNat ∧
 ((PLoop.of (lNr0 N B r.toNat (2 : Nat))).ann x).mu x_4 <
 ((PLoop.of (lNr0 N B r.toNat (2 : Nat))).ann x).mu x_1 ∧
 ((N = N ∧ l.length = l.length) ∧
 (↑((ntS B r.toNat x_2).snd -
 sumC N l (ntS B r.toNat x_2).fst x_3) :
 Int) =
 (↑(ntS B r.toNat x_4).snd : Int) ∧
 True ∧
 (0 : Int) = (0 : Int) ∧
 (↑(cntV N l) : Int) = (↑(cntV N l) : Int) ∧
 cntE N l = cntE N l ∧
 (ntS B r.toNat x_2).fst.length =
 (ntS B r.toNat x_4).fst.length ∧
 ((↑(cntV N l) : Int) = (↑(cntV N l) : Int) ∧
 cntE N l = cntE N l) ∧
 (N = N ∧ l.length = l.length) ∧
 ((↑(cntV N l) : Int) =
 (↑(cntV N l) : Int) ∧
 cntE N l = cntE N l) ∧
 (↑(cntV N l) : Int) =
 (↑(cntV N l) : Int) ∧
 cntE N l = cntE N l ∧
 cntE N l = cntE N l ∧
 false = false ∧
 r = r ∧
 decide (r < (0 : Int)) =
 decide (r < (0 : Int)) ∧
 decide (r < (0 : Int)) =
 decide (r < (0 : Int)) ∧
 false = false ∧ True) ∧
 (l.length = l.length ∧
 (∀ (j : Nat),
 j < l.length →
 (nthD ((0 : Int), (0 : Int)) l j).fst =
 (nthD ((0 : Int), (0 : Int)) l j).fst) ∧
 (∀ (j : Nat),
 j < l.length →
 (nthD ((0 : Int), (0 : Int)) l j).snd =
 (nthD ((0 : Int), (0 : Int)) l j).snd) ∧
 True) ∧
 (N = N ∧ l.length = l.length) ∧
 ((ntS B r.toNat x_1).fst.length =
 (ntS B r.toNat x_4).fst.length ∧
 (∀ (j : Nat),
 j < (ntS B r.toNat x_4).fst.length →
 nthD (0 : Int) (ntS B r.toNat x_1).fst j =
 nthD (0 : Int) (ntS B r.toNat x_4).fst j) ∧
 True) ∧
 True)) ∧
 (decide ((↑(ntS B r.toNat x_1).fst.length : Int) < N) = false →
 (ntS B r.toNat x_1).fst.length = (ntL N l r).length ∧
 ((∀ (j : Nat),
 j < (ntL N l r).length →
 nthD (0 : Int) (ntS B r.toNat x_1).fst j = nthD (0 : Int) (ntL N l r) j) ∧
 True) ∧
 (ntS B r.toNat x_1).fst.length = (ntL N l r).length ∧ (0 : Int) = ntE N l r ∧ True)))) := by kernel_rfl
theorem v32 (N : Int) (l : List Pq) (r : Int) (B : List Int) (hB : B = befP N l) (hl : l.length ≤ 1000000) (h9 : N ≤ 9) : fnVc (tab [kCnR [some (.ps l)], kNxt [some (.ps l)], kAft [some (.ps l)]] [(0, .of (lNr0 N B r.toNat 2)), (2, lNr2 N l B r.toNat)]) Try.f32 [rlV N 0 l, .i .i64 r] [arP l] (resIs (.tup [.sl 0 (ntL N l r).length, .i .i64 (ntE N l r)]) 3 (ntL N l r).length (isCols (ntL N l r))) := by
  rw [v32_eq]
  simp only [eq_self, true_and, and_true, implies_true, imp_self, psK_eq, mkN_ps, mkN_self, mkN_len, PLoop.of, lCnt, Nat.zero_add, AV.len]
  have hl9 : l.length ≤ 1099511627776 := by omega
  refine ⟨hl9, h9, fun hc => ?_, fun hc => ?_⟩
  · cases h : okP N l
    · have e1 : ntL N l r = [] := by rw [ntL, h]; rfl
      have e2 : ntE N l r = errP N l := by rw [ntE, h]; rfl
      have e3 : cntE N l = errP N l := by rw [cntE, h]; rfl
      rw [e1, e2, e3]; exact ⟨rfl, rfl, rfl, rfl⟩
    · obtain ⟨_, _, hn, _, _⟩ := befP_ok h
      rw [cntE, h, cond_true, errC, okC_small (B := befP N l) (by omega)] at hc
      exact absurd hc (by decide)
  · have h : okP N l = true := by
      cases h : okP N l
      · rw [cntE, h, cond_false, err_ok, h] at hc; cases hc
      · rfl
    obtain ⟨eB, hN1, hN2, hn, hv⟩ := befP_ok h
    have hok := okC_small (B := befP N l) (by omega)
    have R := Rl.of9 h h9
    have hM := cnt9 R h9
    have hmx : maxI = 9223372036854775807 := rfl
    have hV := validF_iff.1 hv
    have hcn : cntV N l = cmp (befP N l) 0 := by rw [cntV, h, hok]; rfl
    rw [hcn]
    refine ⟨fun hr => ?_, fun hr => ?_⟩
    · rw [ntL, ntE, h, hok, ntO, hr]; exact ⟨rfl, rfl, rfl, rfl⟩
    · have hLE : ntL N l r = (ntS (befP N l) r.toNat N.toNat).1 ∧ ntE N l r = 0 := by
        rw [ntL, ntE, h, hok, ntO, hr]; exact ⟨rfl, rfl⟩
      rw [hLE.1, hLE.2]
      rw [Bool.or_eq_false_iff, decide_eq_false_iff_not, decide_eq_false_iff_not] at hr
      subst hB
      have hr2 : r.toNat < cmp (befP N l) 0 := by omega
      have hr3 : r = (r.toNat : Int) := by omega
      generalize r.toNat = r' at *
      subst hr3
      refine ⟨(), ⟨0, Nat.zero_le _, ⟨rfl, rfl⟩, rfl, rfl⟩, fun k hk => ⟨fun hlt => ?_, fun hge => ?_⟩⟩
      · change k ≤ N.toNat at hk
        have hI := R.nt hr2 hk
        have g := R.gp hr2 k hk
        have hk2 : k < N.toNat := by have := of_decide_eq_true hlt; have := hI.len; omega
        have hst := fun y => ntS_succ (B := befP N l) (r := r') (k := k) (y := y)
        have hlen := hI.len
        have hlt2 := hI.lt
        have hds := fun h => dn_sum hI.dn hn h
        have hle : cmp (befP N l) (maskM (ntS (befP N l) r' k).1) ≤ cmp (befP N l) 0 := dn_le hI.dn hn
        generalize hP : (ntS (befP N l) r' k).1 = P at *
        generalize hr : (ntS (befP N l) r' k).2 = rk at *
        refine ⟨hv, hl9, by omega, k, ⟨0, ⟨Nat.zero_le _, hk2, by rw [sumC]; exact Nat.zero_le _⟩, by rw [hP], rfl, by rw [hr, hP, sumC, Nat.sub_zero]⟩, fun j hj => ?_⟩
        rw [hP, hr] at hj ⊢
        obtain ⟨hj1, _, hj2⟩ := hj
        refine ⟨fun q => ?_, fun q => ?_⟩
        · have hjl : j < (nxtL N l P).length := by have := of_decide_eq_true q; omega
          obtain ⟨z, e1, e2, e3, e4, e5⟩ := sumC_at R h9 g hjl
          have hkN := nxtK_len l P N.toNat
          change (nxtL N l P).length ≤ N.toNat at hkN
          rw [mkN_nx']
          have hlen2 : (P ++ [nthD 0 (nxtL N l P) j]).length = k + 1 := by rw [List.length_append, hlen]; rfl
          have hA := aftP_len (pre := P ++ [nthD 0 (nxtL N l P) j]) hV.2.1 hl (by omega)
          have hs : sumC N l P (j + 1) = sumC N l P j + cntV N (aftP N l (P ++ [nthD 0 (nxtL N l P) j])) := rfl
          refine ⟨rfl, by omega, by omega, ⟨by omega, by omega⟩, hjl, by omega, by omega, hl, by omega, ⟨hV.1, hV.2.1⟩, by omega, h9, fun q2 => ?_, fun q2 => ?_⟩
          · have q2 := of_decide_eq_true q2
            have hy := hst z (ntY_eq (by omega) (by omega) (by omega))
            refine ⟨k + 1, by show k + 1 ≤ N.toNat; omega, by show N.toNat - (k + 1) < N.toNat - k; omega, ?_⟩
            rw [hy, e4, e1]
            refine ⟨⟨rfl, by rw [List.length_append]; rfl⟩, by rw [List.length_append]; rfl, fun i hi => ?_⟩
            rw [List.length_append, List.length_singleton] at hi
            have := nthD_mkN (d := 0) (fun j => bif Nat.blt j P.length then nthD 0 P j else pickI [(z : Int)] (j - P.length)) hi
            rw [mkN_nx'] at this
            exact this.symm
          · have q2 := of_decide_eq_false q2
            refine ⟨j + 1, ⟨hjl, hk2, by omega⟩, ?_, ?_, wrS (n := 64) (by omega) (by omega)⟩
            · show (nxtL N l (ntS (befP N l) r' k).1).length - (j + 1) < (nxtL N l (ntS (befP N l) r' k).1).length - j
              rw [hP]; omega
            · rw [w64_eq (by omega) (by omega), hs]; omega
        · refine absurd hlt2 ?_
          have hjl : j = (nxtL N l P).length := by have := of_decide_eq_false q; omega
          have hall := sumC_all R h9 g (k := j) (y := N.toNat) (Nat.le_refl _) hj1 (fun i hi => by
            obtain ⟨z, e1, e2, _⟩ := nx_at (N := N) (l := l) (P := P) (show i < _ by omega)
            rw [e1]; omega) (fun h => by omega)
          rw [hds (by omega), hN2]
          omega
      · change k ≤ N.toNat at hk
        have hI := R.nt hr2 hk
        have : k = N.toNat := by have := of_decide_eq_false hge; have := hI.len; omega
        subst this
        exact ⟨rfl, fun _ _ => rfl, rfl, rfl⟩
theorem fo32 : fnOk Try.prog 32 := ⟨Try.f32, Try.func32, by kernel_rfl, by kernel_rfl⟩
def t32 : List AV → Tab
  | [.r N l, .i r] => tab [kCnR [some (.ps l)], kNxt [some (.ps l)], kAft [some (.ps l)]] [(0, .of (lNr0 N (befP N l) r.toNat 2)), (2, lNr2 N l (befP N l) r.toNat)]
  | _ => tab [] []
theorem c32 : CallOk Try.prog [] 32 (genF EL [] [.r, .i] sNtR) := by
  refine okT (fn := Try.f32) Try.func32 fo32 t32 (fun av => ?_) (fun av => ?_) (fun av pre rv h => ?_) (fun av pre rv h hp => ?_)
  · unfold t32; split <;> first | exact tabOk (mOne (n25 _) (mOne (n36 _) (mOne (n46 _) mNil))) | exact tabOk mNil
  · unfold t32; split <;> exact ⟨rfl, rfl⟩
  · unfold sNtR at h; split at h <;> cases h
    exact ⟨rfl, fun t a e => by cases e <;> exact List.cons_ne_nil _ _⟩
  · unfold sNtR at h; split at h <;> cases h
    exact v32 _ _ _ _ rfl (hp _ (.head _)) (hp _ (.tail _ (.head _)))
theorem n32 (nm : List (Option AV)) : CallOk Try.prog [] 32 (genF EL nm [.r, .i] sNtR) := genNm c32
end Go.Proofs.Ytiokmglajigngaa
namespace Go.Proofs.Ytiokmglajigngaa
open Go Go.Proofs.Ytiokmglajigngaa.Sx
set_option maxRecDepth 100000
set_option linter.unusedSimpArgs false
set_option linter.unusedVariables false
theorem ntL_len {N : Int} {l : List Pq} {r : Int} (h9 : N ≤ 9) : (ntL N l r).length ≤ 64 := by
  cases h : okP N l
  · rw [ntL, h]; exact Nat.zero_le _
  · have R := Rl.of9 h h9
    obtain ⟨_, _, hn, _, _⟩ := befP_ok h
    have hok := okC_small (B := befP N l) (by omega)
    cases hr : ntO (befP N l) r
    · rw [ntL, h, hok, hr]
      rw [ntO, Bool.or_eq_false_iff, decide_eq_false_iff_not, decide_eq_false_iff_not] at hr
      show (ntS (befP N l) r.toNat N.toNat).1.length ≤ 64
      rw [(R.nt (r := r.toNat) (by omega) (Nat.le_refl _)).len]; omega
    · rw [ntL, h, hok, hr]; exact Nat.zero_le _
theorem v9_eq (N : Int) (l : List Pq) (o : List Int) (r : Int) : (fnVc (tab [kFew [], kAwk [], kRnk [some (.ps l), some (.is o)], kRkR [some (.ps l), some (.is o)], kNth [some (.ps l)], kNtR [some (.ps l)], kInt []] []) Try.f9 [rlV N 0 l, .sl 1 o.length, .i .i64 r] [arP l, arI o] (plainIs .tt)) = (l.length = l.length ∧
 ((!(decide (N ≤ (6 : Int)) &&
 decide
 ((↑(psK l).length :
 Int) ≤
 (60 : Int))) ||
 decide ((↑o.length : Int) > (30 : Int))) =
 true →
 true = true) ∧
 ((!(decide (N ≤ (6 : Int)) &&
 decide
 ((↑(psK l).length :
 Int) ≤
 (60 : Int))) ||
 decide ((↑o.length : Int) > (30 : Int))) =
 false →
 l.length = l.length ∧
 o.length = o.length ∧
 psK l =
 l ∧
 mkN (nthD (0 : Int) o) o.length = o ∧
 l.length ≤ (1099511627776 : Nat) ∧
 o.length ≤ (1099511627776 : Nat) ∧
 l.length = l.length ∧
 o.length = o.length ∧
 psK l =
 l ∧
 mkN (nthD (0 : Int) o) o.length = o ∧
 l.length ≤ (1000000 : Nat) ∧
 o.length ≤ (1099511627776 : Nat) ∧
 N ≤ (9 : Int) ∧
 l.length = l.length ∧
 psK l =
 l ∧
 l.length ≤ (1099511627776 : Nat) ∧
 l.length = l.length ∧
 psK l =
 l ∧
 l.length ≤ (1000000 : Nat) ∧
 N ≤ (9 : Int) ∧
 (((↑(rkV N l o) : Int) == (↑(rkV N l o) : Int) &&
 rkE N l o == rkE N l o) =
 true →
 (AV.is (ntL N l r)).len = (AV.is (ntL N l r)).len) ∧
 (((↑(rkV N l o) : Int) == (↑(rkV N l o) : Int) &&
 rkE N l o == rkE N l o) =
 true →
 (AV.is (ntL N l r)).len = (AV.is (ntL N l r)).len) ∧
 (((↑(rkV N l o) : Int) == (↑(rkV N l o) : Int) &&
 rkE N l o == rkE N l o) =
 true →
 (mkN (nthD (0 : Int) (ntL N l r))
 (AV.is (ntL N l r)).len).length ≤
 (1099511627776 : Nat)) ∧
 (((↑(rkV N l o) : Int) == (↑(rkV N l o) : Int) &&
 rkE N l o == rkE N l o) =
 true →
 (mkN (nthD (0 : Int) (ntL N l r))
 (AV.is (ntL N l r)).len).length ≤
 (1099511627776 : Nat)) ∧
 ((↑(rkV N l o) : Int) == (↑(rkV N l o) : Int) &&
 rkE N l o == rkE N l o &&
 decide
 (mkN (nthD (0 : Int) (ntL N l r))
 (AV.is (ntL N l r)).len =
 mkN (nthD (0 : Int) (ntL N l r))
 (AV.is (ntL N l r)).len) &&
 ntE N l r == ntE N l r) =
 true)) := by kernel_rfl
theorem v9 (N : Int) (l : List Pq) (o : List Int) (r : Int)  : fnVc (tab [kFew [], kAwk [], kRnk [some (.ps l), some (.is o)], kRkR [some (.ps l), some (.is o)], kNth [some (.ps l)], kNtR [some (.ps l)], kInt []] []) Try.f9 [rlV N 0 l, .sl 1 o.length, .i .i64 r] [arP l, arI o] (plainIs .tt) := by
  rw [v9_eq]
  simp only [eq_self, true_and, and_true, implies_true, imp_self, psK_eq, mkN_ps, mkN_self, mkN_len, PLoop.of, lCnt, Nat.zero_add, AV.len]
  refine fun h => ?_
  rw [Bool.or_eq_false_iff] at h
  have h1 : (decide (N ≤ 6) && decide ((l.length : Int) ≤ 60)) = true := by simpa using h.1
  rw [Bool.and_eq_true] at h1
  have hN : N ≤ 6 := of_decide_eq_true h1.1
  have hl : l.length ≤ 60 := by have := of_decide_eq_true h1.2; omega
  have ho : o.length ≤ 30 := by have := of_decide_eq_false h.2; omega
  have hf := ntL_len (N := N) (l := l) (r := r) (by omega)
  exact ⟨by omega, by omega, by omega, by omega, by omega, by omega, by omega, by omega, fun _ => by omega, fun _ => by omega, by simp⟩
end Go.Proofs.Ytiokmglajigngaa
