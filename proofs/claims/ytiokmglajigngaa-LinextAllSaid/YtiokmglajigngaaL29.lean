/-
  A part of the proof (L29).
-/
import Derived.Test.YtiokmglajigngaaL28
namespace Go.Proofs.Ytiokmglajigngaa
open Go Go.Proofs.Ytiokmglajigngaa.Sx
set_option maxRecDepth 100000
set_option linter.unusedSimpArgs false
set_option linter.unusedVariables false

theorem exX_zero {N : Int} {l : List Pq} {P : List Int} {m : Nat} : exX N l P m 0 = [] := by simp [exX]
theorem exX_succ {N : Int} {l : List Pq} {P : List Int} {m i : Nat} (hi : i < (nxtL N l P).length) (hm : (exX N l P m i).length < m) : exX N l P m (i + 1) = exX N l P m i ++ (extP N l (P ++ [nthD 0 (nxtL N l P) i])).take (m - (exX N l P m i).length) := by
  rw [exX, take_succ' 0 hi, List.flatMap_append, List.flatMap_singleton, List.take_append]
  have h : (exX N l P m i).length = min m (((nxtL N l P).take i).flatMap (fun x => extP N l (P ++ [x]))).length := by rw [exX, List.length_take]
  rw [h] at hm ⊢
  have h2 : (((nxtL N l P).take i).flatMap (fun x => extP N l (P ++ [x]))).length < m := by omega
  rw [Nat.min_eq_right (by omega)]
  rfl
theorem exX_len {N : Int} {l : List Pq} {P : List Int} {m i : Nat} : (exX N l P m i).length ≤ m := by rw [exX, List.length_take]; omega
theorem exX_end {N : Int} {l : List Pq} {P : List Int} {m i : Nat} (hP : P.length < N.toNat) (h : i = (nxtL N l P).length ∨ m ≤ (exX N l P m i).length) : exX N l P m i = (extP N l P).take m := by
  rw [extP_step hP]
  rcases h with h | h
  · rw [exX, h, List.take_length]
  · have e : (nxtL N l P).flatMap (fun x => extP N l (P ++ [x])) = ((nxtL N l P).take i).flatMap (fun x => extP N l (P ++ [x])) ++ ((nxtL N l P).drop i).flatMap (fun x => extP N l (P ++ [x])) := by rw [← List.flatMap_append, List.take_append_drop]
    rw [exX, List.length_take] at h
    rw [e, List.take_append_of_le_length (by omega)]
    rfl
theorem ext_all {N : Int} {l : List Pq} : ∀ (k : Nat) (P : List Int), P.length + k = N.toNat → ∀ x ∈ extP N l P, x.length = N.toNat := by
  intro k
  induction k with
  | zero => intro P hP x hx; rw [extP_full (by omega)] at hx; rw [List.mem_singleton.1 hx]; omega
  | succ k ih =>
    intro P hP x hx
    rw [extP_step (by omega)] at hx
    obtain ⟨y, _, hy⟩ := List.mem_flatMap.1 hx
    exact ih _ (by rw [List.length_append, List.length_singleton]; omega) x hy
theorem al_len {N : Int} {l : List Pq} {lim : Int} : (alL N l lim).length ≤ 1048576 ∧ ∀ j, (nthD [] (alL N l lim) j).length ≤ 64 := by
  rw [alL]
  cases h : (okP N l && !alO lim && alB N l lim)
  · rw [cond_false]
    exact ⟨Nat.zero_le _, fun j => by cases j <;> exact Nat.zero_le _⟩
  · rw [cond_true]
    simp only [Bool.and_eq_true] at h
    obtain ⟨⟨hP, hO⟩, hB⟩ := h
    obtain ⟨_, hN, hN2, hn, _⟩ := befP_ok hP
    have hO : alO lim = false := by simpa using hO
    rw [alO, Bool.or_eq_false_iff] at hO
    have := of_decide_eq_false hO.2
    have hB := Nat.le_of_ble_eq_true hB
    refine ⟨by omega, fun j => ?_⟩
    by_cases hj : j < (extP N l []).length
    · rw [ext_all N.toNat [] (by simp) _ (nthD_mem [] hj)]; omega
    · rw [nthD_out _ _ _ (by omega)]; exact Nat.zero_le _
theorem v41_eq (N : Int) (l : List Pq) (P : List Int) (m : Int) (F : Nat) (X : List Int) : (fnVc (tab [kNxt [none, none, none, none, none, some (.is X)], kExt F []] [(0, .of (lEx N l P m 4))]) Try.f41 [rlV N 0 l, .sl 1 P.length, .i .i64 m] [arP l, arI P] (resIs (.sl 0 ((extP N l P).take m.toNat).length) 25 ((extP N l P).take m.toNat).length (rsCols ((extP N l P).take m.toNat)))) = ((((↑P.length : Int) == N) = true →
 (0 : Nat) = (0 : Nat) ∧
 P.length = P.length ∧
 ((0 : Nat) + P.length) * (8 : Nat) ≤ (140737488355328 : Nat) ∧
 (0 : Nat) + P.length ≤ (9223372036854775807 : Nat) ∧
 (0 : Nat) + P.length = (0 : Nat) + P.length ∧
 (1 : Nat) = (List.take m.toNat (extP N l P)).length ∧
 (((∀ (j : Nat),
 j < (List.take m.toNat (extP N l P)).length →
 (0 : Nat) + P.length = (nthD [] (List.take m.toNat (extP N l P)) j).length) ∧
 (∀ (j : Nat),
 j < (List.take m.toNat (extP N l P)).length →
 ∀ (i : Nat),
 i < (nthD [] (List.take m.toNat (extP N l P)) j).length →
 nthD (0 : Int) P i = nthD (0 : Int) (nthD [] (List.take m.toNat (extP N l P)) j) i) ∧
 True) ∧
 True) ∧
 (1 : Nat) = (List.take m.toNat (extP N l P)).length) ∧
 (((↑P.length : Int) == N) = false →
 l.length = l.length ∧
 P.length = P.length ∧
 validF N
 (mkN (fun (j : Nat) => ((nthD ((0 : Int), (0 : Int)) l j).fst, (nthD ((0 : Int), (0 : Int)) l j).snd))
 l.length) =
 true ∧
 (mkN (fun (j : Nat) => ((nthD ((0 : Int), (0 : Int)) l j).fst, (nthD ((0 : Int), (0 : Int)) l j).snd))
 l.length).length ≤
 (1099511627776 : Nat) ∧
 (mkN (nthD (0 : Int) P) P.length).length ≤ (1099511627776 : Nat) ∧
 nxtL N
 (mkN
 (fun (j : Nat) => ((nthD ((0 : Int), (0 : Int)) l j).fst, (nthD ((0 : Int), (0 : Int)) l j).snd))
 l.length)
 (mkN (nthD (0 : Int) P) P.length) =
 X ∧
 ∃ (x : PUnit),
 (∃ (x : Nat),
 x ≤ (nxtL N l P).length ∧
 ((0 : Int) = (↑x : Int) ∧ (0 : Nat) = (exX N l P m.toNat x).length ∧ True) ∧
 ((0 : Nat) = (exX N l P m.toNat x).length ∧ (exX N l P m.toNat x).length = (0 : Nat) ∧ True) ∧
 True) ∧
 ∀ (x_1 : Nat),
 x_1 ≤ (nxtL N l P).length →
 ((decide ((↑x_1 : Int) < (↑(AV.is X).len : Int)) &&
 decide ((↑(exX N l P m.toNat x_1).length : Int) < m)) =
 true →
 (0 : Nat) = (0 : Nat) ∧
 P.length = P.length ∧
 ((0 : Nat) + P.length) * (8 : Nat) ≤ (140737488355328 : Nat) ∧
 (0 : Nat) + P.length ≤ (9223372036854775807 : Nat) ∧
 ((0 : Int) ≤ (↑x_1 : Int) ∧ (↑x_1 : Int) < (↑(AV.is X).len : Int)) ∧
 x_1 < (AV.is X).len ∧
 (0 : Nat) + P.length = (0 : Nat) + P.length ∧
 (1 : Nat) = (1 : Nat) ∧
 ((0 : Nat) + P.length + (1 : Nat)) * (8 : Nat) ≤ (140737488355328 : Nat) ∧
 (0 : Nat) + P.length + (1 : Nat) ≤ (9223372036854775807 : Nat) ∧
 l.length = l.length ∧
 (0 : Nat) + P.length + (1 : Nat) = (0 : Nat) + P.length + (1 : Nat) ∧
 validF N
 (mkN
 (fun (j : Nat) =>
 ((nthD ((0 : Int), (0 : Int)) l j).fst,
 (nthD ((0 : Int), (0 : Int)) l j).snd))
 l.length) =
 true ∧
 (mkN
 (fun (j : Nat) =>
 ((nthD ((0 : Int), (0 : Int)) l j).fst,
 (nthD ((0 : Int), (0 : Int)) l j).snd))
 l.length).length ≤
 (1099511627776 : Nat) ∧
 (mkN
 (fun (j : Nat) =>
 bif j.blt ((0 : Nat) + P.length) then
 nthD (0 : Int) P j
 else
 pickI [nthD (0 : Int) X x_1]
 (j - ((0 : Nat) + P.length)))
 ((0 : Nat) + P.length + (1 : Nat))).length ≤
 (1099511627776 : Nat) ∧
 (∀ (y : Int),
 List.Mem y
 (mkN
 (fun (j : Nat) =>
 bif j.blt ((0 : Nat) + P.length) then
 nthD (0 : Int) P j
 else
 pickI [nthD (0 : Int) X x_1]
 (j - ((0 : Nat) + P.length)))
 ((0 : Nat) + P.length + (1 : Nat))) →
 (0 : Int) ≤ y ∧ y < N) ∧
 (mkN
 (fun (j : Nat) =>
 bif j.blt ((0 : Nat) + P.length) then
 nthD (0 : Int) P j
 else
 pickI [nthD (0 : Int) X x_1]
 (j - ((0 : Nat) + P.length)))
 ((0 : Nat) + P.length + (1 : Nat))).length ≤
 N.toNat ∧
 N.toNat <
 (mkN
 (fun (j : Nat) =>
 bif j.blt ((0 : Nat) + P.length) then
 nthD (0 : Int) P j
 else
 pickI [nthD (0 : Int) X x_1]
 (j - ((0 : Nat) + P.length)))
 ((0 : Nat) + P.length + (1 : Nat))).length +
 F ∧
 (1 : Int) ≤
 IntKind.i64.wrap
 (m - (↑(exX N l P m.toNat x_1).length : Int)) ∧
 IntKind.i64.wrap
 (m - (↑(exX N l P m.toNat x_1).length : Int)) ≤
 (1048577 : Int) ∧
 (exX N l P m.toNat x_1).length =
 (exX N l P m.toNat x_1).length ∧
 (AV.rs
 (List.take
 (IntKind.i64.wrap
 (m -
 (↑(exX N l P m.toNat x_1).length :
 Int))).toNat
 (extP N
 (mkN
 (fun (j : Nat) =>
 ((nthD ((0 : Int), (0 : Int)) l
 j).fst,
 (nthD ((0 : Int), (0 : Int)) l
 j).snd))
 l.length)
 (mkN
 (fun (j : Nat) =>
 bif
 j.blt
 ((0 : Nat) + P.length) then
 nthD (0 : Int) P j
 else
 pickI [nthD (0 : Int) X x_1]
 (j - ((0 : Nat) + P.length)))
 ((0 : Nat) + P.length +
 (1 : Nat)))))).len =
 (AV.rs
 (List.take
 (IntKind.i64.wrap
 (m -
 (↑(exX N l P m.toNat x_1).length :
 Int))).toNat
 (extP N
 (mkN
 (fun (j : Nat) =>
 ((nthD ((0 : Int), (0 : Int)) l
 j).fst,
 (nthD ((0 : Int), (0 : Int)) l
 j).snd))
 l.length)
 (mkN
 (fun (j : Nat) =>
 bif
 j.blt
 ((0 : Nat) + P.length) then
 nthD (0 : Int) P j
 else
 pickI [nthD (0 : Int) X x_1]
 (j - ((0 : Nat) + P.length)))
 ((0 : Nat) + P.length +
 (1 : Nat)))))).len ∧
 ((exX N l P m.toNat x_1).length +
 (AV.rs
 (List.take
 (IntKind.i64.wrap
 (m -
 (↑(exX N l P m.toNat
 x_1).length :
 Int))).toNat
 (extP N
 (mkN
 (fun (j : Nat) =>
 ((nthD
 ((0 : Int), (0 : Int))
 l j).fst,
 (nthD
 ((0 : Int), (0 : Int))
 l j).snd))
 l.length)
 (mkN
 (fun (j : Nat) =>
 bif
 j.blt
 ((0 : Nat) +
 P.length) then
 nthD (0 : Int) P j
 else
 pickI
 [nthD (0 : Int) X x_1]
 (j -
 ((0 : Nat) +
 P.length)))
 ((0 : Nat) + P.length +
 (1 : Nat)))))).len) *
 (24 : Nat) ≤
 (140737488355328 : Nat) ∧
 (exX N l P m.toNat x_1).length +
 (AV.rs
 (List.take
 (IntKind.i64.wrap
 (m -
 (↑(exX N l P m.toNat
 x_1).length :
 Int))).toNat
 (extP N
 (mkN
 (fun (j : Nat) =>
 ((nthD
 ((0 : Int), (0 : Int))
 l j).fst,
 (nthD
 ((0 : Int), (0 : Int))
 l j).snd))
 l.length)
 (mkN
 (fun (j : Nat) =>
 bif
 j.blt
 ((0 : Nat) +
 P.length) then
 nthD (0 : Int) P j
 else
 pickI
 [nthD (0 : Int) X x_1]
 (j -
 ((0 : Nat) +
 P.length)))
 ((0 : Nat) + P.length +
 (1 : Nat)))))).len ≤
 (9223372036854775807 : Nat) ∧
 ∃ (x_2 : Nat),
 x_2 ≤ (nxtL N l P).length ∧
 ((PLoop.of (lEx N l P m (4 : Nat))).ann
 x).mu
 x_2 <
 ((PLoop.of
 (lEx N l P m
 (4 : Nat))).ann
 x).mu
 x_1 ∧
 ((N = N ∧ l.length = l.length) ∧
 P.length = P.length ∧
 m = m ∧
 True ∧
 (0 : Nat) = (0 : Nat) ∧
 (exX N l P m.toNat
 x_1).length +
 (AV.rs
 (List.take
 (IntKind.i64.wrap
 (m -
 (↑(exX N
 l
 P
 m.toNat
 x_1).length :
 Int))).toNat
 (extP N
 (mkN
 (fun
 (j :
 Nat) =>
 ((nthD
 ((0 :
 Int),
 (0 :
 Int))
 l
 j).fst,
 (nthD
 ((0 :
 Int),
 (0 :
 Int))
 l
 j).snd))
 l.length)
 (mkN
 (fun
 (j :
 Nat) =>
 bif
 j.blt
 ((0 :
 Nat) +
 P.length) then
 nthD
 (0 :
 Int)
 P j
 else
 pickI
 [nthD
 (0 :
 Int)
 X
 x_1]
 (j -
 ((0 :
 Nat) +
 P.length)))
 ((0 :
 Nat) +
 P.length +
 (1 :
 Nat)))))).len =
 (exX N l P m.toNat
 x_2).length ∧
 (AV.is X).len =
 (AV.is X).len ∧
 IntKind.i64.wrap
 ((↑x_1 : Int) +
 (1 : Int)) =
 (↑x_2 : Int) ∧
 P.length =
 P.length ∧
 (↑P.length :
 Int) =
 (↑P.length :
 Int) ∧
 True ∧
 N = N ∧
 false =
 false ∧
 (N = N ∧
 l.length =
 l.length) ∧
 P.length =
 P.length ∧
 (AV.is
 X).len =
 (AV.is
 X).len ∧
 True) ∧
 (l.length = l.length ∧
 (∀ (j : Nat),
 j < l.length →
 (nthD
 ((0 : Int),
 (0 : Int))
 l j).fst =
 (nthD
 ((0 : Int),
 (0 : Int))
 l j).fst) ∧
 (∀ (j : Nat),
 j < l.length →
 (nthD
 ((0 : Int),
 (0 : Int))
 l j).snd =
 (nthD
 ((0 : Int),
 (0 : Int))
 l j).snd) ∧
 True) ∧
 (P.length = P.length ∧
 (∀ (j : Nat),
 j < P.length →
 nthD (0 : Int) P j =
 nthD (0 : Int) P j) ∧
 True) ∧
 (N = N ∧ l.length = l.length) ∧
 ((0 : Nat) = (0 : Nat) ∧
 True ∧ True) ∧
 ((exX N l P m.toNat
 x_1).length +
 (AV.rs
 (List.take
 (IntKind.i64.wrap
 (m -
 (↑(exX N
 l
 P
 m.toNat
 x_1).length :
 Int))).toNat
 (extP N
 (mkN
 (fun
 (j :
 Nat) =>
 ((nthD
 ((0 :
 Int),
 (0 :
 Int))
 l
 j).fst,
 (nthD
 ((0 :
 Int),
 (0 :
 Int))
 l
 j).snd))
 l.length)
 (mkN
 (fun
 (j :
 Nat) =>
 bif
 j.blt
 ((0 :
 Nat) +
 P.length) then
 nthD
 (0 :
 Int)
 P j
 else
 pickI
 [nthD
 (0 :
 Int)
 X
 x_1]
 (j -
 ((0 :
 Nat) +
 P.length)))
 ((0 :
 Nat) +
 P.length +
 (1 :
 Nat)))))).len =
 (exX N l P m.toNat
 x_2).length ∧
 ((∀ (j : Nat),
 j <
 (exX N l P
 m.toNat
 x_2).length →
 (bif
 j.blt
 (exX N l
 P
 m.toNat
 x_1).length then
 (nthD []
 (exX N l
 P
 m.toNat
 x_1)
 j).length
 else
 (nthD []
 (List.take
 (IntKind.i64.wrap
 (m -
 (↑(exX
 N
 l
 P
 m.toNat
 x_1).length :
 Int))).toNat
 (extP
 N
 (mkN
 (fun
 (j :
 Nat) =>
 ((nthD
 ((0 :
 Int),
 (0 :
 Int))
 l
 j).fst,
 (nthD
 ((0 :
 Int),
 (0 :
 Int))
 l
 j).snd))
 l.length)
 (mkN
 (fun
 (j :
 Nat) =>
 bif
 j.blt
 ((0 :
 Nat) +
 P.length) then
 nthD
 (0 :
 Int)
 P
 j
 else
 pickI
 [nthD
 (0 :
 Int)
 X
 x_1]
 (j -
 ((0 :
 Nat) +
 P.length)))
 ((0 :
 Nat) +
 P.length +
 (1 :
 Nat)))))
 (j -
 (exX N
 l
 P
 m.toNat
 x_1).length)).length) =
 (nthD []
 (exX N l P
 m.toNat
 x_2)
 j).length) ∧
 (∀ (j : Nat),
 j <
 (exX N l P
 m.toNat
 x_2).length →
 ∀ (i : Nat),
 i <
 (nthD []
 (exX
 N
 l
 P
 m.toNat
 x_2)
 j).length →
 (bif
 j.blt
 (exX
 N
 l
 P
 m.toNat
 x_1).length then
 fun
 (i :
 Nat) =>
 nthD
 (0 :
 Int)
 (nthD
 []
 (exX
 N
 l
 P
 m.toNat
 x_1)
 j)
 i
 else
 fun
 (i :
 Nat) =>
 nthD
 (0 :
 Int)
 (nthD
 []
 (List.take
 (IntKind.i64.wrap
 (m -
 (↑(exX
 N
 l
 P
 m.toNat
 x_1).length :
 Int))).toNat
 (extP
 N
 (mkN
 (fun
 (j :
 Nat) =>
 ((nthD
 ((0 :
 Int),
 (0 :
 Int))
 l
 j).fst,
 (nthD
 ((0 :
 Int),
 (0 :
 Int))
 l
 j).snd))
 l.length)
 (mkN
 (fun
 (j :
 Nat) =>
 bif
 j.blt
 ((0 :
 Nat) +
 P.length) then
 nthD
 (0 :
 Int)
 P
 j
 else
 pickI
 [nthD
 (0 :
 Int)
 X
 x_1]
 (j -
 ((0 :
 Nat) +
 P.length)))
 ((0 :
 Nat) +
 P.length +
 (1 :
 Nat)))))
 (j -
 (exX
 N
 l
 P
 m.toNat
 x_1).length))
 i)
 i =
 nthD
 (0 :
 Int)
 (nthD
 []
 (exX
 N
 l
 P
 m.toNat
 x_2)
 j)
 i) ∧
 True) ∧
 True) ∧
 ((AV.is X).len =
 (AV.is X).len ∧
 (∀ (j : Nat),
 j <
 (AV.is
 X).len →
 nthD (0 : Int) X
 j =
 nthD (0 : Int)
 X j) ∧
 True) ∧
 True) ∧
 ((decide ((↑x_1 : Int) < (↑(AV.is X).len : Int)) &&
 decide ((↑(exX N l P m.toNat x_1).length : Int) < m)) =
 false →
 (exX N l P m.toNat x_1).length = (List.take m.toNat (extP N l P)).length ∧
 (((∀ (j : Nat),
 j < (List.take m.toNat (extP N l P)).length →
 (nthD [] (exX N l P m.toNat x_1) j).length =
 (nthD [] (List.take m.toNat (extP N l P)) j).length) ∧
 (∀ (j : Nat),
 j < (List.take m.toNat (extP N l P)).length →
 ∀ (i : Nat),
 i < (nthD [] (List.take m.toNat (extP N l P)) j).length →
 nthD (0 : Int) (nthD [] (exX N l P m.toNat x_1) j) i =
 nthD (0 : Int) (nthD [] (List.take m.toNat (extP N l P)) j) i) ∧
 True) ∧
 True) ∧
 (exX N l P m.toNat x_1).length = (List.take m.toNat (extP N l P)).length))) := by kernel_rfl
theorem v41 (N : Int) (l : List Pq) (P : List Int) (m : Int) (F : Nat) (X : List Int) (hX : X = nxtL N l P) (hv : validF N l = true) (hl : L9 l) (hPl : L9 P) (hr : ∀ y ∈ P, 0 ≤ y ∧ y < N) (hle : P.length ≤ N.toNat) (hF : N.toNat < P.length + (F + 1)) (h1 : 1 ≤ m) (h2 : m ≤ 1048577) : fnVc (tab [kNxt [none, none, none, none, none, some (.is X)], kExt F []] [(0, .of (lEx N l P m 4))]) Try.f41 [rlV N 0 l, .sl 1 P.length, .i .i64 m] [arP l, arI P] (resIs (.sl 0 ((extP N l P).take m.toNat).length) 25 ((extP N l P).take m.toNat).length (rsCols ((extP N l P).take m.toNat))) := by
  rw [v41_eq]
  simp only [eq_self, true_and, and_true, implies_true, imp_self, mkN_ps, mkN_rs, mkN_self, mkN_len, PLoop.of, lCnt, AV.len, lEx, Nat.zero_add]
  subst hX
  obtain ⟨hN0, hN64, _⟩ := validF_iff.1 hv
  refine ⟨fun hf => ?_, fun hf => ?_⟩
  · have hf : P.length = N.toNat := by have := eq_of_beq hf; omega
    rw [extP_full hf, List.take_of_length_le (show [P].length ≤ m.toNat by simp; omega)]
    refine ⟨by omega, by omega, rfl, ⟨fun j hj => ?_, fun j hj i hi => ?_⟩, rfl⟩
    · have : j = 0 := by simpa using hj
      subst this; rfl
    · have : j = 0 := by simpa using hj
      subst this; rfl
  · have hf : P.length < N.toNat := by
      have : ¬ (P.length : Int) = N := fun e => by rw [e] at hf; simp at hf
      omega
    have hxl := nxtK_len l P N.toNat
    refine ⟨hv, hl, hPl, rfl, (), ⟨0, Nat.zero_le _, ⟨rfl, by rw [exX_zero]; rfl⟩, by rw [exX_zero]; rfl, by rw [exX_zero]; rfl⟩, fun i hi => ⟨fun hlt => ?_, fun hlt => ?_⟩⟩
    · rw [Bool.and_eq_true] at hlt
      have hi2 := lt_len hlt.1
      have hm := of_decide_eq_true hlt.2
      have hw : IntKind.i64.wrap (m - (exX N l P m.toNat i).length) = m - (exX N l P m.toNat i).length := w64_eq (by omega) (by omega)
      have ht : (m - (exX N l P m.toNat i).length : Int).toNat = m.toNat - (exX N l P m.toNat i).length := by omega
      rw [mkN_ap rfl, hw, ht]
      have hs := exX_succ (m := m.toNat) hi2 (by omega)
      have hlen := exX_len (N := N) (l := l) (P := P) (m := m.toNat) (i := i + 1)
      obtain ⟨y, hy1, hy2, hy3⟩ := mem_nxtK.1 (nthD_mem 0 hi2)
      have hy2 : nthD 0 (nxtL N l P) i = (y : Int) := hy2
      have hlen2 : (exX N l P m.toNat (i + 1)).length = (exX N l P m.toNat i).length + ((extP N l (P ++ [nthD 0 (nxtL N l P) i])).take (m.toNat - (exX N l P m.toNat i).length)).length := by rw [hs, List.length_append]
      refine ⟨by omega, by omega, bd hi2, hi2, by omega, by omega, hv, hl, by omega, fun y hy => ?_, by omega, by omega, by omega, by omega, by omega, by omega, i + 1, hi2, by omega, ⟨hlen2.symm, wrS (n := 64) (by have : (nxtL N l P).length ≤ N.toNat := hxl; omega) (by omega)⟩, hlen2.symm, fun j hj => ?_, fun j hj k hk => ?_⟩
      · have hy : y ∈ P ++ [nthD 0 (nxtL N l P) i] := hy
        rcases List.mem_append.1 hy with h | h
        · exact hr y h
        · rw [List.mem_singleton.1 h, hy2]; omega
      · rw [hs]
        by_cases h : j < (exX N l P m.toNat i).length
        · rw [blt_t h, cond_true, nthD_lt _ h]
        · rw [blt_f (by omega), cond_false, nthD_ge _ (by omega)]
      · rw [hs]
        by_cases h : j < (exX N l P m.toNat i).length
        · rw [blt_t h, cond_true, nthD_lt _ h]
        · rw [blt_f (by omega), cond_false, nthD_ge _ (by omega)]
    · have he : i = (nxtL N l P).length ∨ m.toNat ≤ (exX N l P m.toNat i).length := by
        rw [Bool.and_eq_false_iff] at hlt
        rcases hlt with h | h
        · exact .inl (ge_len h hi)
        · have := of_decide_eq_false h; exact .inr (by omega)
      rw [exX_end hf he]
      exact ⟨rfl, ⟨fun _ _ => rfl, fun _ _ _ _ => rfl⟩, rfl⟩

theorem fo41 : fnOk Try.prog 41 := ⟨Try.f41, Try.func41, by kernel_rfl, by kernel_rfl⟩
theorem fo20 : fnOk Try.prog 20 := ⟨Try.f20, Try.func20, by kernel_rfl, by kernel_rfl⟩

theorem e41 : ∀ F, CallOk Try.prog [] 41 (genF EL [] [.r, .is, .i] (sExt F)) := by
  intro F
  induction F with
  | zero =>
    refine okT (fn := Try.f41) Try.func41 fo41 (fun _ => tab [] []) (fun av => tabOk mNil) (fun av => ⟨rfl, rfl⟩) (fun av pre rv h => ?_) (fun av pre rv h hp => ?_)
    · unfold sExt at h; split at h <;> cases h
      exact ⟨rfl, fun t a e => by cases e <;> exact List.cons_ne_nil _ _⟩
    · unfold sExt at h; split at h <;> cases h
      have h1 := hp _ (.tail _ (.tail _ (.tail _ (.tail _ (.head _)))))
      have h2 := hp _ (.tail _ (.tail _ (.tail _ (.tail _ (.tail _ (.head _))))))
      omega
  | succ F ih =>
    refine okT (fn := Try.f41) Try.func41 fo41 (fun av => match av with | [.r N l, .is P, .i m] => tab [kNxt [none, none, none, none, none, some (.is (nxtL N l P))], kExt F []] [(0, .of (lEx N l P m 4))] | _ => tab [] []) (fun av => ?_) (fun av => ?_) (fun av pre rv h => ?_) (fun av pre rv h hp => ?_)
    · split
      · exact tabOk (mOne (n36 _) (mOne ih mNil))
      · exact tabOk mNil
    · split <;> exact ⟨rfl, rfl⟩
    · unfold sExt at h; split at h <;> cases h
      exact ⟨rfl, fun t a e => by cases e <;> exact List.cons_ne_nil _ _⟩
    · unfold sExt at h; split at h <;> cases h
      exact v41 _ _ _ _ F _ rfl (hp _ (.head _)) (hp _ (.tail _ (.head _))) (hp _ (.tail _ (.tail _ (.head _)))) (hp _ (.tail _ (.tail _ (.tail _ (.head _))))) (hp _ (.tail _ (.tail _ (.tail _ (.tail _ (.head _)))))) (hp _ (.tail _ (.tail _ (.tail _ (.tail _ (.tail _ (.head _))))))) (hp _ (.tail _ (.tail _ (.tail _ (.tail _ (.tail _ (.tail _ (.head _)))))))) (hp _ (.tail _ (.tail _ (.tail _ (.tail _ (.tail _ (.tail _ (.tail _ (.head _)))))))))
theorem v20_eq (N : Int) (l : List Pq) (lim : Int) : (fnVc (tab [kWro [], kExt (N.toNat + 1) []] []) Try.f20 [rlV N 0 l, .i .i64 lim] [arP l] (resIs (.tup [.sl 0 (alL N l lim).length, .i .i64 (alE N l lim)]) 25 (alL N l lim).length (rsCols (alL N l lim)))) = (l.length = l.length ∧
 (mkN (fun (j : Nat) => ((nthD ((0 : Int), (0 : Int)) l j).fst, (nthD ((0 : Int), (0 : Int)) l j).snd))
 l.length).length ≤
 (1099511627776 : Nat) ∧
 ((errP N
 (mkN (fun (j : Nat) => ((nthD ((0 : Int), (0 : Int)) l j).fst, (nthD ((0 : Int), (0 : Int)) l j).snd))
 l.length) !=
 (0 : Int)) =
 true →
 (0 : Nat) = (alL N l lim).length ∧
 ((alL N l lim).length = (0 : Nat) ∧ True) ∧
 (0 : Nat) = (alL N l lim).length ∧
 errP N
 (mkN
 (fun (j : Nat) => ((nthD ((0 : Int), (0 : Int)) l j).fst, (nthD ((0 : Int), (0 : Int)) l j).snd))
 l.length) =
 alE N l lim ∧
 True) ∧
 ((errP N
 (mkN (fun (j : Nat) => ((nthD ((0 : Int), (0 : Int)) l j).fst, (nthD ((0 : Int), (0 : Int)) l j).snd))
 l.length) !=
 (0 : Int)) =
 false →
 ((decide (lim < (1 : Int)) || decide (lim > (1048576 : Int))) = true →
 (0 : Nat) = (alL N l lim).length ∧
 ((alL N l lim).length = (0 : Nat) ∧ True) ∧
 (0 : Nat) = (alL N l lim).length ∧ (2 : Int) = alE N l lim ∧ True) ∧
 ((decide (lim < (1 : Int)) || decide (lim > (1048576 : Int))) = false →
 l.length = l.length ∧
 validF N
 (mkN
 (fun (j : Nat) => ((nthD ((0 : Int), (0 : Int)) l j).fst, (nthD ((0 : Int), (0 : Int)) l j).snd))
 l.length) =
 true ∧
 (mkN (fun (j : Nat) => ((nthD ((0 : Int), (0 : Int)) l j).fst, (nthD ((0 : Int), (0 : Int)) l j).snd))
 l.length).length ≤
 (1099511627776 : Nat) ∧
 ([] : List Pq).length ≤ (1099511627776 : Nat) ∧
 (∀ (y : Int), List.Mem y [] → (0 : Int) ≤ y ∧ y < N) ∧
 ([] : List Pq).length ≤ N.toNat ∧
 N.toNat < ([] : List Pq).length + (N.toNat + (1 : Nat)) ∧
 (1 : Int) ≤ IntKind.i64.wrap (lim + (1 : Int)) ∧
 IntKind.i64.wrap (lim + (1 : Int)) ≤ (1048577 : Int) ∧
 (decide
 ((↑(AV.rs
 (List.take (IntKind.i64.wrap (lim + (1 : Int))).toNat
 (extP N
 (mkN
 (fun (j : Nat) =>
 ((nthD ((0 : Int), (0 : Int)) l j).fst,
 (nthD ((0 : Int), (0 : Int)) l j).snd))
 l.length)
 []))).len :
 Int) >
 lim) =
 true →
 (0 : Nat) = (alL N l lim).length ∧
 ((alL N l lim).length = (0 : Nat) ∧ True) ∧
 (0 : Nat) = (alL N l lim).length ∧ (4 : Int) = alE N l lim ∧ True) ∧
 (decide
 ((↑(AV.rs
 (List.take (IntKind.i64.wrap (lim + (1 : Int))).toNat
 (extP N
 (mkN
 (fun (j : Nat) =>
 ((nthD ((0 : Int), (0 : Int)) l j).fst,
 (nthD ((0 : Int), (0 : Int)) l j).snd))
 l.length)
 []))).len :
 Int) >
 lim) =
 false →
 (AV.rs
 (List.take (IntKind.i64.wrap (lim + (1 : Int))).toNat
 (extP N
 (mkN
 (fun (j : Nat) =>
 ((nthD ((0 : Int), (0 : Int)) l j).fst,
 (nthD ((0 : Int), (0 : Int)) l j).snd))
 l.length)
 []))).len =
 (alL N l lim).length ∧
 (((∀ (j : Nat),
 j < (alL N l lim).length →
 (nthD []
 (List.take (IntKind.i64.wrap (lim + (1 : Int))).toNat
 (extP N
 (mkN
 (fun (j : Nat) =>
 ((nthD ((0 : Int), (0 : Int)) l j).fst,
 (nthD ((0 : Int), (0 : Int)) l j).snd))
 l.length)
 []))
 j).length =
 (nthD [] (alL N l lim) j).length) ∧
 (∀ (j : Nat),
 j < (alL N l lim).length →
 ∀ (i : Nat),
 i < (nthD [] (alL N l lim) j).length →
 nthD (0 : Int)
 (nthD []
 (List.take (IntKind.i64.wrap (lim + (1 : Int))).toNat
 (extP N
 (mkN
 (fun (j : Nat) =>
 ((nthD ((0 : Int), (0 : Int)) l j).fst,
 (nthD ((0 : Int), (0 : Int)) l j).snd))
 l.length)
 []))
 j)
 i =
 nthD (0 : Int) (nthD [] (alL N l lim) j) i) ∧
 True) ∧
 True) ∧
 (AV.rs
 (List.take (IntKind.i64.wrap (lim + (1 : Int))).toNat
 (extP N
 (mkN
 (fun (j : Nat) =>
 ((nthD ((0 : Int), (0 : Int)) l j).fst,
 (nthD ((0 : Int), (0 : Int)) l j).snd))
 l.length)
 []))).len =
 (alL N l lim).length ∧
 (0 : Int) = alE N l lim ∧ True)))) := by kernel_rfl
theorem v20 (N : Int) (l : List Pq) (lim : Int) (hl : L9 l) : fnVc (tab [kWro [], kExt (N.toNat + 1) []] []) Try.f20 [rlV N 0 l, .i .i64 lim] [arP l] (resIs (.tup [.sl 0 (alL N l lim).length, .i .i64 (alE N l lim)]) 25 (alL N l lim).length (rsCols (alL N l lim))) := by
  rw [v20_eq]
  simp only [eq_self, true_and, and_true, implies_true, imp_self, mkN_ps, mkN_rs, mkN_self, mkN_len, PLoop.of, lCnt, AV.len, lEx, Nat.zero_add]
  refine ⟨hl, fun h => ?_, fun h => ⟨fun ho => ?_, fun ho => ?_⟩⟩
  · have hP := err_no h
    rw [alL, alE, hP]
    exact ⟨rfl, rfl, rfl, rfl⟩
  · have hP := err_yes h
    have ho : alO lim = true := ho
    rw [alL, alE, hP, ho]
    exact ⟨rfl, rfl, rfl, rfl⟩
  · have hP := err_yes h
    have ho2 : alO lim = false := ho
    rw [Bool.or_eq_false_iff] at ho
    have hl1 := of_decide_eq_false ho.1
    have hl2 := of_decide_eq_false ho.2
    obtain ⟨e, hN, hN2, hn, hv⟩ := befP_ok hP
    have hw : IntKind.i64.wrap (lim + 1) = lim + 1 := w64_eq (by omega) (by omega)
    have ht : (lim + 1 : Int).toNat = lim.toNat + 1 := by omega
    rw [hw, ht]
    refine ⟨hv, hl, Nat.zero_le _, fun y hy => (by cases hy), Nat.zero_le _, by simp, by omega, by omega, fun hb => ?_, fun hb => ?_⟩
    · have hb := of_decide_eq_true hb
      rw [List.length_take] at hb
      have hab : alB N l lim = false := by
        cases h : alB N l lim
        · rfl
        · have := Nat.le_of_ble_eq_true h; omega
      rw [alL, alE, hP, ho2, hab]
      exact ⟨rfl, rfl, rfl, rfl⟩
    · have hb := of_decide_eq_false hb
      rw [List.length_take] at hb
      have hab : alB N l lim = true := Nat.ble_eq_true_of_le (by omega)
      have hA : alL N l lim = extP N l [] := by rw [alL, hP, ho2, hab]; rfl
      have hE : alE N l lim = 0 := by rw [alE, hP, ho2, hab]; rfl
      rw [hA, hE, List.take_of_length_le (by omega)]
      exact ⟨rfl, ⟨fun _ _ => rfl, fun _ _ _ _ => rfl⟩, rfl, rfl⟩

def t20 : List AV → Tab
  | [.r N l, .i lim] => tab [kWro [], kExt (N.toNat + 1) []] []
  | _ => tab [] []
theorem c20 : CallOk Try.prog [] 20 (genF EL [] [.r, .i] sAll) := by
  refine okT (fn := Try.f20) Try.func20 fo20 t20 (fun av => ?_) (fun av => ?_) (fun av pre rv h => ?_) (fun av pre rv h hp => ?_)
  · unfold t20; split <;> first | exact tabOk (mOne (n35 _) (mOne (e41 _) mNil)) | exact tabOk mNil
  · unfold t20; split <;> exact ⟨rfl, rfl⟩
  · unfold sAll at h; split at h <;> cases h
    exact ⟨rfl, fun t a e => by cases e <;> exact List.cons_ne_nil _ _⟩
  · unfold sAll at h; split at h <;> cases h
    exact v20 _ _ _ (hp _ (.head _))
theorem n20 (nm : List (Option AV)) : CallOk Try.prog [] 20 (genF EL nm [.r, .i] sAll) := genNm c20
theorem v4_eq (N : Int) (l : List Pq) (lim : Int) : (fnVc (tab [kFew [], kAwk [], kAll [], kAll' [], kLsts []] []) Try.f4 [rlV N 0 l, .i .i64 lim] [arP l] (plainIs .tt)) = (l.length = l.length ∧
 ((!(decide (N ≤ (6 : Int)) &&
 decide
 ((↑(mkN (fun (j : Nat) => ((nthD ((0 : Int), (0 : Int)) l j).fst, (nthD ((0 : Int), (0 : Int)) l j).snd))
 l.length).length :
 Int) ≤
 (60 : Int)))) =
 true →
 true = true) ∧
 ((!(decide (N ≤ (6 : Int)) &&
 decide
 ((↑(mkN (fun (j : Nat) => ((nthD ((0 : Int), (0 : Int)) l j).fst, (nthD ((0 : Int), (0 : Int)) l j).snd))
 l.length).length :
 Int) ≤
 (60 : Int)))) =
 false →
 l.length = l.length ∧
 (mkN (fun (j : Nat) => ((nthD ((0 : Int), (0 : Int)) l j).fst, (nthD ((0 : Int), (0 : Int)) l j).snd))
 l.length).length ≤
 (1099511627776 : Nat) ∧
 l.length = l.length ∧
 (mkN (fun (j : Nat) => ((nthD ((0 : Int), (0 : Int)) l j).fst, (nthD ((0 : Int), (0 : Int)) l j).snd))
 l.length).length ≤
 (1099511627776 : Nat) ∧
 (AV.rs
 (alL N
 (mkN
 (fun (j : Nat) =>
 ((nthD ((0 : Int), (0 : Int)) l j).fst, (nthD ((0 : Int), (0 : Int)) l j).snd))
 l.length)
 lim)).len =
 (AV.rs
 (alL N
 (mkN
 (fun (j : Nat) =>
 ((nthD ((0 : Int), (0 : Int)) l j).fst, (nthD ((0 : Int), (0 : Int)) l j).snd))
 l.length)
 lim)).len ∧
 (AV.rs
 (alL N
 (mkN
 (fun (j : Nat) =>
 ((nthD ((0 : Int), (0 : Int)) l j).fst, (nthD ((0 : Int), (0 : Int)) l j).snd))
 l.length)
 lim)).len =
 (AV.rs
 (alL N
 (mkN
 (fun (j : Nat) =>
 ((nthD ((0 : Int), (0 : Int)) l j).fst, (nthD ((0 : Int), (0 : Int)) l j).snd))
 l.length)
 lim)).len ∧
 (mkN
 (fun (j : Nat) =>
 mkN
 (fun (i : Nat) =>
 nthD (0 : Int)
 (nthD []
 (alL N
 (mkN
 (fun (j : Nat) =>
 ((nthD ((0 : Int), (0 : Int)) l j).fst,
 (nthD ((0 : Int), (0 : Int)) l j).snd))
 l.length)
 lim)
 j)
 i)
 (nthD []
 (alL N
 (mkN
 (fun (j : Nat) =>
 ((nthD ((0 : Int), (0 : Int)) l j).fst, (nthD ((0 : Int), (0 : Int)) l j).snd))
 l.length)
 lim)
 j).length)
 (AV.rs
 (alL N
 (mkN
 (fun (j : Nat) =>
 ((nthD ((0 : Int), (0 : Int)) l j).fst, (nthD ((0 : Int), (0 : Int)) l j).snd))
 l.length)
 lim)).len).length ≤
 (1099511627776 : Nat) ∧
 (mkN
 (fun (j : Nat) =>
 mkN
 (fun (i : Nat) =>
 nthD (0 : Int)
 (nthD []
 (alL N
 (mkN
 (fun (j : Nat) =>
 ((nthD ((0 : Int), (0 : Int)) l j).fst,
 (nthD ((0 : Int), (0 : Int)) l j).snd))
 l.length)
 lim)
 j)
 i)
 (nthD []
 (alL N
 (mkN
 (fun (j : Nat) =>
 ((nthD ((0 : Int), (0 : Int)) l j).fst,
 (nthD ((0 : Int), (0 : Int)) l j).snd))
 l.length)
 lim)
 j).length)
 (AV.rs
 (alL N
 (mkN
 (fun (j : Nat) =>
 ((nthD ((0 : Int), (0 : Int)) l j).fst, (nthD ((0 : Int), (0 : Int)) l j).snd))
 l.length)
 lim)).len).length ≤
 (1099511627776 : Nat) ∧
 (∀ (j : Nat),
 (nthD []
 (mkN
 (fun (j : Nat) =>
 mkN
 (fun (i : Nat) =>
 nthD (0 : Int)
 (nthD []
 (alL N
 (mkN
 (fun (j : Nat) =>
 ((nthD ((0 : Int), (0 : Int)) l j).fst,
 (nthD ((0 : Int), (0 : Int)) l j).snd))
 l.length)
 lim)
 j)
 i)
 (nthD []
 (alL N
 (mkN
 (fun (j : Nat) =>
 ((nthD ((0 : Int), (0 : Int)) l j).fst,
 (nthD ((0 : Int), (0 : Int)) l j).snd))
 l.length)
 lim)
 j).length)
 (AV.rs
 (alL N
 (mkN
 (fun (j : Nat) =>
 ((nthD ((0 : Int), (0 : Int)) l j).fst,
 (nthD ((0 : Int), (0 : Int)) l j).snd))
 l.length)
 lim)).len)
 j).length ≤
 (1099511627776 : Nat)) ∧
 (∀ (j : Nat),
 (nthD []
 (mkN
 (fun (j : Nat) =>
 mkN
 (fun (i : Nat) =>
 nthD (0 : Int)
 (nthD []
 (alL N
 (mkN
 (fun (j : Nat) =>
 ((nthD ((0 : Int), (0 : Int)) l j).fst,
 (nthD ((0 : Int), (0 : Int)) l j).snd))
 l.length)
 lim)
 j)
 i)
 (nthD []
 (alL N
 (mkN
 (fun (j : Nat) =>
 ((nthD ((0 : Int), (0 : Int)) l j).fst,
 (nthD ((0 : Int), (0 : Int)) l j).snd))
 l.length)
 lim)
 j).length)
 (AV.rs
 (alL N
 (mkN
 (fun (j : Nat) =>
 ((nthD ((0 : Int), (0 : Int)) l j).fst,
 (nthD ((0 : Int), (0 : Int)) l j).snd))
 l.length)
 lim)).len)
 j).length ≤
 (1099511627776 : Nat)) ∧
 (decide
 (mkN
 (fun (j : Nat) =>
 mkN
 (fun (i : Nat) =>
 nthD (0 : Int)
 (nthD []
 (alL N
 (mkN
 (fun (j : Nat) =>
 ((nthD ((0 : Int), (0 : Int)) l j).fst,
 (nthD ((0 : Int), (0 : Int)) l j).snd))
 l.length)
 lim)
 j)
 i)
 (nthD []
 (alL N
 (mkN
 (fun (j : Nat) =>
 ((nthD ((0 : Int), (0 : Int)) l j).fst,
 (nthD ((0 : Int), (0 : Int)) l j).snd))
 l.length)
 lim)
 j).length)
 (AV.rs
 (alL N
 (mkN
 (fun (j : Nat) =>
 ((nthD ((0 : Int), (0 : Int)) l j).fst,
 (nthD ((0 : Int), (0 : Int)) l j).snd))
 l.length)
 lim)).len =
 mkN
 (fun (j : Nat) =>
 mkN
 (fun (i : Nat) =>
 nthD (0 : Int)
 (nthD []
 (alL N
 (mkN
 (fun (j : Nat) =>
 ((nthD ((0 : Int), (0 : Int)) l j).fst,
 (nthD ((0 : Int), (0 : Int)) l j).snd))
 l.length)
 lim)
 j)
 i)
 (nthD []
 (alL N
 (mkN
 (fun (j : Nat) =>
 ((nthD ((0 : Int), (0 : Int)) l j).fst,
 (nthD ((0 : Int), (0 : Int)) l j).snd))
 l.length)
 lim)
 j).length)
 (AV.rs
 (alL N
 (mkN
 (fun (j : Nat) =>
 ((nthD ((0 : Int), (0 : Int)) l j).fst,
 (nthD ((0 : Int), (0 : Int)) l j).snd))
 l.length)
 lim)).len) &&
 alE N
 (mkN
 (fun (j : Nat) =>
 ((nthD ((0 : Int), (0 : Int)) l j).fst, (nthD ((0 : Int), (0 : Int)) l j).snd))
 l.length)
 lim ==
 alE N
 (mkN
 (fun (j : Nat) =>
 ((nthD ((0 : Int), (0 : Int)) l j).fst, (nthD ((0 : Int), (0 : Int)) l j).snd))
 l.length)
 lim) =
 true)) := by kernel_rfl
theorem v4 (N : Int) (l : List Pq) (lim : Int)  : fnVc (tab [kFew [], kAwk [], kAll [], kAll' [], kLsts []] []) Try.f4 [rlV N 0 l, .i .i64 lim] [arP l] (plainIs .tt) := by
  rw [v4_eq]
  simp only [eq_self, true_and, and_true, implies_true, imp_self, mkN_ps, mkN_rs, mkN_self, mkN_len, PLoop.of, lCnt, AV.len, lEx, Nat.zero_add]
  intro h
  have := few_t h
  obtain ⟨h1, h2⟩ := al_len (N := N) (l := l) (lim := lim)
  exact ⟨by omega, by omega, by omega, by omega, fun j => by have := h2 j; omega, fun j => by have := h2 j; omega, by simp⟩

end Go.Proofs.Ytiokmglajigngaa
