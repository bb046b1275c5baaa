/-
  The linext layer: All, Lists: what is computed.
-/
import Derived.Test.YtiokmglajigngaaW17
namespace Go.Proofs.Ytiokmglajigngaa
open Go Go.Proofs.Ytiokmglajigngaa.Sx
set_option maxRecDepth 100000
set_option linter.unusedSimpArgs false
set_option linter.unusedVariables false
theorem mkN_ap {l : List Int} {x : Int} {n : Nat} (hn : l.length = n) : mkN (fun j => bif Nat.blt j n then nthD 0 l j else pickI [x] (j - n)) (n + 1) = l ++ [x] := by
  subst hn
  apply List.ext_getElem
  · simp
  · intro j h1 h2
    have h3 : j < l.length + 1 := by simpa using h1
    rw [← nthD_get 0 _ _ h1, ← nthD_get 0 _ _ h2, nthD_mkN _ _ h3]
    exact ap1I j h2
theorem rowsG_self {X : List (List Int)} : rowsG (fun j i => nthD 0 (nthD [] X j) i) (fun j => (nthD [] X j).length) X.length = X := mkN_rs _
theorem rowsG_len {g2 : Nat → Nat → Int} {len : Nat → Nat} {k : Nat} : (rowsG g2 len k).length = k := mkN_len _ _
theorem rowsG_nth {g2 : Nat → Nat → Int} {len : Nat → Nat} {k j : Nat} (h : j < k) : nthD [] (rowsG g2 len k) j = mkN (g2 j) (len j) := nthD_mkN _ _ h
theorem nxtK_step {l : List Pq} {P : List Int} {k : Nat} : nxtK l P (k + 1) = nxtK l P k ++ bif okN l P k then [(k : Int)] else [] := by
  rw [nxtK, nxtK, List.range_succ, List.filter_append, List.map_append]
  congr 1
  cases h : okN l P k <;> simp [h]
theorem extP_full {N : Int} {l : List Pq} {P : List Int} (h : P.length = N.toNat) : extP N l P = [P] := by
  rw [extP, h, Nat.sub_self, extN]
theorem extP_step {N : Int} {l : List Pq} {P : List Int} (h : P.length < N.toNat) : extP N l P = (nxtL N l P).flatMap (fun x => extP N l (P ++ [x])) := by
  obtain ⟨m, hm⟩ : ∃ m, N.toNat - P.length = m + 1 := ⟨N.toNat - P.length - 1, by omega⟩
  have e : ∀ x : Int, N.toNat - (P ++ [x]).length = m := fun x => by rw [List.length_append, List.length_singleton]; omega
  rw [extP, hm, extN]
  simp only [extP, e]
theorem vsK_zero {N : Int} {l : List Pq} {P : List Int} {L : List (List Int)} : vsK N l P L 0 = L := by
  have : nxtK l P 0 = [] := rfl
  rw [vsK, this, List.flatMap_nil, List.append_nil]
theorem vsK_step {N : Int} {l : List Pq} {P : List Int} {L : List (List Int)} {k : Nat} : vsK N l P L (k + 1) = vsK N l P L k ++ bif okN l P k then extP N l (P ++ [(k : Int)]) else [] := by
  rw [vsK, vsK, nxtK_step, List.flatMap_append, ← List.append_assoc]
  congr 1
  cases okN l P k <;> simp
theorem vsK_all {N : Int} {l : List Pq} {P : List Int} {L : List (List Int)} (h : P.length < N.toNat) : vsK N l P L N.toNat = L ++ extP N l P := by rw [extP_step h]; rfl
theorem vsK_pre {N : Int} {l : List Pq} {P : List Int} {L : List (List Int)} {k : Nat} : ∀ {j : Nat}, k ≤ j → ∃ t, vsK N l P L j = vsK N l P L k ++ t := by
  intro j h
  induction h with
  | refl => exact ⟨[], by simp⟩
  | @step j _ ih =>
    obtain ⟨t, ht⟩ := ih
    rw [vsK_step, ht, List.append_assoc]
    exact ⟨_, rfl⟩
theorem vsL_all {N : Int} {l : List Pq} {lim : Int} {P : List Int} {L : List (List Int)} (h : vsB N l lim P L = true) : vsL N l lim P L = L ++ extP N l P := by
  have h : (L ++ extP N l P).length ≤ lim.toNat := Nat.le_of_ble_eq_true h
  exact List.take_of_length_le (by omega)
/-- A visit that may not go on has told the end. -/
theorem vs_end {N : Int} {l : List Pq} {lim : Int} {P : List Int} {L : List (List Int)} {x : Nat} (hP : P.length < N.toNat) (hx : x < N.toNat) (ho : okN l P x = true) (h : vsB N l lim (P ++ [(x : Int)]) (vsK N l P L x) = false) :
    vsB N l lim P L = false ∧ vsL N l lim (P ++ [(x : Int)]) (vsK N l P L x) = vsL N l lim P L := by
  have h1 : ¬ (vsK N l P L x ++ extP N l (P ++ [(x : Int)])).length ≤ lim.toNat := fun hle => by rw [vsB, Nat.ble_eq_true_of_le hle] at h; cases h
  have hs : vsK N l P L (x + 1) = vsK N l P L x ++ extP N l (P ++ [(x : Int)]) := by rw [vsK_step, ho]; rfl
  obtain ⟨t, ht⟩ := vsK_pre (N := N) (l := l) (P := P) (L := L) (k := x + 1) (j := N.toNat) hx
  rw [vsK_all hP, hs] at ht
  constructor
  · cases hb : vsB N l lim P L
    · rfl
    · have := Nat.le_of_ble_eq_true hb
      rw [ht, List.length_append] at this
      omega
  · rw [vsL, vsL, ht, List.take_append_of_le_length (l₂ := t) (by omega)]
theorem v40_eq (P : List Int) : (fnVc (tab [] []) Try.f40 [.sl 0 P.length] [arI P] (resIs (.sl 0 P.length) 3 P.length (isCols P))) = ((0 : Nat) < P.length ∧
 (0 : Nat) = (0 : Nat) ∧
 P.length = P.length ∧
 ((0 : Nat) + P.length) * (8 : Nat) ≤ (140737488355328 : Nat) ∧
 (0 : Nat) + P.length ≤ (9223372036854775807 : Nat) ∧
 (0 : Nat) + P.length = P.length ∧
 ((∀ (j : Nat), j < P.length → nthD (0 : Int) P j = nthD (0 : Int) P j) ∧ True) ∧
 (0 : Nat) + P.length = P.length) := by kernel_rfl
theorem v40 (P : List Int) (h : 0 < P.length) (hl : L9 P) : fnVc (tab [] []) Try.f40 [.sl 0 P.length] [arI P] (resIs (.sl 0 P.length) 3 P.length (isCols P)) := by
  rw [v40_eq]
  simp only [eq_self, true_and, and_true, implies_true, imp_self, mkN_ps, mkN_rs, mkN_self, mkN_len, PLoop.of, lCnt, AV.len, lAl]
  have hl : P.length ≤ 1099511627776 := hl
  exact ⟨h, by omega, by omega, by omega, by omega⟩
theorem v39_eq (N : Int) (l : List Pq) (lim : Int) (F : Nat) (g : Nat → Int) (n : Nat) (g2 : Nat → Nat → Int) (len : Nat → Nat) (k : Nat) (x : Nat → Option Addr × Nat) : (fnVc (tabA N l lim F [(0, .of (lAl N l lim (mkN g n) (rowsG g2 len k)))] (pinsOf x [5, 7] 8)) Try.f39 (visVA (maskM (mkN g n))) (visMA N lim (befL N.toNat l) g n g2 len k) (visPostA N lim (befL N.toNat l) (mkN g n) (vsL N l lim (mkN g n) (rowsG g2 len k)) (vsB N l lim (mkN g n) (rowsG g2 len k)))) = ((((↑n : Int) == N) = true →
 n = n ∧
 (mkN g n).length ≤ (1099511627776 : Nat) ∧
 (0 : Nat) < (mkN g n).length ∧
 (AV.is (mkN g n)).len = (AV.is (mkN g n)).len ∧
 k = k ∧
 (1 : Nat) = (1 : Nat) ∧
 (k + (1 : Nat)) * (24 : Nat) ≤ (140737488355328 : Nat) ∧
 k + (1 : Nat) ≤ (9223372036854775807 : Nat) ∧
 decide ((↑(k + (1 : Nat)) : Int) ≤ lim) = vsB N l lim (mkN g n) (rowsG g2 len k) ∧
 n = (mkN g n).length ∧
 (N = N ∧ (befL N.toNat l).length = (befL N.toNat l).length) ∧
 k + (1 : Nat) = (vsL N l lim (mkN g n) (rowsG g2 len k)).length ∧
 lim = lim ∧
 (True ∧ True ∧ True ∧ True ∧ True) ∧
 (n = (mkN g n).length ∧
 (∀ (j : Nat), j < (mkN g n).length → g j = nthD (0 : Int) (mkN g n) j) ∧ True) ∧
 ((befL N.toNat l).length = (befL N.toNat l).length ∧
 (∀ (j : Nat),
 j < (befL N.toNat l).length →
 nthD (0 : Int) (befL N.toNat l) j = nthD (0 : Int) (befL N.toNat l) j) ∧
 True) ∧
 (k + (1 : Nat) = (vsL N l lim (mkN g n) (rowsG g2 len k)).length ∧
 ((∀ (j : Nat),
 j < (vsL N l lim (mkN g n) (rowsG g2 len k)).length →
 (bif j.blt k then len j else (AV.is (mkN g n)).len) =
 (nthD [] (vsL N l lim (mkN g n) (rowsG g2 len k)) j).length) ∧
 (∀ (j : Nat),
 j < (vsL N l lim (mkN g n) (rowsG g2 len k)).length →
 ∀ (i : Nat),
 i < (nthD [] (vsL N l lim (mkN g n) (rowsG g2 len k)) j).length →
 (bif j.blt k then g2 j else nthD (0 : Int) (mkN g n)) i =
 nthD (0 : Int)
 (nthD [] (vsL N l lim (mkN g n) (rowsG g2 len k)) j) i) ∧
 True) ∧
 True) ∧
 True) ∧
 (((↑n : Int) == N) = false →
 ∃ (x : PUnit),
 (∃ (x : Nat),
 (x ≤ N.toNat ∧ (↑(vsK N l (mkN g n) (rowsG g2 len k) x).length : Int) ≤ lim ∧ (mkN g n).length < N.toNat) ∧
 ((0 : Int) = (↑x : Int) ∧ True) ∧
 n = (mkN g n).length ∧
 (n = (mkN g n).length ∧ (∀ (j : Nat), j < (mkN g n).length → g j = nthD (0 : Int) (mkN g n) j) ∧ True) ∧
 k = (vsK N l (mkN g n) (rowsG g2 len k) x).length ∧
 (k = (vsK N l (mkN g n) (rowsG g2 len k) x).length ∧
 ((∀ (j : Nat),
 j < (vsK N l (mkN g n) (rowsG g2 len k) x).length →
 len j = (nthD [] (vsK N l (mkN g n) (rowsG g2 len k) x) j).length) ∧
 (∀ (j : Nat),
 j < (vsK N l (mkN g n) (rowsG g2 len k) x).length →
 ∀ (i : Nat),
 i < (nthD [] (vsK N l (mkN g n) (rowsG g2 len k) x) j).length →
 g2 j i = nthD (0 : Int) (nthD [] (vsK N l (mkN g n) (rowsG g2 len k) x) j) i) ∧
 True) ∧
 True) ∧
 True) ∧
 ∀ (x_1 : Nat),
 x_1 ≤ N.toNat ∧ (↑(vsK N l (mkN g n) (rowsG g2 len k) x_1).length : Int) ≤ lim ∧ (mkN g n).length < N.toNat →
 (decide ((↑x_1 : Int) < N) = true →
 (befL N.toNat l).length = (befL N.toNat l).length ∧
 mkN (nthD (0 : Int) (befL N.toNat l)) (befL N.toNat l).length = befL N.toNat l ∧
 ((0 : Int) ≤ (↑x_1 : Int) ∧ (↑x_1 : Int) < (64 : Int)) ∧
 (↑x_1 : Int) + (1 : Int) ≤ (↑(befL N.toNat l).length : Int) ∧
 ((!frR (befL N.toNat l) (↑(maskM (mkN g n)) : Int) (↑x_1 : Int)) = true →
 ∃ (x_2 : Nat),
 (x_2 ≤ N.toNat ∧
 (↑(vsK N l (mkN g n) (rowsG g2 len k) x_2).length : Int) ≤ lim ∧
 (mkN g n).length < N.toNat) ∧
 ((PLoop.of (lAl N l lim (mkN g n) (rowsG g2 len k))).ann x).mu x_2 <
 ((PLoop.of (lAl N l lim (mkN g n) (rowsG g2 len k))).ann x).mu x_1 ∧
 ((↑(maskM (mkN g n)) : Int) = (↑(maskM (mkN g n)) : Int) ∧
 True ∧
 True ∧
 True ∧
 True ∧
 True ∧
 (↑n : Int) = (↑n : Int) ∧
 True ∧
 N = N ∧
 false = false ∧
 True ∧
 N = N ∧
 IntKind.i64.wrap ((↑x_1 : Int) + (1 : Int)) = (↑x_2 : Int) ∧
 True) ∧
 (mkN g n).length = (mkN g n).length ∧
 (N = N ∧ (befL N.toNat l).length = (befL N.toNat l).length) ∧
 (vsK N l (mkN g n) (rowsG g2 len k) x_1).length =
 (vsK N l (mkN g n) (rowsG g2 len k) x_2).length ∧
 lim = lim ∧
 (True ∧ True ∧ True ∧ True ∧ True) ∧
 ((mkN g n).length = (mkN g n).length ∧
 (∀ (j : Nat),
 j < (mkN g n).length →
 nthD (0 : Int) (mkN g n) j = nthD (0 : Int) (mkN g n) j) ∧
 True) ∧
 ((befL N.toNat l).length = (befL N.toNat l).length ∧
 (∀ (j : Nat),
 j < (befL N.toNat l).length →
 nthD (0 : Int) (befL N.toNat l) j =
 nthD (0 : Int) (befL N.toNat l) j) ∧
 True) ∧
 ((vsK N l (mkN g n) (rowsG g2 len k) x_1).length =
 (vsK N l (mkN g n) (rowsG g2 len k) x_2).length ∧
 ((∀ (j : Nat),
 j < (vsK N l (mkN g n) (rowsG g2 len k) x_2).length →
 (nthD [] (vsK N l (mkN g n) (rowsG g2 len k) x_1)
 j).length =
 (nthD [] (vsK N l (mkN g n) (rowsG g2 len k) x_2)
 j).length) ∧
 (∀ (j : Nat),
 j < (vsK N l (mkN g n) (rowsG g2 len k) x_2).length →
 ∀ (i : Nat),
 i <
 (nthD [] (vsK N l (mkN g n) (rowsG g2 len k) x_2)
 j).length →
 nthD (0 : Int)
 (nthD []
 (vsK N l (mkN g n) (rowsG g2 len k) x_1) j)
 i =
 nthD (0 : Int)
 (nthD []
 (vsK N l (mkN g n) (rowsG g2 len k) x_2) j)
 i) ∧
 True) ∧
 True) ∧
 True) ∧
 ((!frR (befL N.toNat l) (↑(maskM (mkN g n)) : Int) (↑x_1 : Int)) = false →
 (mkN g n).length = (mkN g n).length ∧
 (1 : Nat) = (1 : Nat) ∧
 ((mkN g n).length + (1 : Nat)) * (8 : Nat) ≤ (140737488355328 : Nat) ∧
 (mkN g n).length + (1 : Nat) ≤ (9223372036854775807 : Nat) ∧
 ((0 : Int) ≤ (↑x_1 : Int) ∧ (↑x_1 : Int) ≤ (↑IntKind.u64.bits : Int)) ∧
 (mkN g n).length + (1 : Nat) = (mkN g n).length + (1 : Nat) ∧
 (vsK N l (mkN g n) (rowsG g2 len k) x_1).length =
 (vsK N l (mkN g n) (rowsG g2 len k) x_1).length ∧
 (befL N.toNat l).length = (befL N.toNat l).length ∧
 (befL N.toNat l).length = (befL N.toNat l).length ∧
 nthD (0 : Int) (befL N.toNat l) = nthD (0 : Int) (befL N.toNat l) ∧
 N = N ∧
 lim = lim ∧
 bits BinOp.or IntKind.u64 (↑(maskM (mkN g n)) : Int)
 (IntKind.u64.wrap ((1 : Int) * (2 : Int) ^ x_1)) =
 (↑(maskM
 (mkN
 (fun (j : Nat) =>
 bif j.blt (mkN g n).length then
 nthD (0 : Int) (mkN g n) j
 else pickI [(↑x_1 : Int)] (j - (mkN g n).length))
 ((mkN g n).length + (1 : Nat)))) :
 Int) ∧
 (∀ (y : Int),
 List.Mem y
 (mkN
 (fun (j : Nat) =>
 bif j.blt (mkN g n).length then
 nthD (0 : Int) (mkN g n) j
 else pickI [(↑x_1 : Int)] (j - (mkN g n).length))
 ((mkN g n).length + (1 : Nat))) →
 (0 : Int) ≤ y ∧ y < N) ∧
 (mkN
 (fun (j : Nat) =>
 bif j.blt (mkN g n).length then
 nthD (0 : Int) (mkN g n) j
 else pickI [(↑x_1 : Int)] (j - (mkN g n).length))
 ((mkN g n).length + (1 : Nat))).length ≤
 N.toNat ∧
 (0 : Nat) < N.toNat ∧
 N.toNat <
 (mkN
 (fun (j : Nat) =>
 bif j.blt (mkN g n).length then
 nthD (0 : Int) (mkN g n) j
 else
 pickI [(↑x_1 : Int)] (j - (mkN g n).length))
 ((mkN g n).length + (1 : Nat))).length +
 F ∧
 (↑(rowsG
 (fun (j i : Nat) =>
 nthD (0 : Int)
 (nthD []
 (vsK N l (mkN g n) (rowsG g2 len k) x_1)
 j)
 i)
 (fun (j : Nat) =>
 (nthD []
 (vsK N l (mkN g n) (rowsG g2 len k) x_1)
 j).length)
 (vsK N l (mkN g n) (rowsG g2 len k)
 x_1).length).length :
 Int) ≤
 lim ∧
 (mkN
 (fun (j : Nat) =>
 bif j.blt (mkN g n).length then
 nthD (0 : Int) (mkN g n) j
 else
 pickI [(↑x_1 : Int)] (j - (mkN g n).length))
 ((mkN g n).length + (1 : Nat))).length =
 (mkN
 (fun (j : Nat) =>
 bif j.blt (mkN g n).length then
 nthD (0 : Int) (mkN g n) j
 else
 pickI [(↑x_1 : Int)] (j - (mkN g n).length))
 ((mkN g n).length + (1 : Nat))).length ∧
 (0 : Int) ≤
 IntKind.i64.wrap
 ((↑(mkN
 (fun (j : Nat) =>
 bif j.blt (mkN g n).length then
 nthD (0 : Int) (mkN g n) j
 else
 pickI [(↑x_1 : Int)]
 (j - (mkN g n).length))
 ((mkN g n).length +
 (1 : Nat))).length :
 Int) -
 (1 : Int)) ∧
 IntKind.i64.wrap
 ((↑(mkN
 (fun (j : Nat) =>
 bif j.blt (mkN g n).length then
 nthD (0 : Int) (mkN g n) j
 else
 pickI [(↑x_1 : Int)]
 (j - (mkN g n).length))
 ((mkN g n).length +
 (1 : Nat))).length :
 Int) -
 (1 : Int)) ≤
 (↑(mkN
 (fun (j : Nat) =>
 bif j.blt (mkN g n).length then
 nthD (0 : Int) (mkN g n) j
 else
 pickI [(↑x_1 : Int)]
 (j - (mkN g n).length))
 ((mkN g n).length + (1 : Nat))).length :
 Int) ∧
 ((!vsB N l lim
 (mkN
 (fun (j : Nat) =>
 bif j.blt (mkN g n).length then
 nthD (0 : Int) (mkN g n) j
 else
 pickI [(↑x_1 : Int)]
 (j - (mkN g n).length))
 ((mkN g n).length + (1 : Nat)))
 (rowsG
 (fun (j i : Nat) =>
 nthD (0 : Int)
 (nthD []
 (vsK N l (mkN g n)
 (rowsG g2 len k) x_1)
 j)
 i)
 (fun (j : Nat) =>
 (nthD []
 (vsK N l (mkN g n)
 (rowsG g2 len k) x_1)
 j).length)
 (vsK N l (mkN g n) (rowsG g2 len k)
 x_1).length)) =
 true →
 false =
 vsB N l lim (mkN g n) (rowsG g2 len k) ∧
 (IntKind.i64.wrap
 ((↑(mkN
 (fun (j : Nat) =>
 bif
 j.blt
 (mkN g
 n).length then
 nthD (0 : Int)
 (mkN g n) j
 else
 pickI [(↑x_1 : Int)]
 (j -
 (mkN g n).length))
 ((mkN g n).length +
 (1 : Nat))).length :
 Int) -
 (1 : Int))).toNat =
 (mkN g n).length ∧
 (N = N ∧
 (befL N.toNat l).length =
 (befL N.toNat l).length) ∧
 (vsL N l lim
 (mkN
 (fun (j : Nat) =>
 bif
 j.blt
 (mkN g n).length then
 nthD (0 : Int) (mkN g n) j
 else
 pickI [(↑x_1 : Int)]
 (j - (mkN g n).length))
 ((mkN g n).length +
 (1 : Nat)))
 (rowsG
 (fun (j i : Nat) =>
 nthD (0 : Int)
 (nthD []
 (vsK N l (mkN g n)
 (rowsG g2 len k) x_1)
 j)
 i)
 (fun (j : Nat) =>
 (nthD []
 (vsK N l (mkN g n)
 (rowsG g2 len k) x_1)
 j).length)
 (vsK N l (mkN g n)
 (rowsG g2 len k)
 x_1).length)).length =
 (vsL N l lim (mkN g n)
 (rowsG g2 len k)).length ∧
 lim = lim ∧
 (True ∧ True ∧ True ∧ True ∧ True) ∧
 ((IntKind.i64.wrap
 ((↑(mkN
 (fun
 (j :
 Nat) =>
 bif
 j.blt
 (mkN g
 n).length then
 nthD
 (0 :
 Int)
 (mkN g
 n)
 j
 else
 pickI
 [(↑x_1 :
 Int)]
 (j -
 (mkN g
 n).length))
 ((mkN g
 n).length +
 (1 :
 Nat))).length :
 Int) -
 (1 : Int))).toNat =
 (mkN g n).length ∧
 (∀ (j : Nat),
 j < (mkN g n).length →
 nthD (0 : Int)
 (mkN
 (fun (j : Nat) =>
 bif
 j.blt
 (mkN g
 n).length then
 nthD (0 : Int)
 (mkN g n) j
 else
 pickI
 [(↑x_1 :
 Int)]
 (j -
 (mkN g
 n).length))
 ((mkN g
 n).length +
 (1 : Nat)))
 j =
 nthD (0 : Int)
 (mkN g n) j) ∧
 True) ∧
 ((befL N.toNat l).length =
 (befL N.toNat l).length ∧
 (∀ (j : Nat),
 j <
 (befL N.toNat
 l).length →
 nthD (0 : Int)
 (befL N.toNat l)
 j =
 nthD (0 : Int)
 (befL N.toNat l)
 j) ∧
 True) ∧
 ((vsL N l lim
 (mkN
 (fun (j : Nat) =>
 bif
 j.blt
 (mkN g
 n).length then
 nthD (0 : Int)
 (mkN g n) j
 else
 pickI
 [(↑x_1 :
 Int)]
 (j -
 (mkN g
 n).length))
 ((mkN g
 n).length +
 (1 : Nat)))
 (rowsG
 (fun
 (j i : Nat) =>
 nthD (0 : Int)
 (nthD []
 (vsK N l
 (mkN g n)
 (rowsG g2
 len k)
 x_1)
 j)
 i)
 (fun (j : Nat) =>
 (nthD []
 (vsK N l
 (mkN g n)
 (rowsG g2
 len k)
 x_1)
 j).length)
 (vsK N l (mkN g n)
 (rowsG g2 len
 k)
 x_1).length)).length =
 (vsL N l lim (mkN g n)
 (rowsG g2 len
 k)).length ∧
 ((∀ (j : Nat),
 j <
 (vsL N l lim
 (mkN g n)
 (rowsG g2
 len
 k)).length →
 (nthD []
 (vsL N l lim
 (mkN
 (fun
 (j :
 Nat) =>
 bif
 j.blt
 (mkN
 g
 n).length then
 nthD
 (0 :
 Int)
 (mkN
 g
 n)
 j
 else
 pickI
 [(↑x_1 :
 Int)]
 (j -
 (mkN
 g
 n).length))
 ((mkN g
 n).length +
 (1 :
 Nat)))
 (rowsG
 (fun
 (j
 i :
 Nat) =>
 nthD
 (0 :
 Int)
 (nthD
 []
 (vsK
 N
 l
 (mkN
 g
 n)
 (rowsG
 g2
 len
 k)
 x_1)
 j)
 i)
 (fun
 (j :
 Nat) =>
 (nthD
 []
 (vsK
 N
 l
 (mkN
 g
 n)
 (rowsG
 g2
 len
 k)
 x_1)
 j).length)
 (vsK N l
 (mkN
 g
 n)
 (rowsG
 g2
 len
 k)
 x_1).length))
 j).length =
 (nthD []
 (vsL N l lim
 (mkN g n)
 (rowsG g2
 len k))
 j).length) ∧
 (∀ (j : Nat),
 j <
 (vsL N l lim
 (mkN g n)
 (rowsG g2
 len
 k)).length →
 ∀ (i : Nat),
 i <
 (nthD []
 (vsL N
 l
 lim
 (mkN
 g
 n)
 (rowsG
 g2
 len
 k))
 j).length →
 nthD
 (0 :
 Int)
 (nthD []
 (vsL N
 l
 lim
 (mkN
 (fun
 (j :
 Nat) =>
 bif
 j.blt
 (mkN
 g
 n).length then
 nthD
 (0 :
 Int)
 (mkN
 g
 n)
 j
 else
 pickI
 [(↑x_1 :
 Int)]
 (j -
 (mkN
 g
 n).length))
 ((mkN
 g
 n).length +
 (1 :
 Nat)))
 (rowsG
 (fun
 (j
 i :
 Nat) =>
 nthD
 (0 :
 Int)
 (nthD
 []
 (vsK
 N
 l
 (mkN
 g
 n)
 (rowsG
 g2
 len
 k)
 x_1)
 j)
 i)
 (fun
 (j :
 Nat) =>
 (nthD
 []
 (vsK
 N
 l
 (mkN
 g
 n)
 (rowsG
 g2
 len
 k)
 x_1)
 j).length)
 (vsK
 N
 l
 (mkN
 g
 n)
 (rowsG
 g2
 len
 k)
 x_1).length))
 j)
 i =
 nthD
 (0 :
 Int)
 (nthD []
 (vsL N
 l
 lim
 (mkN
 g
 n)
 (rowsG
 g2
 len
 k))
 j)
 i) ∧
 True) ∧
 True) ∧
 True) ∧
 ((!vsB N l lim
 (mkN
 (fun (j : Nat) =>
 bif j.blt (mkN g n).length then
 nthD (0 : Int) (mkN g n) j
 else
 pickI [(↑x_1 : Int)]
 (j - (mkN g n).length))
 ((mkN g n).length + (1 : Nat)))
 (rowsG
 (fun (j i : Nat) =>
 nthD (0 : Int)
 (nthD []
 (vsK N l (mkN g n)
 (rowsG g2 len k) x_1)
 j)
 i)
 (fun (j : Nat) =>
 (nthD []
 (vsK N l (mkN g n)
 (rowsG g2 len k) x_1)
 j).length)
 (vsK N l (mkN g n) (rowsG g2 len k)
 x_1).length)) =
 false →
 ∃ (x_2 : Nat),
 (x_2 ≤ N.toNat ∧
 (↑(vsK N l (mkN g n) (rowsG g2 len k)
 x_2).length :
 Int) ≤
 lim ∧
 (mkN g n).length < N.toNat) ∧
 ((PLoop.of
 (lAl N l lim (mkN g n)
 (rowsG g2 len k))).ann
 x).mu
 x_2 <
 ((PLoop.of
 (lAl N l lim (mkN g n)
 (rowsG g2 len k))).ann
 x).mu
 x_1 ∧
 ((↑(maskM (mkN g n)) : Int) =
 (↑(maskM (mkN g n)) : Int) ∧
 True ∧
 True ∧
 True ∧
 True ∧
 True ∧
 (↑n : Int) = (↑n : Int) ∧
 True ∧
 N = N ∧
 false = false ∧
 True ∧
 N = N ∧
 IntKind.i64.wrap
 ((↑x_1 :
 Int) +
 (1 :
 Int)) =
 (↑x_2 :
 Int) ∧
 True) ∧
 (IntKind.i64.wrap
 ((↑(mkN
 (fun (j : Nat) =>
 bif
 j.blt
 (mkN g
 n).length then
 nthD (0 : Int)
 (mkN g n) j
 else
 pickI
 [(↑x_1 : Int)]
 (j -
 (mkN g
 n).length))
 ((mkN g n).length +
 (1 :
 Nat))).length :
 Int) -
 (1 : Int))).toNat =
 (mkN g n).length ∧
 (N = N ∧
 (befL N.toNat l).length =
 (befL N.toNat l).length) ∧
 (vsL N l lim
 (mkN
 (fun (j : Nat) =>
 bif
 j.blt
 (mkN g
 n).length then
 nthD (0 : Int)
 (mkN g n) j
 else
 pickI [(↑x_1 : Int)]
 (j -
 (mkN g
 n).length))
 ((mkN g n).length +
 (1 : Nat)))
 (rowsG
 (fun (j i : Nat) =>
 nthD (0 : Int)
 (nthD []
 (vsK N l (mkN g n)
 (rowsG g2 len k)
 x_1)
 j)
 i)
 (fun (j : Nat) =>
 (nthD []
 (vsK N l (mkN g n)
 (rowsG g2 len k)
 x_1)
 j).length)
 (vsK N l (mkN g n)
 (rowsG g2 len k)
 x_1).length)).length =
 (vsK N l (mkN g n)
 (rowsG g2 len k)
 x_2).length ∧
 lim = lim ∧
 (True ∧
 True ∧
 True ∧ True ∧ True) ∧
 ((IntKind.i64.wrap
 ((↑(mkN
 (fun
 (j :
 Nat) =>
 bif
 j.blt
 (mkN
 g
 n).length then
 nthD
 (0 :
 Int)
 (mkN
 g
 n)
 j
 else
 pickI
 [(↑x_1 :
 Int)]
 (j -
 (mkN
 g
 n).length))
 ((mkN g
 n).length +
 (1 :
 Nat))).length :
 Int) -
 (1 :
 Int))).toNat =
 (mkN g n).length ∧
 (∀ (j : Nat),
 j <
 (mkN g
 n).length →
 nthD (0 : Int)
 (mkN
 (fun
 (j :
 Nat) =>
 bif
 j.blt
 (mkN
 g
 n).length then
 nthD
 (0 :
 Int)
 (mkN g
 n)
 j
 else
 pickI
 [(↑x_1 :
 Int)]
 (j -
 (mkN
 g
 n).length))
 ((mkN g
 n).length +
 (1 :
 Nat)))
 j =
 nthD (0 : Int)
 (mkN g n) j) ∧
 True) ∧
 ((befL N.toNat l).length =
 (befL N.toNat
 l).length ∧
 (∀ (j : Nat),
 j <
 (befL N.toNat
 l).length →
 nthD (0 : Int)
 (befL
 N.toNat l)
 j =
 nthD (0 : Int)
 (befL
 N.toNat l)
 j) ∧
 True) ∧
 ((vsL N l lim
 (mkN
 (fun
 (j :
 Nat) =>
 bif
 j.blt
 (mkN
 g
 n).length then
 nthD
 (0 :
 Int)
 (mkN g
 n)
 j
 else
 pickI
 [(↑x_1 :
 Int)]
 (j -
 (mkN
 g
 n).length))
 ((mkN g
 n).length +
 (1 :
 Nat)))
 (rowsG
 (fun
 (j i :
 Nat) =>
 nthD
 (0 :
 Int)
 (nthD []
 (vsK N
 l
 (mkN
 g
 n)
 (rowsG
 g2
 len
 k)
 x_1)
 j)
 i)
 (fun
 (j :
 Nat) =>
 (nthD []
 (vsK N
 l
 (mkN
 g
 n)
 (rowsG
 g2
 len
 k)
 x_1)
 j).length)
 (vsK N l
 (mkN g
 n)
 (rowsG
 g2 len
 k)
 x_1).length)).length =
 (vsK N l (mkN g n)
 (rowsG g2 len
 k)
 x_2).length ∧
 ((∀ (j : Nat),
 j <
 (vsK N l
 (mkN g
 n)
 (rowsG
 g2
 len
 k)
 x_2).length →
 (nthD []
 (vsL N
 l
 lim
 (mkN
 (fun
 (j :
 Nat) =>
 bif
 j.blt
 (mkN
 g
 n).length then
 nthD
 (0 :
 Int)
 (mkN
 g
 n)
 j
 else
 pickI
 [(↑x_1 :
 Int)]
 (j -
 (mkN
 g
 n).length))
 ((mkN
 g
 n).length +
 (1 :
 Nat)))
 (rowsG
 (fun
 (j
 i :
 Nat) =>
 nthD
 (0 :
 Int)
 (nthD
 []
 (vsK
 N
 l
 (mkN
 g
 n)
 (rowsG
 g2
 len
 k)
 x_1)
 j)
 i)
 (fun
 (j :
 Nat) =>
 (nthD
 []
 (vsK
 N
 l
 (mkN
 g
 n)
 (rowsG
 g2
 len
 k)
 x_1)
 j).length)
 (vsK
 N
 l
 (mkN
 g
 n)
 (rowsG
 g2
 len
 k)
 x_1).length))
 j).length =
 (nthD []
 (vsK N
 l
 (mkN
 g
 n)
 (rowsG
 g2
 len
 k)
 x_2)
 j).length) ∧
 (∀ (j : Nat),
 j <
 (vsK N l
 (mkN
 g
 n)
 (rowsG
 g2
 len
 k)
 x_2).length →
 ∀
 (i :
 Nat),
 i <
 (nthD
 []
 (vsK
 N
 l
 (mkN
 g
 n)
 (rowsG
 g2
 len
 k)
 x_2)
 j).length →
 nthD
 (0 :
 Int)
 (nthD
 []
 (vsL
 N
 l
 lim
 (mkN
 (fun
 (j :
 Nat) =>
 bif
 j.blt
 (mkN
 g
 n).length then
 nthD
 (0 :
 Int)
 (mkN
 g
 n)
 j
 else
 pickI
 [(↑x_1 :
 Int)]
 (j -
 (mkN
 g
 n).length))
 ((mkN
 g
 n).length +
 (1 :
 Nat)))
 (rowsG
 (fun
 (j
 i :
 Nat) =>
 nthD
 (0 :
 Int)
 (nthD
 []
 (vsK
 N
 l
 (mkN
 g
 n)
 (rowsG
 g2
 len
 k)
 x_1)
 j)
 i)
 (fun
 (j :
 Nat) =>
 (nthD
 []
 (vsK
 N
 l
 (mkN
 g
 n)
 (rowsG
 g2
 len
 k)
 x_1)
 j).length)
 (vsK
 N
 l
 (mkN
 g
 n)
 (rowsG
 g2
 len
 k)
 x_1).length))
 j)
 i =
 nthD
 (0 :
 Int)
 (nthD
 []
 (vsK
 N
 l
 (mkN
 g
 n)
 (rowsG
 g2
 len
 k)
 x_2)
 j)
 i) ∧
 True) ∧
 True) ∧
 True))) ∧
 (decide ((↑x_1 : Int) < N) = false →
 true = vsB N l lim (mkN g n) (rowsG g2 len k) ∧
 (mkN g n).length = (mkN g n).length ∧
 (N = N ∧ (befL N.toNat l).length = (befL N.toNat l).length) ∧
 (vsK N l (mkN g n) (rowsG g2 len k) x_1).length =
 (vsL N l lim (mkN g n) (rowsG g2 len k)).length ∧
 lim = lim ∧
 (True ∧ True ∧ True ∧ True ∧ True) ∧
 ((mkN g n).length = (mkN g n).length ∧
 (∀ (j : Nat),
 j < (mkN g n).length → nthD (0 : Int) (mkN g n) j = nthD (0 : Int) (mkN g n) j) ∧
 True) ∧
 ((befL N.toNat l).length = (befL N.toNat l).length ∧
 (∀ (j : Nat),
 j < (befL N.toNat l).length →
 nthD (0 : Int) (befL N.toNat l) j = nthD (0 : Int) (befL N.toNat l) j) ∧
 True) ∧
 ((vsK N l (mkN g n) (rowsG g2 len k) x_1).length =
 (vsL N l lim (mkN g n) (rowsG g2 len k)).length ∧
 ((∀ (j : Nat),
 j < (vsL N l lim (mkN g n) (rowsG g2 len k)).length →
 (nthD [] (vsK N l (mkN g n) (rowsG g2 len k) x_1) j).length =
 (nthD [] (vsL N l lim (mkN g n) (rowsG g2 len k)) j).length) ∧
 (∀ (j : Nat),
 j < (vsL N l lim (mkN g n) (rowsG g2 len k)).length →
 ∀ (i : Nat),
 i < (nthD [] (vsL N l lim (mkN g n) (rowsG g2 len k)) j).length →
 nthD (0 : Int) (nthD [] (vsK N l (mkN g n) (rowsG g2 len k) x_1) j)
 i =
 nthD (0 : Int) (nthD [] (vsL N l lim (mkN g n) (rowsG g2 len k)) j)
 i) ∧
 True) ∧
 True) ∧
 True))) := by kernel_rfl
theorem v39 (N : Int) (l : List Pq) (lim : Int) (F : Nat) (g : Nat → Int) (n : Nat) (g2 : Nat → Nat → Int) (len : Nat → Nat) (k : Nat) (x : Nat → Option Addr × Nat) (hP : okP N l = true) (hs : ∀ y ∈ mkN g n, 0 ≤ y ∧ y < N) (hle : n ≤ N.toNat) (h0 : 0 < N.toNat) (hF : N.toNat < n + (F + 1)) (hL : (k : Int) ≤ lim) (hlim : lim ≤ 1048576) : fnVc (tabA N l lim F [(0, .of (lAl N l lim (mkN g n) (rowsG g2 len k)))] (pinsOf x [5, 7] 8)) Try.f39 (visVA (maskM (mkN g n))) (visMA N lim (befL N.toNat l) g n g2 len k) (visPostA N lim (befL N.toNat l) (mkN g n) (vsL N l lim (mkN g n) (rowsG g2 len k)) (vsB N l lim (mkN g n) (rowsG g2 len k))) := by
  rw [v39_eq]
  simp only [eq_self, true_and, and_true, implies_true, imp_self, mkN_ps, mkN_rs, mkN_self, mkN_len, PLoop.of, lCnt, AV.len, lAl]
  obtain ⟨e, hN, hN2, hn, hv⟩ := befP_ok hP
  rw [e] at hN hN2 hn
  have hPl : (mkN g n).length = n := mkN_len _ _
  have hLl : (rowsG g2 len k).length = k := rowsG_len
  have hg : ∀ j, j < n → g j = nthD 0 (mkN g n) j := fun j hj => (nthD_mkN _ _ hj).symm
  have hw1 : IntKind.i64.wrap (((n + 1 : Nat) : Int) - 1) = (n : Int) := by rw [w64_eq (by omega) (by omega)]; omega
  refine ⟨fun hf => ?_, fun hf => ?_⟩
  · have hf : n = N.toNat := by have := eq_of_beq hf; omega
    have hx : extP N l (mkN g n) = [mkN g n] := extP_full (by rw [hPl]; exact hf)
    have hvl : vsL N l lim (mkN g n) (rowsG g2 len k) = rowsG g2 len k ++ [mkN g n] := by
      rw [vsL, hx]; exact List.take_of_length_le (by rw [List.length_append, hLl, List.length_singleton]; omega)
    have hvb : vsB N l lim (mkN g n) (rowsG g2 len k) = decide (((k + 1 : Nat) : Int) ≤ lim) := by
      rw [vsB, hx, List.length_append, hLl, List.length_singleton, Bool.eq_iff_iff, Nat.ble_eq, decide_eq_true_eq]
      omega
    have hll : (rowsG g2 len k ++ [mkN g n]).length = k + 1 := by rw [List.length_append, hLl]; rfl
    have hnt : ∀ j, j < k + 1 → nthD [] (rowsG g2 len k ++ [mkN g n]) j = bif Nat.blt j k then mkN (g2 j) (len j) else mkN g n := fun j hj => by
      by_cases h : j < k
      · rw [nthD_lt _ (by rw [hLl]; exact h), blt_t h, cond_true, rowsG_nth h]
      · have hj2 : j = (rowsG g2 len k).length := by rw [hLl]; omega
        rw [hj2, nthD_at, blt_f (by rw [hLl]; omega), cond_false]
    rw [hvl, hvb, hll]
    refine ⟨by omega, by omega, by omega, by omega, rfl, rfl, hg, rfl, fun j hj => ?_, fun j hj i hi => ?_⟩
    · rw [hnt j hj]; cases Nat.blt j k <;> simp
    · rw [hnt j hj] at hi ⊢
      cases hb : Nat.blt j k
      · rfl
      · rw [hb, cond_true, mkN_len] at hi
        rw [cond_true, cond_true, nthD_mkN _ _ hi]
  · have hf : n < N.toNat := by
      have : ¬ (n : Int) = N := fun e => by rw [e] at hf; simp at hf
      omega
    have hPn : (mkN g n).length < N.toNat := by rw [hPl]; exact hf
    refine ⟨(), ⟨0, ⟨Nat.zero_le _, by rw [vsK_zero, hLl]; exact hL, hf⟩, rfl, hg, by rw [vsK_zero, hLl], by rw [vsK_zero, hLl], fun j hj => ?_, fun j hj i hi => ?_⟩, fun x hx => ⟨fun hlx => ?_, fun hlx => ?_⟩⟩
    · rw [vsK_zero] at hj ⊢
      rw [rowsG_nth (by rwa [hLl] at hj), mkN_len]
    · rw [vsK_zero] at hj hi ⊢
      rw [rowsG_nth (by rwa [hLl] at hj)] at hi ⊢
      rw [mkN_len] at hi
      rw [nthD_mkN _ _ hi]
    · obtain ⟨hx1, hx2, _⟩ := hx
      have hx3 : x < N.toNat := by have := of_decide_eq_true hlx; omega
      have hfr := frR_ok (x := x) hv hs hx3
      have hw := wrS (n := 64) (i := x) (by omega) (by omega)
      rw [hfr, mkN_ap hPl, rowsG_self, hw1]
      have hmk := maskM_lt (l := mkN g n) (n := N.toNat) fun y hy => by have := hs y hy; omega
      have hor := or_shl (x := x) (lt64 hmk (by omega)) (by omega)
      refine ⟨⟨by omega, by omega⟩, by rw [hN]; omega, fun ho => ?_, fun ho => ?_⟩
      · have ho : okN l (mkN g n) x = false := by simpa using ho
        have hst : vsK N l (mkN g n) (rowsG g2 len k) (x + 1) = vsK N l (mkN g n) (rowsG g2 len k) x := by rw [vsK_step, ho, cond_false, List.append_nil]
        refine ⟨x + 1, ⟨hx3, by rw [hst]; exact hx2, hf⟩, by omega, hw, by rw [hst], by rw [hst], fun j _ => by rw [hst], fun j _ i _ => by rw [hst]⟩
      · have ho : okN l (mkN g n) x = true := by simpa using ho
        refine ⟨by omega, by omega, ⟨by omega, by simp [IntKind.bits]; omega⟩, by rw [hor, mask_snoc], fun y hy => ?_, by omega, h0, by omega, hx2, by omega, by omega, fun hb => ?_, fun hb => ?_⟩
        · have hy : y ∈ mkN g n ++ [(x : Int)] := hy
          rcases List.mem_append.1 hy with h | h
          · exact hs y h
          · rw [List.mem_singleton.1 h]; omega
        · have hb : vsB N l lim (mkN g n ++ [(x : Int)]) (vsK N l (mkN g n) (rowsG g2 len k) x) = false := by simpa using hb
          obtain ⟨e1, e2⟩ := vs_end hPn hx3 ho hb
          rw [e1, e2]
          exact ⟨rfl, Int.toNat_natCast _, rfl, ⟨Int.toNat_natCast _, fun j hj => nthD_lt _ (by rw [hPl]; exact hj)⟩, rfl, fun _ _ => rfl, fun _ _ _ _ => rfl⟩
        · have hb : vsB N l lim (mkN g n ++ [(x : Int)]) (vsK N l (mkN g n) (rowsG g2 len k) x) = true := by simpa using hb
          have hst : vsK N l (mkN g n) (rowsG g2 len k) (x + 1) = vsK N l (mkN g n) (rowsG g2 len k) x ++ extP N l (mkN g n ++ [(x : Int)]) := by rw [vsK_step, ho]; rfl
          rw [vsL_all hb, ← hst]
          have hbl := Nat.le_of_ble_eq_true hb
          rw [← hst] at hbl
          exact ⟨x + 1, ⟨hx3, by omega, hf⟩, by omega, hw, Int.toNat_natCast _, rfl, ⟨Int.toNat_natCast _, fun j hj => nthD_lt _ (by rw [hPl]; exact hj)⟩, rfl, fun _ _ => rfl, fun _ _ _ _ => rfl⟩
    · obtain ⟨hx1, hx2, _⟩ := hx
      have hx3 : x = N.toNat := by have := of_decide_eq_false hlx; omega
      rw [hx3, vsK_all hPn] at hx2
      have hb : vsB N l lim (mkN g n) (rowsG g2 len k) = true := Nat.ble_eq_true_of_le (by omega)
      rw [hx3, vsK_all hPn, vsL_all hb, hb]
      exact ⟨rfl, rfl, rfl, fun _ _ => rfl, fun _ _ _ _ => rfl⟩
theorem fo40 : fnOk Try.prog 40 := ⟨Try.f40, Try.func40, by kernel_rfl, by kernel_rfl⟩
theorem fo39 : fnOk Try.prog 39 := ⟨Try.f39, Try.func39, by kernel_rfl, by kernel_rfl⟩
def t40 : List AV → Tab
  | [.is P] => tab [] []
  | _ => tab [] []
theorem c40 : CallOk Try.prog [] 40 (genF EL [] [.is] sCln) := by
  refine okT (fn := Try.f40) Try.func40 fo40 t40 (fun av => ?_) (fun av => ?_) (fun av pre rv h => ?_) (fun av pre rv h hp => ?_)
  · unfold t40; split <;> first | exact tabOk mNil | exact tabOk mNil
  · unfold t40; split <;> exact ⟨rfl, rfl⟩
  · unfold sCln at h; split at h <;> cases h
    exact ⟨rfl, fun t a e => by cases e <;> exact List.cons_ne_nil _ _⟩
  · unfold sCln at h; split at h <;> cases h
    exact v40 _ (hp _ (.tail _ (.head _))) (hp _ (.head _))
theorem n40 (nm : List (Option AV)) : CallOk Try.prog [] 40 (genF EL nm [.is] sCln) := genNm c40
theorem tabAOk {N : Int} {l : List Pq} {lim : Int} {F : Nat} {loops : List (Nat × PLoop)} {pins : List (Nat × (Option Addr × Nat))} (h : CallOkB Try.prog [] 39 (kVisA N l lim F)) : TabOk Try.prog (tabA N l lim F loops pins) := ⟨mixed, tys, ints, fun _ _ hf => (mOne (n34 _) (mOne (n40 _) mNil)) _ (assoc_mem hf), fun g G hf => (by
  have h2 := assoc_mem hf
  rcases List.mem_singleton.1 h2 with h3
  cases h3
  exact h)⟩
theorem visA_inv {N : Int} {l : List Pq} {lim : Int} {F : Nat} {m : List MBlk} {vs : List SV} {b : BRes} (h : kVisA N l lim F m vs = some b) : ∃ (s : Int) (e1 e2 e3 e4 e5 r q w n n' k k' nb nb' : Nat) (N' lim' : Int) (g : Nat → Int) (h0 : Nat → Int) (len : Nat → Nat) (g2 : Nat → Nat → Int),
    vs = [.i .u64 s, .ptr e1 0, .ptr e2 0, .ptr e3 0, .ptr e4 0, .ptr e5 0] ∧ nth m e1 = some (.cells [.sl r n]) ∧ nth m e2 = some (.cells [.i .i64 N', .sl q nb]) ∧ nth m e3 = some (.cells [.sl w k]) ∧ nth m e4 = some (.cells [.i .i64 lim']) ∧ nth m e5 = some (.cells [.fn 39 [.ptr e1 0, .ptr e2 0, .ptr e3 0, .ptr e4 0, .ptr e5 0]]) ∧
    nth m r = some (.oarr 3 n' [.int .i64 g]) ∧ nth m q = some (.oarr 54 nb' [.int .u64 h0]) ∧ nth m w = some (.oarr 25 k' [.rows len [g2]]) ∧ nodupN [e1, e2, e3, e4, e5, r, q, w] = true ∧
    b = tB [e1, e2, e3, e4, e5, r, q, w] [5, 7] (visUpA N lim (befL N.toNat l) (mkN g n') (vsL N l lim (mkN g n') (rowsG g2 len k'))) (.b (vsB N l lim (mkN g n') (rowsG g2 len k'))) ([n = n', k = k', nb = (befL N.toNat l).length, nb' = (befL N.toNat l).length, h0 = nthD 0 (befL N.toNat l), N' = N, lim' = lim] ++ preA N l lim F (mkN g n') (rowsG g2 len k') s) := by
  unfold kVisA at h
  repeat' (split at h)
  all_goals first | cases h | skip
  rename_i _ _ s e1 e2 e3 e4 e5 _ _ _ _ _ r n N' q nb w k lim' p1 p2 p3 p4 p5 h1 h2 h3 h4 h5 _ _ _ n' g nb' h0 k' len g2 h6 h7 h8
  cases hc : (Nat.beq p1 e1 && Nat.beq p2 e2 && Nat.beq p3 e3 && Nat.beq p4 e4 && Nat.beq p5 e5 && nodupN [e1, e2, e3, e4, e5, r, q, w]) <;> rw [hc] at h
  · cases h
  · simp only [Bool.and_eq_true] at hc
    obtain ⟨⟨⟨⟨⟨q1, q2⟩, q3⟩, q4⟩, q5⟩, q6⟩ := hc
    have q1 := Nat.eq_of_beq_eq_true q1
    have q2 := Nat.eq_of_beq_eq_true q2
    have q3 := Nat.eq_of_beq_eq_true q3
    have q4 := Nat.eq_of_beq_eq_true q4
    have q5 := Nat.eq_of_beq_eq_true q5
    subst q1; subst q2; subst q3; subst q4; subst q5
    simp only [cond_true, Option.some.injEq] at h
    exact ⟨_, _, _, _, _, _, _, _, _, _, _, _, _, _, _, _, _, _, _, _, _, rfl, h1, h2, h3, h4, h5, h6, h7, h8, q6, h.symm⟩
theorem b39 {N : Int} {l : List Pq} {lim : Int} (hP : okP N l = true) (hlim : lim ≤ 1048576) : ∀ F, CallOkB Try.prog [] 39 (kVisA N l lim F) := by
  intro F
  induction F with
  | zero =>
    refine callOkB Try.func39 fo39 fun m vs b h hp => ?_
    obtain ⟨s, e1, e2, e3, e4, e5, r, q, w, n, n', k, k', nb, nb', N', lim', g, h0, len, g2, rfl, h1, h2, h3, h4, h5, h6, h7, h8, h9, rfl⟩ := visA_inv h
    have a1 := hp ((mkN g n').length ≤ N.toNat) (by simp [tB, preA])
    have a2 := hp (N.toNat < (mkN g n').length + 0) (by simp [tB, preA])
    omega
  | succ F ih =>
    refine callOkB Try.func39 fo39 fun m vs b h hp => ?_
    obtain ⟨s, e1, e2, e3, e4, e5, r, q, w, n, n', k, k', nb, nb', N', lim', g, h0, len, g2, rfl, h1, h2, h3, h4, h5, h6, h7, h8, h9, rfl⟩ := visA_inv h
    have p1 := hp (n = n') (.head _)
    have p2 := hp (k = k') (.tail _ (.head _))
    have p3 := hp (nb = _) (.tail _ (.tail _ (.head _)))
    have p4 := hp (nb' = _) (.tail _ (.tail _ (.tail _ (.head _))))
    have p5 := hp (h0 = _) (.tail _ (.tail _ (.tail _ (.tail _ (.head _)))))
    have p6 := hp (N' = N) (.tail _ (.tail _ (.tail _ (.tail _ (.tail _ (.head _))))))
    have p7 := hp (lim' = lim) (.tail _ (.tail _ (.tail _ (.tail _ (.tail _ (.tail _ (.head _)))))))
    have p8 := hp (s = _) (.tail _ (.tail _ (.tail _ (.tail _ (.tail _ (.tail _ (.tail _ (.head _))))))))
    have p9 := hp _ (.tail _ (.tail _ (.tail _ (.tail _ (.tail _ (.tail _ (.tail _ (.tail _ (.head _)))))))))
    have p10 := hp _ (.tail _ (.tail _ (.tail _ (.tail _ (.tail _ (.tail _ (.tail _ (.tail _ (.tail _ (.head _))))))))))
    have p11 := hp _ (.tail _ (.tail _ (.tail _ (.tail _ (.tail _ (.tail _ (.tail _ (.tail _ (.tail _ (.tail _ (.head _)))))))))))
    have p12 := hp _ (.tail _ (.tail _ (.tail _ (.tail _ (.tail _ (.tail _ (.tail _ (.tail _ (.tail _ (.tail _ (.tail _ (.head _))))))))))))
    have p13 := hp _ (.tail _ (.tail _ (.tail _ (.tail _ (.tail _ (.tail _ (.tail _ (.tail _ (.tail _ (.tail _ (.tail _ (.tail _ (.head _)))))))))))))
    subst p1; subst p2; subst p3; subst p4; subst p5; subst p6; subst p7; subst p8
    rw [mkN_len] at p10 p12
    rw [rowsG_len] at p13
    refine ⟨tabA N' l lim' F [(0, .of (lAl N' l lim' (mkN g n) (rowsG g2 len k)))] [], [e1, e2, e3, e4, e5, r, q, w], visMA N' lim' (befL N'.toNat l) g n g2 len k, visVA (maskM (mkN g n)), [5, 7], visUpA N' lim' (befL N'.toNat l) (mkN g n) (vsL N' l lim' (mkN g n) (rowsG g2 len k)), .b (vsB N' l lim' (mkN g n) (rowsG g2 len k)), _, fun pins => tabAOk ih, rfl, rfl, h9, rfl, rfl, fun i k0 hk => ?_, rfl, fun x => v39 N' l lim' F g n g2 len k x hP p9 p10 p11 (by omega) p13 hlim⟩
    rw [nth_eq] at h1 h2 h3 h4 h5 h6 h7 h8
    match i with
    | 0 => cases hk; exact h1
    | 1 => cases hk; exact h2
    | 2 => cases hk; exact h3
    | 3 => cases hk; exact h4
    | 4 => cases hk; exact h5
    | 5 => cases hk; exact h6
    | 6 => cases hk; exact h7
    | 7 => cases hk; exact h8
    | _ + 8 => cases hk
end Go.Proofs.Ytiokmglajigngaa
namespace Go.Proofs.Ytiokmglajigngaa
open Go Go.Proofs.Ytiokmglajigngaa.Sx
def alO (lim : Int) : Bool := decide (lim < 1) || decide (lim > 1048576)
def alB (N : Int) (l : List Pq) (lim : Int) : Bool := Nat.ble (extP N l []).length lim.toNat
def alE (N : Int) (l : List Pq) (lim : Int) : Int := bif okP N l then (bif alO lim then 2 else (bif alB N l lim then 0 else 4)) else errP N l
def alL (N : Int) (l : List Pq) (lim : Int) : List (List Int) := bif okP N l && !alO lim && alB N l lim then extP N l [] else []
def sAll : Sp := fun | [.r N l, .i lim] => some ([L9 l], .sl (fun k => .tup [.sl 0 k, .i .i64 (alE N l lim)]) (.rs (alL N l lim))) | _ => none
def kAll (nm : List (Option AV)) : Nat × (List MBlk → List SV → Option AR) := (19, genF EL nm [.r, .i] sAll)
def tabT (calls : Calling) (cb : List (Nat × (List MBlk → List SV → Option BRes))) (loops : List (Nat × PLoop)) (takes : List (Nat × (List Slot → List MBlk → List Gh))) (pins : List (Nat × (Option Addr × Nat))) (su : List Nat) : Tab := ⟨tyTab, [], calls, loops, cb, pins, takes, su⟩
def ghA : List Gh := [.fresh 7 0 3 1, .fresh 6 0 25 1, .cols 9 [.int .i64 (fun _ => 0)], .cols 10 [.rows (fun _ => 0) [fun _ _ => 0]]]
def ghZ : List Gh := [.fresh 6 0 25 1, .cols 9 [.rows (fun _ => 0) [fun _ _ => 0]]]
/-- A copy of nil. -/
def kClnZ : Nat × (List MBlk → List SV → Option AR) := (40, fun m vs => match vs with
  | [.nilsl] => some ⟨[], .sl m.length 0, [.oarr 3 0 (isCols [])]⟩
  | _ => none)
def visMZ (lim : Int) (g2 : Nat → Nat → Int) (len : Nat → Nat) (k : Nat) : List MBlk :=
  [.cells [.nilsl], .cells [.i .i64 0, .sl 5 0], .cells [.sl 6 k], .cells [.i .i64 lim], .cells [visFA], .oarr 54 0 (usCols []), .oarr 25 k [.rows len [g2]]]
def visUpZ (lim : Int) (L : List (List Int)) : List (Nat × MBlk) :=
  [(0, .cells [.nilsl]), (1, .cells [.i .i64 0, .sl 5 0]), (2, .cells [.sl 6 L.length]), (3, .cells [.i .i64 lim]), (4, .cells [visFA]), (5, .oarr 54 0 (usCols [])), (6, .oarr 25 L.length (rsCols L))]
def kVisZ (lim : Int) : List MBlk → List SV → Option BRes
  | m, [.i .u64 s, .ptr e1 0, .ptr e2 0, .ptr e3 0, .ptr e4 0, .ptr e5 0] => match nth m e1, nth m e2, nth m e3, nth m e4, nth m e5 with
    | some (.cells [.nilsl]), some (.cells [.i .i64 N', .sl q nb]), some (.cells [.sl w k]), some (.cells [.i .i64 lim']), some (.cells [.fn 39 [.ptr p1 0, .ptr p2 0, .ptr p3 0, .ptr p4 0, .ptr p5 0]]) => match nth m q, nth m w with
      | some (.oarr 54 nb' [.int .u64 h]), some (.oarr 25 k' [.rows len [g2]]) =>
        bif Nat.beq p1 e1 && Nat.beq p2 e2 && Nat.beq p3 e3 && Nat.beq p4 e4 && Nat.beq p5 e5 && nodupN [e1, e2, e3, e4, e5, q, w] then
          some (tB [e1, e2, e3, e4, e5, q, w] [6] (visUpZ lim (rowsG g2 len k' ++ [[]])) (.b (decide (((k' + 1 : Nat) : Int) ≤ lim))) [k = k', nb = 0, nb' = 0, h = nthD 0 [], N' = 0, lim' = lim, k' ≤ 1048576])
        else none
      | _, _ => none
    | _, _, _, _, _ => none
  | _, _ => none
def visPostZ (lim : Int) (L : List (List Int)) (b : Bool) : SV → List MBlk → Prop := fun sv m' => veq (.b b) sv ∧ memAll (expGo (visUpZ lim L) 0 7) m'
def sLst' : Sp := fun | [.rs a, .rs b] => some ([L9 a, L9 b, ∀ j, (nthD [] a j).length ≤ 1099511627776, ∀ j, (nthD [] b j).length ≤ 1099511627776], .pl (.b (decide (a = b)))) | _ => none
def kLsts (nm : List (Option AV)) : Nat × (List MBlk → List SV → Option AR) := (21, genF EL nm [.rs, .rs] sLst')
def lLsts (a b : List (List Int)) (t : Nat) : LAnn := lCnt a.length t (fun i => a.take i = b.take i) (fun _ => []) []
end Go.Proofs.Ytiokmglajigngaa
