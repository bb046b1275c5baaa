/-
  A part of the proof (Rw4).
-/
import Derived.Test.YtcbmbnlgilampaaRw3
namespace Go.Proofs.Ytcbmbnlgilampaa
open Go Go.Proofs.Ytcbmbnlgilampaa.Sx
set_option maxRecDepth 100000
set_option linter.unusedSimpArgs false
set_option linter.unusedVariables false

theorem ixw {a b : Nat} {N : Int} (ha : (a : Int) < N) (hb : (b : Int) < N) (hN : N ≤ 64) : IntKind.i64.wrap (IntKind.i64.wrap ((a : Int) * N) + (b : Int)) = ((a * N.toNat + b : Nat) : Int) := by
  obtain ⟨n, rfl⟩ := Int.eq_ofNat_of_zero_le (show 0 ≤ N by omega)
  have h1 : a * n ≤ 64 * 64 := Nat.mul_le_mul (by omega) (by omega)
  have h2 : (a : Int) * (n : Int) = ((a * n : Nat) : Int) := by push_cast; rfl
  have h3 : ((a * n : Nat) : Int) ≤ 4096 := by omega
  rw [h2, w64_eq (n := ((a * n : Nat) : Int)) (by omega) (by omega), w64_eq (by omega) (by omega)]
  simp
theorem ixwI {a b : Int} {N : Int} (ha0 : 0 ≤ a) (hb0 : 0 ≤ b) (ha : a < N) (hb : b < N) (hN : N ≤ 64) : IntKind.i64.wrap (IntKind.i64.wrap (a * N) + b) = ((a.toNat * N.toNat + b.toNat : Nat) : Int) := by
  obtain ⟨x, rfl⟩ := Int.eq_ofNat_of_zero_le ha0
  obtain ⟨y, rfl⟩ := Int.eq_ofNat_of_zero_le hb0
  exact ixw ha hb hN
theorem sqw {N : Int} (h0 : 0 ≤ N) (hN : N ≤ 64) : IntKind.i64.wrap (N * N) = ((N.toNat * N.toNat : Nat) : Int) := by
  obtain ⟨n, rfl⟩ := Int.eq_ofNat_of_zero_le h0
  have h1 : n * n ≤ 64 * 64 := Nat.mul_le_mul (by omega) (by omega)
  have h2 : (n : Int) * (n : Int) = ((n * n : Nat) : Int) := by push_cast; rfl
  rw [h2, w64_eq (by omega) (by omega)]
  simp
theorem tblF_at {n : Nat} {h : List Bool} {a b : Nat} : tblF n h a b = nthD false h (a * n + b) := by
  unfold tblF
  have : ((a : Int) * n + b).toNat = a * n + b := by
    have : (a : Int) * n + b = ((a * n + b : Nat) : Int) := by push_cast; rfl
    rw [this]; rfl
  rw [this]
theorem tbl_step {N : Int} {l : List Pq} (hv : validF N l = true) {i : Nat} (hi : i < l.length) : ∀ j, j < N.toNat * N.toNat → (bif Nat.beq j ((nthD (0, 0) l i).1.toNat * N.toNat + (nthD (0, 0) l i).2.toNat) then true else nthD false (tblL N.toNat (setF (l.take i))) j) = nthD false (tblL N.toNat (setF (l.take (i + 1)))) j := fun j hj => by
  obtain ⟨h1, h2, h3⟩ := validF_iff.1 hv
  obtain ⟨q1, q2, q3, q4⟩ := h3 _ (nth_mem hi)
  rw [nthD_tblL hj, nthD_tblL hj, setF_take hi]
  generalize nthD (0, 0) l i = p at q1 q2 q3 q4 ⊢
  obtain ⟨x, y⟩ := p
  simp only at q1 q2 q3 q4 ⊢
  obtain ⟨x, rfl⟩ := Int.eq_ofNat_of_zero_le q1
  obtain ⟨y, rfl⟩ := Int.eq_ofNat_of_zero_le q3
  have hy : y < N.toNat := by omega
  simp only [Int.toNat_natCast]
  by_cases e : j = x * N.toNat + y
  · subst e
    rw [beq_t, cond_true, ix_div hy, ix_mod hy]
    simp
  · rw [beq_f e, cond_false]
    have : ¬ (j / N.toNat = x ∧ j % N.toNat = y) := fun ⟨e1, e2⟩ => e (by
      have := Nat.div_add_mod j N.toNat
      rw [e1, e2, Nat.mul_comm] at this
      exact this.symm)
    have h4 : ((((j / N.toNat : Nat) : Int) == (x : Int)) && (((j % N.toNat : Nat) : Int) == (y : Int))) = false := by
      rw [Bool.eq_false_iff]
      intro h
      simp only [Bool.and_eq_true, beq_iff_eq] at h
      exact this ⟨by omega, by omega⟩
    rw [h4, Bool.false_or]
theorem v36_eq (N : Int) (l : List Pq) : (fnVc (tab [] [(0, .of (lTbl N l 4 3))]) Try.f36 [rlV N 0 l] [arP l] (resIs (.sl 0 (tblL N.toNat (setF l)).length) 4 (tblL N.toNat (setF l)).length (bsCols (tblL N.toNat (setF l))))) = ((0 : Int) ≤ IntKind.i64.wrap (N * N) ∧
 IntKind.i64.wrap (N * N) = IntKind.i64.wrap (N * N) ∧
 (↑(1 : Nat) : Int) * IntKind.i64.wrap (N * N) ≤ (281474976710656 : Int) ∧
 IntKind.i64.wrap (N * N) ≤ (9223372036854775807 : Int) ∧
 ∃ (x : PUnit),
 (∃ (x : Nat),
 (x ≤ l.length ∧ True) ∧
 ((0 : Int) = (↑x : Int) ∧ True) ∧
 ((IntKind.i64.wrap (N * N)).toNat = N.toNat * N.toNat ∧
 (∀ (j : Nat),
 j < N.toNat * N.toNat → false = nthD false (tblL N.toNat (setF (List.take x l))) j) ∧
 True) ∧
 True) ∧
 ∀ (x_1 : Nat),
 x_1 ≤ l.length ∧ True →
 (decide ((↑x_1 : Int) < (↑l.length : Int)) = true →
 ((0 : Int) ≤ (↑x_1 : Int) ∧ (↑x_1 : Int) < (↑l.length : Int)) ∧
 x_1 < l.length ∧
 ((0 : Int) ≤ (↑x_1 : Int) ∧ (↑x_1 : Int) < (↑l.length : Int)) ∧
 x_1 < l.length ∧
 ((0 : Int) ≤
 IntKind.i64.wrap
 (IntKind.i64.wrap ((nthD ((0 : Int), (0 : Int)) l x_1).fst * N) +
 (nthD ((0 : Int), (0 : Int)) l x_1).snd) ∧
 IntKind.i64.wrap
 (IntKind.i64.wrap ((nthD ((0 : Int), (0 : Int)) l x_1).fst * N) +
 (nthD ((0 : Int), (0 : Int)) l x_1).snd) <
 (↑(IntKind.i64.wrap (N * N)).toNat : Int)) ∧
 (IntKind.i64.wrap
 (IntKind.i64.wrap ((nthD ((0 : Int), (0 : Int)) l x_1).fst * N) +
 (nthD ((0 : Int), (0 : Int)) l x_1).snd)).toNat <
 N.toNat * N.toNat ∧
 ∃ (x_2 : Nat),
 (x_2 ≤ l.length ∧ True) ∧
 ((PLoop.of (lTbl N l (4 : Nat) (3 : Nat))).ann x).mu x_2 <
 ((PLoop.of (lTbl N l (4 : Nat) (3 : Nat))).ann x).mu x_1 ∧
 ((N = N ∧ l.length = l.length) ∧
 True ∧
 (0 : Nat) = (0 : Nat) ∧
 (IntKind.i64.wrap (N * N)).toNat = (IntKind.i64.wrap (N * N)).toNat ∧
 IntKind.i64.wrap ((↑x_1 : Int) + (1 : Int)) = (↑x_2 : Int) ∧
 True ∧
 N = N ∧
 True ∧
 N = N ∧
 IntKind.i64.wrap (N * N) = IntKind.i64.wrap (N * N) ∧
 (IntKind.i64.wrap (N * N)).toNat =
 (IntKind.i64.wrap (N * N)).toNat ∧
 True) ∧
 (l.length = l.length ∧
 (∀ (j : Nat),
 j < l.length →
 (nthD ((0 : Int), (0 : Int)) l j).fst =
 (nthD ((0 : Int), (0 : Int)) l j).fst) ∧
 (∀ (j : Nat),
 j < l.length →
 (nthD ((0 : Int), (0 : Int)) l j).snd =
 (nthD ((0 : Int), (0 : Int)) l j).snd) ∧
 True) ∧
 (N = N ∧ l.length = l.length) ∧
 ((0 : Nat) = (0 : Nat) ∧ True ∧ True) ∧
 (N.toNat * N.toNat = N.toNat * N.toNat ∧
 (∀ (j : Nat),
 j < N.toNat * N.toNat →
 (bif
 j.beq
 (IntKind.i64.wrap
 (IntKind.i64.wrap
 ((nthD ((0 : Int), (0 : Int)) l x_1).fst * N) +
 (nthD ((0 : Int), (0 : Int)) l
 x_1).snd)).toNat then
 true
 else nthD false (tblL N.toNat (setF (List.take x_1 l))) j) =
 nthD false (tblL N.toNat (setF (List.take x_2 l))) j) ∧
 True) ∧
 True) ∧
 (decide ((↑x_1 : Int) < (↑l.length : Int)) = false →
 N.toNat * N.toNat = (tblL N.toNat (setF l)).length ∧
 ((∀ (j : Nat),
 j < (tblL N.toNat (setF l)).length →
 nthD false (tblL N.toNat (setF (List.take x_1 l))) j =
 nthD false (tblL N.toNat (setF l)) j) ∧
 True) ∧
 (IntKind.i64.wrap (N * N)).toNat = (tblL N.toNat (setF l)).length)) := by kernel_rfl
theorem v36 (N : Int) (l : List Pq) (hv : validF N l = true) (hl : L9 l) : fnVc (tab [] [(0, .of (lTbl N l 4 3))]) Try.f36 [rlV N 0 l] [arP l] (resIs (.sl 0 (tblL N.toNat (setF l)).length) 4 (tblL N.toNat (setF l)).length (bsCols (tblL N.toNat (setF l)))) := by
  rw [v36_eq]
  obtain ⟨h1, h2, h3⟩ := validF_iff.1 hv
  have hs := sqw h1 h2
  have hb : N.toNat * N.toNat ≤ 4096 := sq_le (by omega)
  simp only [eq_self, true_and, and_true, implies_true, imp_self, mkN_ps, mkN_rs, mkN_self, mkN_len, PLoop.of, lCnt, lVal, lSet, lUni, lInv, lOut, lInn, lTbl, lIdx, lHas, lSwp, AV.len, tblL_len, bsCols]
  rw [hs]
  refine ⟨by omega, by omega, by omega, (), ⟨0, by simp, rfl, ?_⟩, fun i hi => ⟨fun hlt => ?_, fun hlt => ?_⟩⟩
  · refine ⟨Int.toNat_natCast _, fun j hj => ?_⟩
    rw [nthD_tblL hj]; rfl
  · have hi2 := lt_len hlt
    obtain ⟨q1, q2, q3, q4⟩ := h3 _ (nth_mem hi2)
    have e := ixwI q1 q3 q2 q4 h2
    have e2 : (nthD (0, 0) l i).1.toNat * N.toNat + (nthD (0, 0) l i).2.toNat < N.toNat * N.toNat := ix_lt (by omega) (by omega)
    rw [e]
    simp only [Int.toNat_natCast]
    exact ⟨bd hi2, hi2, bd hi2, hi2, by omega, e2, i + 1, by omega, by omega, w64_sub (by omega) hl, tbl_step hv hi2⟩
  · have hi2 := ge_len hlt hi
    rw [hi2, List.take_length]
    simp only [Int.toNat_natCast, implies_true, and_true]
theorem v42_eq (n : Int) (h : List Bool) : (fnVc (tabG [] [(0, .of (lOut n (tblF n.toNat h) 6)), (2, lInn n (tblF n.toNat h) 7)] 2 [.fresh 2 1 38 2]) Try.f42 [.i .i64 n, .sl 0 h.length] [arB h] (resIs (relT n (normL n (tblF n.toNat h)).length) 38 (normL n (tblF n.toNat h)).length (psCols (normL n (tblF n.toNat h))))) = (∃ (x : PUnit),
 (∃ (x : Nat),
 (x ≤ n.toNat ∧ True) ∧
 ((0 : Int) = (↑x : Int) ∧ True) ∧
 (n = n ∧ (0 : Nat) = (allL (tblF n.toNat h) n.toNat x).length) ∧
 ((0 : Nat) = (allL (tblF n.toNat h) n.toNat x).length ∧
 (allL (tblF n.toNat h) n.toNat x).length = (0 : Nat) ∧
 (allL (tblF n.toNat h) n.toNat x).length = (0 : Nat) ∧ True) ∧
 True) ∧
 ∀ (x_1 : Nat),
 x_1 ≤ n.toNat ∧ True →
 (decide ((↑x_1 : Int) < n) = true →
 ∃ (x_2 : Nat),
 (∃ (x : Nat),
 (x ≤ n.toNat ∧ x_2 < n.toNat) ∧
 ((0 : Int) = (↑x : Int) ∧ True) ∧
 (n = n ∧
 (allL (tblF n.toNat h) n.toNat x_1).length =
 (allL (tblF n.toNat h) n.toNat x_2 ++ rowL (tblF n.toNat h) x_2 x).length) ∧
 ((allL (tblF n.toNat h) n.toNat x_1).length =
 (allL (tblF n.toNat h) n.toNat x_2 ++ rowL (tblF n.toNat h) x_2 x).length ∧
 (∀ (j : Nat),
 j < (allL (tblF n.toNat h) n.toNat x_2 ++ rowL (tblF n.toNat h) x_2 x).length →
 (nthD ((0 : Int), (0 : Int)) (allL (tblF n.toNat h) n.toNat x_1) j).fst =
 (nthD ((0 : Int), (0 : Int))
 (allL (tblF n.toNat h) n.toNat x_2 ++ rowL (tblF n.toNat h) x_2 x) j).fst) ∧
 (∀ (j : Nat),
 j < (allL (tblF n.toNat h) n.toNat x_2 ++ rowL (tblF n.toNat h) x_2 x).length →
 (nthD ((0 : Int), (0 : Int)) (allL (tblF n.toNat h) n.toNat x_1) j).snd =
 (nthD ((0 : Int), (0 : Int))
 (allL (tblF n.toNat h) n.toNat x_2 ++ rowL (tblF n.toNat h) x_2 x) j).snd) ∧
 True) ∧
 True) ∧
 ∀ (x_3 : Nat),
 x_3 ≤ n.toNat ∧ x_2 < n.toNat →
 (decide ((↑x_3 : Int) < n) = true →
 ((0 : Int) ≤ IntKind.i64.wrap (IntKind.i64.wrap ((↑x_1 : Int) * n) + (↑x_3 : Int)) ∧
 IntKind.i64.wrap (IntKind.i64.wrap ((↑x_1 : Int) * n) + (↑x_3 : Int)) < (↑h.length : Int)) ∧
 (IntKind.i64.wrap (IntKind.i64.wrap ((↑x_1 : Int) * n) + (↑x_3 : Int))).toNat < h.length ∧
 (nthD false h
 (IntKind.i64.wrap (IntKind.i64.wrap ((↑x_1 : Int) * n) + (↑x_3 : Int))).toNat =
 true →
 (allL (tblF n.toNat h) n.toNat x_2 ++ rowL (tblF n.toNat h) x_2 x_3).length =
 (allL (tblF n.toNat h) n.toNat x_2 ++ rowL (tblF n.toNat h) x_2 x_3).length ∧
 (1 : Nat) = (1 : Nat) ∧
 ((allL (tblF n.toNat h) n.toNat x_2 ++ rowL (tblF n.toNat h) x_2 x_3).length +
 (1 : Nat)) *
 (16 : Nat) ≤
 (140737488355328 : Nat) ∧
 (allL (tblF n.toNat h) n.toNat x_2 ++ rowL (tblF n.toNat h) x_2 x_3).length +
 (1 : Nat) ≤
 (9223372036854775807 : Nat) ∧
 ∃ (x : Nat),
 (x ≤ n.toNat ∧ x_2 < n.toNat) ∧
 ((lInn n (tblF n.toNat h) (7 : Nat)).ann x_2).mu x <
 ((lInn n (tblF n.toNat h) (7 : Nat)).ann x_2).mu x_3 ∧
 (n = n ∧
 h.length = h.length ∧
 True ∧
 True ∧
 (↑x_1 : Int) = (↑x_1 : Int) ∧
 IntKind.i64.wrap ((↑x_3 : Int) + (1 : Int)) = (↑x : Int) ∧
 n = n ∧
 (n = n ∧ True) ∧
 (↑x_1 : Int) = (↑x_1 : Int) ∧
 n = n ∧ true = true ∧ True) ∧
 (h.length = h.length ∧
 (∀ (j : Nat), j < h.length → nthD false h j = nthD false h j) ∧
 True) ∧
 ((0 : Int) = (0 : Int) ∧ True) ∧
 (n = n ∧
 (allL (tblF n.toNat h) n.toNat x_2 ++
 rowL (tblF n.toNat h) x_2 x_3).length +
 (1 : Nat) =
 (allL (tblF n.toNat h) n.toNat x_2 ++
 rowL (tblF n.toNat h) x_2 x).length) ∧
 ((allL (tblF n.toNat h) n.toNat x_2 ++
 rowL (tblF n.toNat h) x_2 x_3).length +
 (1 : Nat) =
 (allL (tblF n.toNat h) n.toNat x_2 ++
 rowL (tblF n.toNat h) x_2 x).length ∧
 (∀ (j : Nat),
 j <
 (allL (tblF n.toNat h) n.toNat x_2 ++
 rowL (tblF n.toNat h) x_2 x).length →
 (bif
 j.blt
 (allL (tblF n.toNat h) n.toNat x_2 ++
 rowL (tblF n.toNat h) x_2 x_3).length then
 (nthD ((0 : Int), (0 : Int))
 (allL (tblF n.toNat h) n.toNat x_2 ++
 rowL (tblF n.toNat h) x_2 x_3)
 j).fst
 else
 pickI [(↑x_1 : Int)]
 (j -
 (allL (tblF n.toNat h) n.toNat x_2 ++
 rowL (tblF n.toNat h) x_2 x_3).length)) =
 (nthD ((0 : Int), (0 : Int))
 (allL (tblF n.toNat h) n.toNat x_2 ++
 rowL (tblF n.toNat h) x_2 x)
 j).fst) ∧
 (∀ (j : Nat),
 j <
 (allL (tblF n.toNat h) n.toNat x_2 ++
 rowL (tblF n.toNat h) x_2 x).length →
 (bif
 j.blt
 (allL (tblF n.toNat h) n.toNat x_2 ++
 rowL (tblF n.toNat h) x_2 x_3).length then
 (nthD ((0 : Int), (0 : Int))
 (allL (tblF n.toNat h) n.toNat x_2 ++
 rowL (tblF n.toNat h) x_2 x_3)
 j).snd
 else
 pickI [(↑x_3 : Int)]
 (j -
 (allL (tblF n.toNat h) n.toNat x_2 ++
 rowL (tblF n.toNat h) x_2 x_3).length)) =
 (nthD ((0 : Int), (0 : Int))
 (allL (tblF n.toNat h) n.toNat x_2 ++
 rowL (tblF n.toNat h) x_2 x)
 j).snd) ∧
 True) ∧
 True) ∧
 (nthD false h
 (IntKind.i64.wrap (IntKind.i64.wrap ((↑x_1 : Int) * n) + (↑x_3 : Int))).toNat =
 false →
 ∃ (x : Nat),
 (x ≤ n.toNat ∧ x_2 < n.toNat) ∧
 ((lInn n (tblF n.toNat h) (7 : Nat)).ann x_2).mu x <
 ((lInn n (tblF n.toNat h) (7 : Nat)).ann x_2).mu x_3 ∧
 (n = n ∧
 h.length = h.length ∧
 True ∧
 True ∧
 (↑x_1 : Int) = (↑x_1 : Int) ∧
 IntKind.i64.wrap ((↑x_3 : Int) + (1 : Int)) = (↑x : Int) ∧
 n = n ∧
 (n = n ∧ True) ∧
 (↑x_1 : Int) = (↑x_1 : Int) ∧ n = n ∧ true = true ∧ True) ∧
 (h.length = h.length ∧
 (∀ (j : Nat), j < h.length → nthD false h j = nthD false h j) ∧ True) ∧
 ((0 : Int) = (0 : Int) ∧ True) ∧
 (n = n ∧
 (allL (tblF n.toNat h) n.toNat x_2 ++
 rowL (tblF n.toNat h) x_2 x_3).length =
 (allL (tblF n.toNat h) n.toNat x_2 ++
 rowL (tblF n.toNat h) x_2 x).length) ∧
 ((allL (tblF n.toNat h) n.toNat x_2 ++
 rowL (tblF n.toNat h) x_2 x_3).length =
 (allL (tblF n.toNat h) n.toNat x_2 ++
 rowL (tblF n.toNat h) x_2 x).length ∧
 (∀ (j : Nat),
 j <
 (allL (tblF n.toNat h) n.toNat x_2 ++
 rowL (tblF n.toNat h) x_2 x).length →
 (nthD ((0 : Int), (0 : Int))
 (allL (tblF n.toNat h) n.toNat x_2 ++
 rowL (tblF n.toNat h) x_2 x_3)
 j).fst =
 (nthD ((0 : Int), (0 : Int))
 (allL (tblF n.toNat h) n.toNat x_2 ++
 rowL (tblF n.toNat h) x_2 x)
 j).fst) ∧
 (∀ (j : Nat),
 j <
 (allL (tblF n.toNat h) n.toNat x_2 ++
 rowL (tblF n.toNat h) x_2 x).length →
 (nthD ((0 : Int), (0 : Int))
 (allL (tblF n.toNat h) n.toNat x_2 ++
 rowL (tblF n.toNat h) x_2 x_3)
 j).snd =
 (nthD ((0 : Int), (0 : Int))
 (allL (tblF n.toNat h) n.toNat x_2 ++
 rowL (tblF n.toNat h) x_2 x)
 j).snd) ∧
 True) ∧
 True)) ∧
 (decide ((↑x_3 : Int) < n) = false →
 ∃ (x_4 : Nat),
 (x_4 ≤ n.toNat ∧ True) ∧
 ((PLoop.of (lOut n (tblF n.toNat h) (6 : Nat))).ann x).mu x_4 <
 ((PLoop.of (lOut n (tblF n.toNat h) (6 : Nat))).ann x).mu x_1 ∧
 (n = n ∧
 h.length = h.length ∧
 True ∧
 True ∧
 IntKind.i64.wrap ((↑x_1 : Int) + (1 : Int)) = (↑x_4 : Int) ∧
 n = n ∧ (n = n ∧ True) ∧ True) ∧
 (h.length = h.length ∧
 (∀ (j : Nat), j < h.length → nthD false h j = nthD false h j) ∧ True) ∧
 ((0 : Int) = (0 : Int) ∧ True) ∧
 (n = n ∧
 (allL (tblF n.toNat h) n.toNat x_2 ++ rowL (tblF n.toNat h) x_2 x_3).length =
 (allL (tblF n.toNat h) n.toNat x_4).length) ∧
 ((allL (tblF n.toNat h) n.toNat x_2 ++ rowL (tblF n.toNat h) x_2 x_3).length =
 (allL (tblF n.toNat h) n.toNat x_4).length ∧
 (∀ (j : Nat),
 j < (allL (tblF n.toNat h) n.toNat x_4).length →
 (nthD ((0 : Int), (0 : Int))
 (allL (tblF n.toNat h) n.toNat x_2 ++
 rowL (tblF n.toNat h) x_2 x_3)
 j).fst =
 (nthD ((0 : Int), (0 : Int)) (allL (tblF n.toNat h) n.toNat x_4)
 j).fst) ∧
 (∀ (j : Nat),
 j < (allL (tblF n.toNat h) n.toNat x_4).length →
 (nthD ((0 : Int), (0 : Int))
 (allL (tblF n.toNat h) n.toNat x_2 ++
 rowL (tblF n.toNat h) x_2 x_3)
 j).snd =
 (nthD ((0 : Int), (0 : Int)) (allL (tblF n.toNat h) n.toNat x_4)
 j).snd) ∧
 True) ∧
 True)) ∧
 (decide ((↑x_1 : Int) < n) = false →
 (allL (tblF n.toNat h) n.toNat x_1).length = (normL n (tblF n.toNat h)).length ∧
 ((∀ (j : Nat),
 j < (normL n (tblF n.toNat h)).length →
 (nthD ((0 : Int), (0 : Int)) (allL (tblF n.toNat h) n.toNat x_1) j).fst =
 (nthD ((0 : Int), (0 : Int)) (normL n (tblF n.toNat h)) j).fst) ∧
 (∀ (j : Nat),
 j < (normL n (tblF n.toNat h)).length →
 (nthD ((0 : Int), (0 : Int)) (allL (tblF n.toNat h) n.toNat x_1) j).snd =
 (nthD ((0 : Int), (0 : Int)) (normL n (tblF n.toNat h)) j).snd) ∧
 True) ∧
 n = n ∧ (allL (tblF n.toNat h) n.toNat x_1).length = (normL n (tblF n.toNat h)).length ∧ True)) := by kernel_rfl
theorem v42 (n : Int) (h : List Bool) (hn : 0 ≤ n ∧ n ≤ 64) (hh : h.length = n.toNat * n.toNat) : fnVc (tabG [] [(0, .of (lOut n (tblF n.toNat h) 6)), (2, lInn n (tblF n.toNat h) 7)] 2 [.fresh 2 1 38 2]) Try.f42 [.i .i64 n, .sl 0 h.length] [arB h] (resIs (relT n (normL n (tblF n.toNat h)).length) 38 (normL n (tblF n.toNat h)).length (psCols (normL n (tblF n.toNat h)))) := by
  rw [v42_eq]
  have hn0 := hn.1
  have hn1 := hn.2
  have hN : n.toNat ≤ 64 := by omega
  have hlen : ∀ a b, a < n.toNat → b ≤ n.toNat → (allL (tblF n.toNat h) n.toNat a ++ rowL (tblF n.toNat h) a b).length ≤ 8192 := fun a b ha hb => by
    have h1 := allL_len (tblF n.toNat h) n.toNat a
    have h2 := rowL_len (tblF n.toNat h) a b
    have h3 : a * n.toNat ≤ 64 * 64 := Nat.mul_le_mul (by omega) hN
    rw [List.length_append]; omega
  simp only [eq_self, true_and, and_true, implies_true, imp_self, mkN_ps, mkN_rs, mkN_self, mkN_len, PLoop.of, lCnt, lVal, lSet, lUni, lInv, lOut, lInn, lTbl, lIdx, lHas, lSwp, AV.len]
  refine ⟨(), ⟨0, by simp, rfl, ?_⟩, fun a ha => ⟨fun hlt => ⟨a, ⟨0, ?_⟩, fun b hb => ⟨fun hlb => ?_, fun hlb => ?_⟩⟩, fun hlt => ?_⟩⟩
  · simp [allL_zero]
  · have ha2 : a < n.toNat := by have := of_decide_eq_true hlt; omega
    simp [rowL_zero, ha2]
  · have hb2 : b < n.toNat := by have := of_decide_eq_true hlb; omega
    have hix := ixw (a := a) (b := b) (N := n) (by omega) (by omega) (by omega)
    have hix2 : a * n.toNat + b < h.length := by rw [hh]; exact ix_lt hb.2 hb2
    rw [hix]
    simp only [Int.toNat_natCast]
    refine ⟨by omega, hix2, fun hf => ?_, fun hf => ?_⟩
    · rw [← tblF_at] at hf
      have h1 := hlen a b hb.2 hb.1
      have e : rowL (tblF n.toNat h) a (b + 1) = rowL (tblF n.toNat h) a b ++ [((a : Int), (b : Int))] := by rw [rowL_succ, if_pos hf]
      have e2 : allL (tblF n.toNat h) n.toNat a ++ rowL (tblF n.toNat h) a (b + 1) = (allL (tblF n.toNat h) n.toNat a ++ rowL (tblF n.toNat h) a b) ++ [((a : Int), (b : Int))] := by rw [e, List.append_assoc]
      refine ⟨by omega, by omega, b + 1, ⟨by omega, hb.2⟩, by omega, wrS (n := n.toNat) hb2 (by omega), ?_⟩
      rw [e2]
      have e3 : (allL (tblF n.toNat h) n.toNat a ++ rowL (tblF n.toNat h) a b ++ [((a : Int), (b : Int))]).length = (allL (tblF n.toNat h) n.toNat a ++ rowL (tblF n.toNat h) a b).length + 1 := by rw [List.length_append (bs := [((a : Int), (b : Int))])]; rfl
      exact ⟨e3.symm, e3.symm, ap1 (·.1) _ _, ap1 (·.2) _ _⟩
    · rw [← tblF_at] at hf
      have e : rowL (tblF n.toNat h) a (b + 1) = rowL (tblF n.toNat h) a b := by rw [rowL_succ, if_neg (by rw [hf]; simp), List.append_nil]
      refine ⟨b + 1, ⟨by omega, hb.2⟩, by omega, wrS (n := n.toNat) hb2 (by omega), ?_⟩
      rw [e]
      simp
  · have hb2 : b = n.toNat := by have := of_decide_eq_false hlb; omega
    have e : allL (tblF n.toNat h) n.toNat (a + 1) = allL (tblF n.toNat h) n.toNat a ++ rowL (tblF n.toNat h) a b := by rw [allL_succ, hb2]
    refine ⟨a + 1, by omega, by omega, wrS (n := n.toNat) hb.2 (by omega), ?_⟩
    rw [e]
    simp
  · have ha2 : a = n.toNat := by have := of_decide_eq_false hlt; omega
    subst ha2
    simp [normL]
theorem v47_eq (l : List Pq) (p : Pq) : (fnVc (tab [] [(0, .of (lIdx l p 8))]) Try.f47 [.sl 0 l.length, .agg [.i .i64 p.1, .i .i64 p.2]] [arP l] (plainIs (.i .i64 (idxF p l 0)))) = (∃ (x : PUnit),
 (∃ (x : Nat),
 (x ≤ l.length ∧ idxF p (List.drop x l) (↑x : Int) = idxF p l (0 : Int)) ∧
 ((0 : Int) = (↑x : Int) ∧ True) ∧ True) ∧
 ∀ (x_1 : Nat),
 x_1 ≤ l.length ∧ idxF p (List.drop x_1 l) (↑x_1 : Int) = idxF p l (0 : Int) →
 (decide ((↑x_1 : Int) < (↑l.length : Int)) = true →
 ((0 : Int) ≤ (↑x_1 : Int) ∧ (↑x_1 : Int) < (↑l.length : Int)) ∧
 x_1 < l.length ∧
 ((p.fst == (nthD ((0 : Int), (0 : Int)) l x_1).fst &&
 p.snd == (nthD ((0 : Int), (0 : Int)) l x_1).snd) =
 true →
 (↑x_1 : Int) = idxF p l (0 : Int)) ∧
 ((p.fst == (nthD ((0 : Int), (0 : Int)) l x_1).fst &&
 p.snd == (nthD ((0 : Int), (0 : Int)) l x_1).snd) =
 false →
 ∃ (x_2 : Nat),
 (x_2 ≤ l.length ∧ idxF p (List.drop x_2 l) (↑x_2 : Int) = idxF p l (0 : Int)) ∧
 ((PLoop.of (lIdx l p (8 : Nat))).ann x).mu x_2 <
 ((PLoop.of (lIdx l p (8 : Nat))).ann x).mu x_1 ∧
 (l.length = l.length ∧
 (p.fst = p.fst ∧ p.snd = p.snd) ∧
 True ∧
 l.length = l.length ∧
 (↑l.length : Int) = (↑l.length : Int) ∧
 IntKind.i64.wrap ((↑x_1 : Int) + (1 : Int)) = (↑x_2 : Int) ∧ True) ∧
 (l.length = l.length ∧
 (∀ (j : Nat),
 j < l.length →
 (nthD ((0 : Int), (0 : Int)) l j).fst = (nthD ((0 : Int), (0 : Int)) l j).fst) ∧
 (∀ (j : Nat),
 j < l.length →
 (nthD ((0 : Int), (0 : Int)) l j).snd = (nthD ((0 : Int), (0 : Int)) l j).snd) ∧
 True) ∧
 (p.fst = p.fst ∧ p.snd = p.snd) ∧ True)) ∧
 (decide ((↑x_1 : Int) < (↑l.length : Int)) = false → (-1 : Int) = idxF p l (0 : Int))) := by kernel_rfl
theorem v47 (l : List Pq) (p : Pq) (hl : L9 l) : fnVc (tab [] [(0, .of (lIdx l p 8))]) Try.f47 [.sl 0 l.length, .agg [.i .i64 p.1, .i .i64 p.2]] [arP l] (plainIs (.i .i64 (idxF p l 0))) := by
  rw [v47_eq]
  simp only [eq_self, true_and, and_true, implies_true, imp_self, mkN_ps, mkN_rs, mkN_self, mkN_len, PLoop.of, lCnt, lVal, lSet, lUni, lInv, lOut, lInn, lTbl, lIdx, lHas, lSwp, AV.len]
  refine ⟨(), ⟨0, by simp, rfl⟩, fun i hi => ⟨fun hlt => ?_, fun hlt => ?_⟩⟩
  · have hi2 := lt_len hlt
    have hd := hi.2
    rw [drop_succ' (0, 0) hi2] at hd
    simp only [idxF] at hd
    refine ⟨bd hi2, hi2, fun hc => ?_, fun hc => ?_⟩
    · rw [hc, cond_true] at hd; exact hd
    · rw [hc, cond_false] at hd
      exact ⟨i + 1, ⟨by omega, by push_cast; exact hd⟩, by omega, w64_sub (by omega) hl⟩
  · have hi2 := ge_len hlt hi.1
    have hd := hi.2
    rw [hi2, List.drop_length] at hd
    exact hd
theorem v43_eq (l : List Pq) (p : Pq) : (fnVc (tab [kIdx []] []) Try.f43 [.sl 0 l.length, .agg [.i .i64 p.1, .i .i64 p.2]] [arP l] (plainIs (.b (setF l p.1 p.2)))) = (l.length = l.length ∧
 (mkN (fun (j : Nat) => ((nthD ((0 : Int), (0 : Int)) l j).fst, (nthD ((0 : Int), (0 : Int)) l j).snd))
 l.length).length ≤
 (1099511627776 : Nat) ∧
 decide
 (idxF (p.fst, p.snd)
 (mkN (fun (j : Nat) => ((nthD ((0 : Int), (0 : Int)) l j).fst, (nthD ((0 : Int), (0 : Int)) l j).snd))
 l.length)
 (0 : Int) ≥
 (0 : Int)) =
 setF l p.fst p.snd) := by kernel_rfl
theorem v43 (l : List Pq) (p : Pq) (hl : L9 l) : fnVc (tab [kIdx []] []) Try.f43 [.sl 0 l.length, .agg [.i .i64 p.1, .i .i64 p.2]] [arP l] (plainIs (.b (setF l p.1 p.2))) := by
  rw [v43_eq]
  simp only [eq_self, true_and, and_true, implies_true, imp_self, mkN_ps, mkN_rs, mkN_self, mkN_len, PLoop.of, lCnt, lVal, lSet, lUni, lInv, lOut, lInn, lTbl, lIdx, lHas, lSwp, AV.len]
  exact ⟨hl, idxF_ge (by omega)⟩
theorem v23_eq (N : Int) (l : List Pq) (a b : Int) : (fnVc (tab [kVal [], kCon []] []) Try.f23 [rlV N 0 l, .i .i64 a, .i .i64 b] [arP l] (plainIs (.b (validF N l && setF l a b)))) = (l.length = l.length ∧
 (mkN (fun (j : Nat) => ((nthD ((0 : Int), (0 : Int)) l j).fst, (nthD ((0 : Int), (0 : Int)) l j).snd))
 l.length).length ≤
 (1099511627776 : Nat) ∧
 (validF N
 (mkN (fun (j : Nat) => ((nthD ((0 : Int), (0 : Int)) l j).fst, (nthD ((0 : Int), (0 : Int)) l j).snd))
 l.length) =
 true →
 l.length = l.length) ∧
 (validF N
 (mkN (fun (j : Nat) => ((nthD ((0 : Int), (0 : Int)) l j).fst, (nthD ((0 : Int), (0 : Int)) l j).snd))
 l.length) =
 true →
 (mkN (fun (j : Nat) => ((nthD ((0 : Int), (0 : Int)) l j).fst, (nthD ((0 : Int), (0 : Int)) l j).snd))
 l.length).length ≤
 (1099511627776 : Nat)) ∧
 (validF N
 (mkN (fun (j : Nat) => ((nthD ((0 : Int), (0 : Int)) l j).fst, (nthD ((0 : Int), (0 : Int)) l j).snd))
 l.length) &&
 setF
 (mkN (fun (j : Nat) => ((nthD ((0 : Int), (0 : Int)) l j).fst, (nthD ((0 : Int), (0 : Int)) l j).snd))
 l.length)
 a b) =
 (validF N l && setF l a b)) := by kernel_rfl
theorem v23 (N : Int) (l : List Pq) (a b : Int) (hl : L9 l) : fnVc (tab [kVal [], kCon []] []) Try.f23 [rlV N 0 l, .i .i64 a, .i .i64 b] [arP l] (plainIs (.b (validF N l && setF l a b))) := by
  rw [v23_eq]
  simp only [eq_self, true_and, and_true, implies_true, imp_self, mkN_ps, mkN_rs, mkN_self, mkN_len, PLoop.of, lCnt, lVal, lSet, lUni, lInv, lOut, lInn, lTbl, lIdx, lHas, lSwp, AV.len]
  exact ⟨hl, fun _ => hl⟩
theorem v24_eq (N : Int) (l : List Pq) (a b : Int) : (fnVc (tab [kVal' []] [(0, .of (lHas l a b 7))]) Try.f24 [rlV N 0 l, .i .i64 a, .i .i64 b] [arP l] (plainIs (.b (validF N l && setF l a b)))) = (l.length = l.length ∧
 (mkN (fun (j : Nat) => ((nthD ((0 : Int), (0 : Int)) l j).fst, (nthD ((0 : Int), (0 : Int)) l j).snd))
 l.length).length ≤
 (1099511627776 : Nat) ∧
 ((!validF N
 (mkN (fun (j : Nat) => ((nthD ((0 : Int), (0 : Int)) l j).fst, (nthD ((0 : Int), (0 : Int)) l j).snd))
 l.length)) =
 true →
 false = (validF N l && setF l a b)) ∧
 ((!validF N
 (mkN (fun (j : Nat) => ((nthD ((0 : Int), (0 : Int)) l j).fst, (nthD ((0 : Int), (0 : Int)) l j).snd))
 l.length)) =
 false →
 ∃ (x : PUnit),
 (∃ (x : Nat), (x ≤ l.length ∧ setF (List.take x l) a b = false) ∧ ((0 : Int) = (↑x : Int) ∧ True) ∧ True) ∧
 ∀ (x_1 : Nat),
 x_1 ≤ l.length ∧ setF (List.take x_1 l) a b = false →
 (decide ((↑x_1 : Int) < (↑l.length : Int)) = true →
 ((0 : Int) ≤ (↑x_1 : Int) ∧ (↑x_1 : Int) < (↑l.length : Int)) ∧
 x_1 < l.length ∧
 (((nthD ((0 : Int), (0 : Int)) l x_1).fst == a) = true →
 (0 : Int) ≤ (↑x_1 : Int) ∧ (↑x_1 : Int) < (↑l.length : Int)) ∧
 (((nthD ((0 : Int), (0 : Int)) l x_1).fst == a) = true → x_1 < l.length) ∧
 (((nthD ((0 : Int), (0 : Int)) l x_1).fst == a &&
 (nthD ((0 : Int), (0 : Int)) l x_1).snd == b) =
 true →
 true = (validF N l && setF l a b)) ∧
 (((nthD ((0 : Int), (0 : Int)) l x_1).fst == a &&
 (nthD ((0 : Int), (0 : Int)) l x_1).snd == b) =
 false →
 ∃ (x_2 : Nat),
 (x_2 ≤ l.length ∧ setF (List.take x_2 l) a b = false) ∧
 ((PLoop.of (lHas l a b (7 : Nat))).ann x).mu x_2 <
 ((PLoop.of (lHas l a b (7 : Nat))).ann x).mu x_1 ∧
 ((N = N ∧ l.length = l.length) ∧
 a = a ∧
 b = b ∧
 True ∧
 IntKind.i64.wrap ((↑x_1 : Int) + (1 : Int)) = (↑x_2 : Int) ∧
 (N = N ∧ l.length = l.length) ∧
 validF N
 (mkN
 (fun (j : Nat) =>
 ((nthD ((0 : Int), (0 : Int)) l j).fst,
 (nthD ((0 : Int), (0 : Int)) l j).snd))
 l.length) =
 validF N
 (mkN
 (fun (j : Nat) =>
 ((nthD ((0 : Int), (0 : Int)) l j).fst,
 (nthD ((0 : Int), (0 : Int)) l j).snd))
 l.length) ∧
 false = false ∧ True) ∧
 (l.length = l.length ∧
 (∀ (j : Nat),
 j < l.length →
 (nthD ((0 : Int), (0 : Int)) l j).fst =
 (nthD ((0 : Int), (0 : Int)) l j).fst) ∧
 (∀ (j : Nat),
 j < l.length →
 (nthD ((0 : Int), (0 : Int)) l j).snd =
 (nthD ((0 : Int), (0 : Int)) l j).snd) ∧
 True) ∧
 (N = N ∧ l.length = l.length) ∧ True)) ∧
 (decide ((↑x_1 : Int) < (↑l.length : Int)) = false → false = (validF N l && setF l a b)))) := by kernel_rfl
theorem v24 (N : Int) (l : List Pq) (a b : Int) (hl : L9 l) : fnVc (tab [kVal' []] [(0, .of (lHas l a b 7))]) Try.f24 [rlV N 0 l, .i .i64 a, .i .i64 b] [arP l] (plainIs (.b (validF N l && setF l a b))) := by
  rw [v24_eq]
  simp only [eq_self, true_and, and_true, implies_true, imp_self, mkN_ps, mkN_rs, mkN_self, mkN_len, PLoop.of, lCnt, lVal, lSet, lUni, lInv, lOut, lInn, lTbl, lIdx, lHas, lSwp, AV.len]
  refine ⟨hl, fun h => ?_, fun h => ⟨(), ⟨0, by simp, rfl⟩, fun i hi => ⟨fun hlt => ?_, fun hlt => ?_⟩⟩⟩
  · simp at h; simp [h]
  · have hv : validF N l = true := by simpa using h
    have hi2 := lt_len hlt
    refine ⟨bd hi2, hi2, fun _ => bd hi2, fun _ => hi2, fun hc => ?_, fun hc => ?_⟩
    · have : setF l a b = true := setF_iff.2 (by simp at hc; rw [← hc.1, ← hc.2]; exact nth_mem hi2)
      rw [hv, this]; rfl
    · refine ⟨i + 1, ⟨by omega, ?_⟩, by omega, w64_sub (by omega) hl⟩
      rw [setF_take hi2, hi.2, Bool.or_false, ← hc]
      rw [Bool.eq_iff_iff]; simp; constructor <;> rintro ⟨rfl, rfl⟩ <;> exact ⟨rfl, rfl⟩
  · have hi2 := ge_len hlt hi.1
    have hs := hi.2
    rw [hi2, List.take_length] at hs
    rw [hs, Bool.and_false]
theorem v45_eq (A : Int) (a : List Pq) (B : Int) (b : List Pq) : (fnVc (tab [kVal []] []) Try.f45 [rlV A 0 a, rlV B 1 b] [arP a, arP b] (plainIs (.b (bothF A a B b)))) = (a.length = a.length ∧
 (mkN (fun (j : Nat) => ((nthD ((0 : Int), (0 : Int)) a j).fst, (nthD ((0 : Int), (0 : Int)) a j).snd))
 a.length).length ≤
 (1099511627776 : Nat) ∧
 (validF A
 (mkN (fun (j : Nat) => ((nthD ((0 : Int), (0 : Int)) a j).fst, (nthD ((0 : Int), (0 : Int)) a j).snd))
 a.length) =
 true →
 b.length = b.length) ∧
 (validF A
 (mkN (fun (j : Nat) => ((nthD ((0 : Int), (0 : Int)) a j).fst, (nthD ((0 : Int), (0 : Int)) a j).snd))
 a.length) =
 true →
 (mkN (fun (j : Nat) => ((nthD ((0 : Int), (0 : Int)) b j).fst, (nthD ((0 : Int), (0 : Int)) b j).snd))
 b.length).length ≤
 (1099511627776 : Nat)) ∧
 (validF A
 (mkN (fun (j : Nat) => ((nthD ((0 : Int), (0 : Int)) a j).fst, (nthD ((0 : Int), (0 : Int)) a j).snd))
 a.length) &&
 validF B
 (mkN (fun (j : Nat) => ((nthD ((0 : Int), (0 : Int)) b j).fst, (nthD ((0 : Int), (0 : Int)) b j).snd))
 b.length) &&
 A == B) =
 bothF A a B b) := by kernel_rfl
theorem v45 (A : Int) (a : List Pq) (B : Int) (b : List Pq) (ha : L9 a) (hb : L9 b) : fnVc (tab [kVal []] []) Try.f45 [rlV A 0 a, rlV B 1 b] [arP a, arP b] (plainIs (.b (bothF A a B b))) := by
  rw [v45_eq]
  simp only [eq_self, true_and, and_true, implies_true, imp_self, mkN_ps, mkN_rs, mkN_self, mkN_len, PLoop.of, lCnt, lVal, lSet, lUni, lInv, lOut, lInn, lTbl, lIdx, lHas, lSwp, AV.len]
  exact ⟨ha, fun _ => hb, by rw [bothF, Bool.and_assoc]⟩
theorem v25_eq (N : Int) (l : List Pq) : (fnVc (tab [kVal [], kSet [], kNor []] []) Try.f25 [rlV N 0 l] [arP l] (resIs (relT (bif validF N l then N else 0) (bifL (validF N l) (normL N (setF l))).length) 38 (bifL (validF N l) (normL N (setF l))).length (psCols (bifL (validF N l) (normL N (setF l)))))) = (l.length = l.length ∧
 (mkN (fun (j : Nat) => ((nthD ((0 : Int), (0 : Int)) l j).fst, (nthD ((0 : Int), (0 : Int)) l j).snd))
 l.length).length ≤
 (1099511627776 : Nat) ∧
 ((!validF N
 (mkN (fun (j : Nat) => ((nthD ((0 : Int), (0 : Int)) l j).fst, (nthD ((0 : Int), (0 : Int)) l j).snd))
 l.length)) =
 true →
 (bifL (validF N l) (normL N (setF l))).length = (0 : Nat) ∧
 ((0 : Int) = bif validF N l then N else (0 : Int)) ∧
 (bifL (validF N l) (normL N (setF l))).length = (0 : Nat) ∧ True) ∧
 ((!validF N
 (mkN (fun (j : Nat) => ((nthD ((0 : Int), (0 : Int)) l j).fst, (nthD ((0 : Int), (0 : Int)) l j).snd))
 l.length)) =
 false →
 l.length = l.length ∧
 (mkN (fun (j : Nat) => ((nthD ((0 : Int), (0 : Int)) l j).fst, (nthD ((0 : Int), (0 : Int)) l j).snd))
 l.length).length ≤
 (1099511627776 : Nat) ∧
 ((0 : Int) ≤ N ∧ N ≤ (64 : Int)) ∧
 (AV.ps
 (normL N
 (setF
 (mkN
 (fun (j : Nat) =>
 ((nthD ((0 : Int), (0 : Int)) l j).fst, (nthD ((0 : Int), (0 : Int)) l j).snd))
 l.length)))).len =
 (bifL (validF N l) (normL N (setF l))).length ∧
 ((∀ (j : Nat),
 j < (bifL (validF N l) (normL N (setF l))).length →
 (nthD ((0 : Int), (0 : Int))
 (normL N
 (setF
 (mkN
 (fun (j : Nat) =>
 ((nthD ((0 : Int), (0 : Int)) l j).fst, (nthD ((0 : Int), (0 : Int)) l j).snd))
 l.length)))
 j).fst =
 (nthD ((0 : Int), (0 : Int)) (bifL (validF N l) (normL N (setF l))) j).fst) ∧
 (∀ (j : Nat),
 j < (bifL (validF N l) (normL N (setF l))).length →
 (nthD ((0 : Int), (0 : Int))
 (normL N
 (setF
 (mkN
 (fun (j : Nat) =>
 ((nthD ((0 : Int), (0 : Int)) l j).fst, (nthD ((0 : Int), (0 : Int)) l j).snd))
 l.length)))
 j).snd =
 (nthD ((0 : Int), (0 : Int)) (bifL (validF N l) (normL N (setF l))) j).snd) ∧
 True) ∧
 (N = bif validF N l then N else (0 : Int)) ∧
 (AV.ps
 (normL N
 (setF
 (mkN
 (fun (j : Nat) =>
 ((nthD ((0 : Int), (0 : Int)) l j).fst, (nthD ((0 : Int), (0 : Int)) l j).snd))
 l.length)))).len =
 (bifL (validF N l) (normL N (setF l))).length ∧
 True)) := by kernel_rfl
theorem v25 (N : Int) (l : List Pq) (hl : L9 l) : fnVc (tab [kVal [], kSet [], kNor []] []) Try.f25 [rlV N 0 l] [arP l] (resIs (relT (bif validF N l then N else 0) (bifL (validF N l) (normL N (setF l))).length) 38 (bifL (validF N l) (normL N (setF l))).length (psCols (bifL (validF N l) (normL N (setF l))))) := by
  rw [v25_eq]
  simp only [eq_self, true_and, and_true, implies_true, imp_self, mkN_ps, mkN_rs, mkN_self, mkN_len, PLoop.of, lCnt, lVal, lSet, lUni, lInv, lOut, lInn, lTbl, lIdx, lHas, lSwp, AV.len]
  refine ⟨hl, fun h => ?_, fun h => ?_⟩
  · have hv : validF N l = false := by simpa using h
    simp [hv, bifL]
  · have hv : validF N l = true := by simpa using h
    obtain ⟨h1, h2, h3⟩ := validF_iff.1 hv
    rw [hv]
    simp only [bifL, cond_true, eq_self, true_and, and_true, implies_true]
    exact ⟨hl, h1, h2⟩
theorem v26_eq (N : Int) (l : List Pq) : (fnVc (tab [kVal' [], kTbl [], kLst []] []) Try.f26 [rlV N 0 l] [arP l] (resIs (relT (bif validF N l then N else 0) (bifL (validF N l) (normL N (setF l))).length) 38 (bifL (validF N l) (normL N (setF l))).length (psCols (bifL (validF N l) (normL N (setF l)))))) = (l.length = l.length ∧
 (mkN (fun (j : Nat) => ((nthD ((0 : Int), (0 : Int)) l j).fst, (nthD ((0 : Int), (0 : Int)) l j).snd))
 l.length).length ≤
 (1099511627776 : Nat) ∧
 ((!validF N
 (mkN (fun (j : Nat) => ((nthD ((0 : Int), (0 : Int)) l j).fst, (nthD ((0 : Int), (0 : Int)) l j).snd))
 l.length)) =
 true →
 (bifL (validF N l) (normL N (setF l))).length = (0 : Nat) ∧
 ((0 : Int) = bif validF N l then N else (0 : Int)) ∧
 (bifL (validF N l) (normL N (setF l))).length = (0 : Nat) ∧ True) ∧
 ((!validF N
 (mkN (fun (j : Nat) => ((nthD ((0 : Int), (0 : Int)) l j).fst, (nthD ((0 : Int), (0 : Int)) l j).snd))
 l.length)) =
 false →
 l.length = l.length ∧
 validF N
 (mkN (fun (j : Nat) => ((nthD ((0 : Int), (0 : Int)) l j).fst, (nthD ((0 : Int), (0 : Int)) l j).snd))
 l.length) =
 true ∧
 (mkN (fun (j : Nat) => ((nthD ((0 : Int), (0 : Int)) l j).fst, (nthD ((0 : Int), (0 : Int)) l j).snd))
 l.length).length ≤
 (1099511627776 : Nat) ∧
 (AV.bs
 (tblL N.toNat
 (setF
 (mkN
 (fun (j : Nat) =>
 ((nthD ((0 : Int), (0 : Int)) l j).fst, (nthD ((0 : Int), (0 : Int)) l j).snd))
 l.length)))).len =
 (AV.bs
 (tblL N.toNat
 (setF
 (mkN
 (fun (j : Nat) =>
 ((nthD ((0 : Int), (0 : Int)) l j).fst, (nthD ((0 : Int), (0 : Int)) l j).snd))
 l.length)))).len ∧
 ((0 : Int) ≤ N ∧ N ≤ (64 : Int)) ∧
 (mkN
 (nthD false
 (tblL N.toNat
 (setF
 (mkN
 (fun (j : Nat) =>
 ((nthD ((0 : Int), (0 : Int)) l j).fst, (nthD ((0 : Int), (0 : Int)) l j).snd))
 l.length))))
 (AV.bs
 (tblL N.toNat
 (setF
 (mkN
 (fun (j : Nat) =>
 ((nthD ((0 : Int), (0 : Int)) l j).fst, (nthD ((0 : Int), (0 : Int)) l j).snd))
 l.length)))).len).length =
 N.toNat * N.toNat ∧
 (AV.ps
 (normL N
 (tblF N.toNat
 (mkN
 (nthD false
 (tblL N.toNat
 (setF
 (mkN
 (fun (j : Nat) =>
 ((nthD ((0 : Int), (0 : Int)) l j).fst,
 (nthD ((0 : Int), (0 : Int)) l j).snd))
 l.length))))
 (AV.bs
 (tblL N.toNat
 (setF
 (mkN
 (fun (j : Nat) =>
 ((nthD ((0 : Int), (0 : Int)) l j).fst,
 (nthD ((0 : Int), (0 : Int)) l j).snd))
 l.length)))).len)))).len =
 (bifL (validF N l) (normL N (setF l))).length ∧
 ((∀ (j : Nat),
 j < (bifL (validF N l) (normL N (setF l))).length →
 (nthD ((0 : Int), (0 : Int))
 (normL N
 (tblF N.toNat
 (mkN
 (nthD false
 (tblL N.toNat
 (setF
 (mkN
 (fun (j : Nat) =>
 ((nthD ((0 : Int), (0 : Int)) l j).fst,
 (nthD ((0 : Int), (0 : Int)) l j).snd))
 l.length))))
 (AV.bs
 (tblL N.toNat
 (setF
 (mkN
 (fun (j : Nat) =>
 ((nthD ((0 : Int), (0 : Int)) l j).fst,
 (nthD ((0 : Int), (0 : Int)) l j).snd))
 l.length)))).len)))
 j).fst =
 (nthD ((0 : Int), (0 : Int)) (bifL (validF N l) (normL N (setF l))) j).fst) ∧
 (∀ (j : Nat),
 j < (bifL (validF N l) (normL N (setF l))).length →
 (nthD ((0 : Int), (0 : Int))
 (normL N
 (tblF N.toNat
 (mkN
 (nthD false
 (tblL N.toNat
 (setF
 (mkN
 (fun (j : Nat) =>
 ((nthD ((0 : Int), (0 : Int)) l j).fst,
 (nthD ((0 : Int), (0 : Int)) l j).snd))
 l.length))))
 (AV.bs
 (tblL N.toNat
 (setF
 (mkN
 (fun (j : Nat) =>
 ((nthD ((0 : Int), (0 : Int)) l j).fst,
 (nthD ((0 : Int), (0 : Int)) l j).snd))
 l.length)))).len)))
 j).snd =
 (nthD ((0 : Int), (0 : Int)) (bifL (validF N l) (normL N (setF l))) j).snd) ∧
 True) ∧
 (N = bif validF N l then N else (0 : Int)) ∧
 (AV.ps
 (normL N
 (tblF N.toNat
 (mkN
 (nthD false
 (tblL N.toNat
 (setF
 (mkN
 (fun (j : Nat) =>
 ((nthD ((0 : Int), (0 : Int)) l j).fst,
 (nthD ((0 : Int), (0 : Int)) l j).snd))
 l.length))))
 (AV.bs
 (tblL N.toNat
 (setF
 (mkN
 (fun (j : Nat) =>
 ((nthD ((0 : Int), (0 : Int)) l j).fst,
 (nthD ((0 : Int), (0 : Int)) l j).snd))
 l.length)))).len)))).len =
 (bifL (validF N l) (normL N (setF l))).length ∧
 True)) := by kernel_rfl
theorem v26 (N : Int) (l : List Pq) (hl : L9 l) : fnVc (tab [kVal' [], kTbl [], kLst []] []) Try.f26 [rlV N 0 l] [arP l] (resIs (relT (bif validF N l then N else 0) (bifL (validF N l) (normL N (setF l))).length) 38 (bifL (validF N l) (normL N (setF l))).length (psCols (bifL (validF N l) (normL N (setF l))))) := by
  rw [v26_eq]
  simp only [eq_self, true_and, and_true, implies_true, imp_self, mkN_ps, mkN_rs, mkN_self, mkN_len, PLoop.of, lCnt, lVal, lSet, lUni, lInv, lOut, lInn, lTbl, lIdx, lHas, lSwp, AV.len]
  refine ⟨hl, fun h => ?_, fun h => ?_⟩
  · have hv : validF N l = false := by simpa using h
    simp [hv, bifL]
  · have hv : validF N l = true := by simpa using h
    obtain ⟨h1, h2, h3⟩ := validF_iff.1 hv
    have hs : normL N (tblF N.toNat (tblL N.toNat (setF l))) = normL N (setF l) := normL_congr fun a b ha hb => tblF_tblL (by omega) (by omega)
    rw [hs, hv]
    simp only [bifL, cond_true, eq_self, true_and, and_true, implies_true, tblL_len]
    exact ⟨hl, h1, h2⟩
end Go.Proofs.Ytcbmbnlgilampaa
