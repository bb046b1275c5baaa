/-
  The linext layer: arguments that are relations.
-/
import Derived.Test.YtiokmglajigngaaW19
import Derived.WalkKit
import Derived.ProofKit
import Derived.OpenShut
import Derived.Deep.DeepHandedRow
import Derived.Test.YtiokmglajigngaaW17
namespace Go.Proofs.Ytiokmglajigngaa
open Go Go.Proofs.Ytiokmglajigngaa.Sx
set_option maxRecDepth 100000
set_option linter.unusedSimpArgs false
set_option linter.unusedVariables false
theorem v40z_eq  : (fnVc (tab [] []) Try.f40 [.nilsl] [] (resIs (.sl 0 0) 3 0 (isCols []))) = ((0 : Nat) = (0 : Nat) ∧ ((0 : Nat) = (0 : Nat) ∧ True) ∧ (0 : Nat) = (0 : Nat)) := by kernel_rfl
theorem v40z   : fnVc (tab [] []) Try.f40 [.nilsl] [] (resIs (.sl 0 0) 3 0 (isCols [])) := by
  rw [v40z_eq]
  exact ⟨rfl, ⟨rfl, trivial⟩, rfl⟩
theorem clnZ : CallOk Try.prog [] 40 kClnZ.2 := callOk_nil Try.func40 fo40 fun m vs ar h _ => by
  unfold kClnZ at h
  simp only at h
  split at h
  · cases h
    refine ⟨tab [] [], tabOk mNil, fun _ => none, [], [.nilsl], fun ρ xs hd => ?_, rfl, rfl, fun i k0 hk => (by simp at hk), fun g i hg => (by cases hg), rfl, .inr (.inl ⟨.sl 0 0, 3, 0, isCols [], rfl, by decide, rfl, rfl, v40z⟩)⟩
    exact hd.conv2 (fun v hv => by cases hv; exact .nilsl) (fun vs hvs => hvs.nilc)
  · cases h
theorem snoc_nth {X : List (List Int)} {x : List Int} {k : Nat} (hX : X.length = k) {j : Nat} (hj : j < k + 1) : nthD [] (X ++ [x]) j = bif Nat.blt j k then nthD [] X j else x := by
  by_cases h : j < k
  · rw [nthD_lt _ (by omega), blt_t h, cond_true]
  · have : j = X.length := by omega
    rw [this, nthD_at, blt_f (by omega), cond_false]
theorem v39z_eq (lim : Int) (g2 : Nat → Nat → Int) (len : Nat → Nat) (k : Nat) (s : Int) (x : Nat → Option Addr × Nat) : (fnVc (tabT [kClnZ] [] [] [] (pinsOf x [6] 7) [1000000]) Try.f39 (visVA s) (visMZ lim g2 len k) (visPostZ lim (rowsG g2 len k ++ [[]]) (decide (((k + 1 : Nat) : Int) ≤ lim)))) = ((((0 : Int) == (0 : Int)) = true →
 (0 : Nat) = (0 : Nat) ∧
 k = k ∧
 (1 : Nat) = (1 : Nat) ∧
 (k + (1 : Nat)) * (24 : Nat) ≤ (140737488355328 : Nat) ∧
 k + (1 : Nat) ≤ (9223372036854775807 : Nat) ∧
 decide ((↑(k + (1 : Nat)) : Int) ≤ lim) = decide ((↑(k + (1 : Nat)) : Int) ≤ lim) ∧
 True ∧
 ((0 : Int) = (0 : Int) ∧ (0 : Nat) = (0 : Nat)) ∧
 k + (1 : Nat) = (rowsG g2 len k ++ [[]]).length ∧
 lim = lim ∧
 (True ∧ True ∧ True ∧ True ∧ True) ∧
 ((0 : Nat) = (0 : Nat) ∧
 (∀ (j : Nat), j < (0 : Nat) → nthD (0 : Int) [] j = nthD (0 : Int) [] j) ∧ True) ∧
 (k + (1 : Nat) = (rowsG g2 len k ++ [[]]).length ∧
 ((∀ (j : Nat),
 j < (rowsG g2 len k ++ [[]]).length →
 (bif j.blt k then len j else (0 : Nat)) =
 (nthD [] (rowsG g2 len k ++ [[]]) j).length) ∧
 (∀ (j : Nat),
 j < (rowsG g2 len k ++ [[]]).length →
 ∀ (i : Nat),
 i < (nthD [] (rowsG g2 len k ++ [[]]) j).length →
 (bif j.blt k then g2 j else nthD (0 : Int) []) i =
 nthD (0 : Int) (nthD [] (rowsG g2 len k ++ [[]]) j) i) ∧
 True) ∧
 True) ∧
 True) ∧
 (((0 : Int) == (0 : Int)) = false → False)) := by kernel_rfl
theorem v39z (lim : Int) (g2 : Nat → Nat → Int) (len : Nat → Nat) (k : Nat) (s : Int) (x : Nat → Option Addr × Nat) (hk : k ≤ 1048576) : fnVc (tabT [kClnZ] [] [] [] (pinsOf x [6] 7) [1000000]) Try.f39 (visVA s) (visMZ lim g2 len k) (visPostZ lim (rowsG g2 len k ++ [[]]) (decide (((k + 1 : Nat) : Int) ≤ lim))) := by
  rw [v39z_eq]
  simp only [eq_self, true_and, and_true, implies_true, imp_self, psK_eq, mkN_ps, mkN_rs, mkN_self, mkN_len, PLoop.of, lCnt, AV.len, lAl, lLsts]
  have hLl : (rowsG g2 len k).length = k := rowsG_len
  have hll : (rowsG g2 len k ++ [[]]).length = k + 1 := by rw [List.length_append, hLl]; rfl
  rw [hll]
  refine ⟨fun _ => ⟨by omega, by omega, ?_⟩, fun h => (by cases h)⟩
  first
  | refine ⟨rfl, rfl, fun j hj => ?_, fun j hj i hi => ?_⟩
    · rw [snoc_nth hLl hj]
      cases hb : Nat.blt j k
      · rfl
      · rw [cond_true, cond_true, rowsG_nth (by rwa [Nat.blt_eq] at hb), mkN_len]
    · rw [snoc_nth hLl hj] at hi ⊢
      cases hb : Nat.blt j k
      · rw [hb] at hi; exact absurd hi (Nat.not_lt_zero _)
      · rw [hb, cond_true, rowsG_nth (by rwa [Nat.blt_eq] at hb), mkN_len] at hi
        rw [cond_true, cond_true, rowsG_nth (by rwa [Nat.blt_eq] at hb), nthD_mkN _ _ hi]
theorem v19n_eq (N : Int) (l : List Pq) (lim : Int) (B : List Int) : (fnVc (tabT [kChk [none, none, none, none, some (.us B)]] [] [] [(10, fun _ _ => ghA)] [] []) Try.f19 [rlV N 0 l, .i .i64 lim] [arP l] (resIs (.tup [.sl 0 (alL N l lim).length, .i .i64 (alE N l lim)]) 25 (alL N l lim).length (rsCols (alL N l lim)))) = (l.length = l.length ∧
 (psK l).length ≤
 (1099511627776 : Nat) ∧
 (bif
 okP N
 (psK l) then
 befL N.toNat
 (psK l)
 else []) =
 B ∧
 ((errP N
 (psK l) !=
 (0 : Int)) =
 true →
 (0 : Nat) = (alL N l lim).length ∧
 ((alL N l lim).length = (0 : Nat) ∧ True) ∧
 (0 : Nat) = (alL N l lim).length ∧
 errP N
 (psK l) =
 alE N l lim ∧
 True) ∧
 ((errP N
 (psK l) !=
 (0 : Int)) =
 false →
 ((decide (lim < (1 : Int)) || decide (lim > (1048576 : Int))) = true →
 (0 : Nat) = (alL N l lim).length ∧
 ((alL N l lim).length = (0 : Nat) ∧ True) ∧
 (0 : Nat) = (alL N l lim).length ∧ (2 : Int) = alE N l lim ∧ True) ∧
 ((decide (lim < (1 : Int)) || decide (lim > (1048576 : Int))) = false →
 (0 : Nat) = (0 : Nat) ∧ (0 : Nat) = (0 : Nat) ∧ False))) := by kernel_rfl
theorem v19n (N : Int) (l : List Pq) (lim : Int) (B : List Int) (hB : B = befP N l) (hl : L9 l) (hno : okP N l = false ∨ ¬ lim ≤ 1048576) : fnVc (tabT [kChk [none, none, none, none, some (.us B)]] [] [] [(10, fun _ _ => ghA)] [] []) Try.f19 [rlV N 0 l, .i .i64 lim] [arP l] (resIs (.tup [.sl 0 (alL N l lim).length, .i .i64 (alE N l lim)]) 25 (alL N l lim).length (rsCols (alL N l lim))) := by
  rw [v19n_eq]
  simp only [eq_self, true_and, and_true, implies_true, imp_self, psK_eq, mkN_ps, mkN_rs, mkN_self, mkN_len, PLoop.of, lCnt, AV.len, lAl, lLsts]
  subst hB
  refine ⟨hl, rfl, fun h => ?_, fun h => ⟨fun ho => ?_, fun ho => ?_⟩⟩
  · have hP := err_no h
    rw [alL, alE, hP]
    exact ⟨rfl, rfl, rfl, rfl⟩
  · have hP := err_yes h
    have ho : alO lim = true := ho
    rw [alL, alE, hP, ho]
    exact ⟨rfl, rfl, rfl, rfl⟩
  · have hP := err_yes h
    rw [Bool.or_eq_false_iff] at ho
    have := of_decide_eq_false ho.2
    rcases hno with h | h
    · rw [hP] at h; cases h
    · omega
theorem v19_eq (N : Int) (l : List Pq) (lim : Int) (B : List Int) : (fnVc (tabT [kChk [none, none, none, none, some (.us B)]] [(39, kVisA N l lim (N.toNat + 1))] [] [(10, fun _ _ => ghA)] [] []) Try.f19 [rlV N 0 l, .i .i64 lim] [arP l] (resIs (.tup [.sl 0 (alL N l lim).length, .i .i64 (alE N l lim)]) 25 (alL N l lim).length (rsCols (alL N l lim)))) = (l.length = l.length ∧
 (psK l).length ≤
 (1099511627776 : Nat) ∧
 (bif
 okP N
 (psK l) then
 befL N.toNat
 (psK l)
 else []) =
 B ∧
 ((errP N
 (psK l) !=
 (0 : Int)) =
 true →
 (0 : Nat) = (alL N l lim).length ∧
 ((alL N l lim).length = (0 : Nat) ∧ True) ∧
 (0 : Nat) = (alL N l lim).length ∧
 errP N
 (psK l) =
 alE N l lim ∧
 True) ∧
 ((errP N
 (psK l) !=
 (0 : Int)) =
 false →
 ((decide (lim < (1 : Int)) || decide (lim > (1048576 : Int))) = true →
 (0 : Nat) = (alL N l lim).length ∧
 ((alL N l lim).length = (0 : Nat) ∧ True) ∧
 (0 : Nat) = (alL N l lim).length ∧ (2 : Int) = alE N l lim ∧ True) ∧
 ((decide (lim < (1 : Int)) || decide (lim > (1048576 : Int))) = false →
 (0 : Nat) = (0 : Nat) ∧
 (0 : Nat) = (0 : Nat) ∧
 (0 : Nat) = (0 : Nat) ∧
 (0 : Nat) = (0 : Nat) ∧
 (AV.us B).len = (befL N.toNat l).length ∧
 (AV.us B).len = (befL N.toNat l).length ∧
 nthD (0 : Int) B = nthD (0 : Int) (befL N.toNat l) ∧
 (bif
 okP N
 (psK l) then
 N
 else (0 : Int)) =
 N ∧
 lim = lim ∧
 (0 : Int) = (↑(maskM (mkN (fun (x : Nat) => (0 : Int)) (0 : Nat))) : Int) ∧
 (∀ (y : Int),
 List.Mem y (mkN (fun (x : Nat) => (0 : Int)) (0 : Nat)) → (0 : Int) ≤ y ∧ y < N) ∧
 (mkN (fun (x : Nat) => (0 : Int)) (0 : Nat)).length ≤ N.toNat ∧
 (0 : Nat) < N.toNat ∧
 N.toNat <
 (mkN (fun (x : Nat) => (0 : Int)) (0 : Nat)).length +
 (N.toNat + (1 : Nat)) ∧
 (↑(rowsG (fun (x x_1 : Nat) => (0 : Int)) (fun (x : Nat) => (0 : Nat))
 (0 : Nat)).length :
 Int) ≤
 lim ∧
 ((!vsB N l lim (mkN (fun (x : Nat) => (0 : Int)) (0 : Nat))
 (rowsG (fun (x x_1 : Nat) => (0 : Int))
 (fun (x : Nat) => (0 : Nat)) (0 : Nat))) =
 true →
 (0 : Nat) = (alL N l lim).length ∧
 ((alL N l lim).length = (0 : Nat) ∧ True) ∧
 (0 : Nat) = (alL N l lim).length ∧ (4 : Int) = alE N l lim ∧ True) ∧
 ((!vsB N l lim (mkN (fun (x : Nat) => (0 : Int)) (0 : Nat))
 (rowsG (fun (x x_1 : Nat) => (0 : Int))
 (fun (x : Nat) => (0 : Nat)) (0 : Nat))) =
 false →
 (vsL N l lim (mkN (fun (x : Nat) => (0 : Int)) (0 : Nat))
 (rowsG (fun (x x_1 : Nat) => (0 : Int))
 (fun (x : Nat) => (0 : Nat)) (0 : Nat))).length =
 (alL N l lim).length ∧
 (((∀ (j : Nat),
 j < (alL N l lim).length →
 (nthD []
 (vsL N l lim
 (mkN (fun (x : Nat) => (0 : Int)) (0 : Nat))
 (rowsG (fun (x x_1 : Nat) => (0 : Int))
 (fun (x : Nat) => (0 : Nat)) (0 : Nat)))
 j).length =
 (nthD [] (alL N l lim) j).length) ∧
 (∀ (j : Nat),
 j < (alL N l lim).length →
 ∀ (i : Nat),
 i < (nthD [] (alL N l lim) j).length →
 nthD (0 : Int)
 (nthD []
 (vsL N l lim
 (mkN (fun (x : Nat) => (0 : Int)) (0 : Nat))
 (rowsG (fun (x x_1 : Nat) => (0 : Int))
 (fun (x : Nat) => (0 : Nat)) (0 : Nat)))
 j)
 i =
 nthD (0 : Int) (nthD [] (alL N l lim) j) i) ∧
 True) ∧
 True) ∧
 (vsL N l lim (mkN (fun (x : Nat) => (0 : Int)) (0 : Nat))
 (rowsG (fun (x x_1 : Nat) => (0 : Int))
 (fun (x : Nat) => (0 : Nat)) (0 : Nat))).length =
 (alL N l lim).length ∧
 (0 : Int) = alE N l lim ∧ True)))) := by kernel_rfl
theorem v19 (N : Int) (l : List Pq) (lim : Int) (B : List Int) (hB : B = befP N l) (hl : L9 l) (hP : okP N l = true) (h0 : 0 < N.toNat) : fnVc (tabT [kChk [none, none, none, none, some (.us B)]] [(39, kVisA N l lim (N.toNat + 1))] [] [(10, fun _ _ => ghA)] [] []) Try.f19 [rlV N 0 l, .i .i64 lim] [arP l] (resIs (.tup [.sl 0 (alL N l lim).length, .i .i64 (alE N l lim)]) 25 (alL N l lim).length (rsCols (alL N l lim))) := by
  rw [v19_eq]
  simp only [eq_self, true_and, and_true, implies_true, imp_self, psK_eq, mkN_ps, mkN_rs, mkN_self, mkN_len, PLoop.of, lCnt, AV.len, lAl, lLsts]
  subst hB
  refine ⟨hl, rfl, fun h => ?_, fun h => ⟨fun ho => ?_, fun ho => ?_⟩⟩
  · rw [err_ok, hP] at h; cases h
  · have ho : alO lim = true := ho
    rw [alL, alE, hP, ho]
    exact ⟨rfl, rfl, rfl, rfl⟩
  have ho2 : alO lim = false := ho
  rw [Bool.or_eq_false_iff] at ho
  have hl1 := of_decide_eq_false ho.1
  have hl2 := of_decide_eq_false ho.2
  obtain ⟨e, hN, hN2, hn, hv⟩ := befP_ok hP
  have eP : mkN (fun _ : Nat => (0 : Int)) 0 = [] := rfl
  have eL : rowsG (fun _ _ => 0) (fun _ => 0) 0 = [] := rfl
  have hvb : vsB N l lim [] [] = alB N l lim := rfl
  rw [eP, eL, hvb]
  refine ⟨by rw [e], by rw [e], by rw [e], by rw [hP]; rfl, rfl, fun y hy => (by cases hy), Nat.zero_le _, h0, by omega, by rw [List.length_nil]; omega, fun hb => ?_, fun hb => ?_⟩
  · have hb : alB N l lim = false := by simpa using hb
    rw [alL, alE, hP, ho2, hb]
    exact ⟨rfl, rfl, rfl, rfl⟩
  · have hb : alB N l lim = true := by simpa using hb
    have hA : alL N l lim = extP N l [] := by rw [alL, hP, ho2, hb]; rfl
    have hE : alE N l lim = 0 := by rw [alE, hP, ho2, hb]; rfl
    have hvl : vsL N l lim [] [] = extP N l [] := vsL_all hb
    rw [hA, hE, hvl]
    exact ⟨rfl, ⟨fun _ _ => rfl, fun _ _ _ _ => rfl⟩, rfl, rfl⟩
theorem v19z_eq (N : Int) (l : List Pq) (lim : Int) (B : List Int) : (fnVc (tabT [kChk [none, none, none, none, some (.us B)]] [(39, kVisZ lim)] [] [(10, fun _ _ => ghZ)] [] []) Try.f19 [rlV N 0 l, .i .i64 lim] [arP l] (resIs (.tup [.sl 0 (alL N l lim).length, .i .i64 (alE N l lim)]) 25 (alL N l lim).length (rsCols (alL N l lim)))) = (l.length = l.length ∧
 (psK l).length ≤
 (1099511627776 : Nat) ∧
 (bif
 okP N
 (psK l) then
 befL N.toNat
 (psK l)
 else []) =
 B ∧
 ((errP N
 (psK l) !=
 (0 : Int)) =
 true →
 (0 : Nat) = (alL N l lim).length ∧
 ((alL N l lim).length = (0 : Nat) ∧ True) ∧
 (0 : Nat) = (alL N l lim).length ∧
 errP N
 (psK l) =
 alE N l lim ∧
 True) ∧
 ((errP N
 (psK l) !=
 (0 : Int)) =
 false →
 ((decide (lim < (1 : Int)) || decide (lim > (1048576 : Int))) = true →
 (0 : Nat) = (alL N l lim).length ∧
 ((alL N l lim).length = (0 : Nat) ∧ True) ∧
 (0 : Nat) = (alL N l lim).length ∧ (2 : Int) = alE N l lim ∧ True) ∧
 ((decide (lim < (1 : Int)) || decide (lim > (1048576 : Int))) = false →
 (0 : Nat) = (0 : Nat) ∧
 (0 : Nat) = (0 : Nat) ∧
 (AV.us B).len = (0 : Nat) ∧
 (AV.us B).len = (0 : Nat) ∧
 nthD (0 : Int) B = nthD (0 : Int) [] ∧
 (bif
 okP N
 (psK l) then
 N
 else (0 : Int)) =
 (0 : Int) ∧
 lim = lim ∧
 (0 : Nat) ≤ (1048576 : Nat) ∧
 ((!decide ((↑((0 : Nat) + (1 : Nat)) : Int) ≤ lim)) = true →
 (0 : Nat) = (alL N l lim).length ∧
 ((alL N l lim).length = (0 : Nat) ∧ True) ∧
 (0 : Nat) = (alL N l lim).length ∧ (4 : Int) = alE N l lim ∧ True) ∧
 ((!decide ((↑((0 : Nat) + (1 : Nat)) : Int) ≤ lim)) = false →
 (rowsG (fun (x x_1 : Nat) => (0 : Int)) (fun (x : Nat) => (0 : Nat)) (0 : Nat) ++
 [[]]).length =
 (alL N l lim).length ∧
 (((∀ (j : Nat),
 j < (alL N l lim).length →
 (nthD []
 (rowsG (fun (x x_1 : Nat) => (0 : Int)) (fun (x : Nat) => (0 : Nat))
 (0 : Nat) ++
 [[]])
 j).length =
 (nthD [] (alL N l lim) j).length) ∧
 (∀ (j : Nat),
 j < (alL N l lim).length →
 ∀ (i : Nat),
 i < (nthD [] (alL N l lim) j).length →
 nthD (0 : Int)
 (nthD []
 (rowsG (fun (x x_1 : Nat) => (0 : Int))
 (fun (x : Nat) => (0 : Nat)) (0 : Nat) ++
 [[]])
 j)
 i =
 nthD (0 : Int) (nthD [] (alL N l lim) j) i) ∧
 True) ∧
 True) ∧
 (rowsG (fun (x x_1 : Nat) => (0 : Int)) (fun (x : Nat) => (0 : Nat)) (0 : Nat) ++
 [[]]).length =
 (alL N l lim).length ∧
 (0 : Int) = alE N l lim ∧ True)))) := by kernel_rfl
theorem v19z (N : Int) (l : List Pq) (lim : Int) (B : List Int) (hB : B = befP N l) (hl : L9 l) (hP : okP N l = true) (h0 : N.toNat = 0) : fnVc (tabT [kChk [none, none, none, none, some (.us B)]] [(39, kVisZ lim)] [] [(10, fun _ _ => ghZ)] [] []) Try.f19 [rlV N 0 l, .i .i64 lim] [arP l] (resIs (.tup [.sl 0 (alL N l lim).length, .i .i64 (alE N l lim)]) 25 (alL N l lim).length (rsCols (alL N l lim))) := by
  rw [v19z_eq]
  simp only [eq_self, true_and, and_true, implies_true, imp_self, psK_eq, mkN_ps, mkN_rs, mkN_self, mkN_len, PLoop.of, lCnt, AV.len, lAl, lLsts]
  subst hB
  refine ⟨hl, rfl, fun h => ?_, fun h => ⟨fun ho => ?_, fun ho => ?_⟩⟩
  · rw [err_ok, hP] at h; cases h
  · have ho : alO lim = true := ho
    rw [alL, alE, hP, ho]
    exact ⟨rfl, rfl, rfl, rfl⟩
  have ho2 : alO lim = false := ho
  rw [Bool.or_eq_false_iff] at ho
  have hl1 := of_decide_eq_false ho.1
  have hl2 := of_decide_eq_false ho.2
  obtain ⟨e, hN, hN2, hn, hv⟩ := befP_ok hP
  have eL : rowsG (fun _ _ => 0) (fun _ => 0) 0 = [] := rfl
  have hN0 : N = 0 := by have := (validF_iff.1 hv).1; omega
  have hx : extP N l [] = [[]] := extP_full (by rw [h0]; rfl)
  have hb : alB N l lim = true := by rw [alB, hx]; exact Nat.ble_eq_true_of_le (by simp; omega)
  have hA : alL N l lim = [[]] := by rw [alL, hP, ho2, hb, hx]; rfl
  have hE : alE N l lim = 0 := by rw [alE, hP, ho2, hb]; rfl
  have hBn : befP N l = [] := List.eq_nil_of_length_eq_zero (by omega)
  rw [eL, hA, hE, hBn]
  refine ⟨rfl, rfl, rfl, by rw [hP, hN0]; rfl, by omega, fun hb => ?_, fun hb => ⟨rfl, ⟨fun _ _ => rfl, fun _ _ _ _ => rfl⟩, rfl, rfl⟩⟩
  · have := of_decide_eq_false (p := (((0 + 1 : Nat) : Int) ≤ lim)) (by simpa using hb)
    omega
theorem v21_eq (a b : List (List Int)) : (fnVc (tab [kInt []] [(0, .of (lLsts a b 5))]) Try.f21 [.sl 0 a.length, .sl 1 b.length] [.arr a.length (rsCols a), .arr b.length (rsCols b)] (plainIs (.b (decide (a = b))))) = ((((↑a.length : Int) != (↑b.length : Int)) = true → false = decide (a = b)) ∧
 (((↑a.length : Int) != (↑b.length : Int)) = false →
 ∃ (x : PUnit),
 (∃ (x : Nat), (x ≤ a.length ∧ List.take x a = List.take x b) ∧ ((0 : Int) = (↑x : Int) ∧ True) ∧ True) ∧
 ∀ (x_1 : Nat),
 x_1 ≤ a.length ∧ List.take x_1 a = List.take x_1 b →
 (decide ((↑x_1 : Int) < (↑a.length : Int)) = true →
 ((0 : Int) ≤ (↑x_1 : Int) ∧ (↑x_1 : Int) < (↑a.length : Int)) ∧
 x_1 < a.length ∧
 ((0 : Int) ≤ (↑x_1 : Int) ∧ (↑x_1 : Int) < (↑b.length : Int)) ∧
 x_1 < b.length ∧
 (nthD [] a x_1).length = (nthD [] a x_1).length ∧
 (nthD [] b x_1).length = (nthD [] b x_1).length ∧
 (mkN (fun (i : Nat) => nthD (0 : Int) (nthD [] a x_1) i) (nthD [] a x_1).length).length ≤
 (1099511627776 : Nat) ∧
 (mkN (fun (i : Nat) => nthD (0 : Int) (nthD [] b x_1) i) (nthD [] b x_1).length).length ≤
 (1099511627776 : Nat) ∧
 ((!decide
 (mkN (fun (i : Nat) => nthD (0 : Int) (nthD [] a x_1) i)
 (nthD [] a x_1).length =
 mkN (fun (i : Nat) => nthD (0 : Int) (nthD [] b x_1) i)
 (nthD [] b x_1).length)) =
 true →
 false = decide (a = b)) ∧
 ((!decide
 (mkN (fun (i : Nat) => nthD (0 : Int) (nthD [] a x_1) i)
 (nthD [] a x_1).length =
 mkN (fun (i : Nat) => nthD (0 : Int) (nthD [] b x_1) i)
 (nthD [] b x_1).length)) =
 false →
 ∃ (x_2 : Nat),
 (x_2 ≤ a.length ∧ List.take x_2 a = List.take x_2 b) ∧
 ((PLoop.of (lLsts a b (5 : Nat))).ann x).mu x_2 <
 ((PLoop.of (lLsts a b (5 : Nat))).ann x).mu x_1 ∧
 (a.length = a.length ∧
 b.length = b.length ∧
 IntKind.i64.wrap ((↑x_1 : Int) + (1 : Int)) = (↑x_2 : Int) ∧
 a.length = a.length ∧
 (↑a.length : Int) = (↑a.length : Int) ∧
 b.length = b.length ∧
 (↑b.length : Int) = (↑b.length : Int) ∧ false = false ∧ True) ∧
 (a.length = a.length ∧
 ((∀ (j : Nat),
 j < a.length → (nthD [] a j).length = (nthD [] a j).length) ∧
 (∀ (j : Nat),
 j < a.length →
 ∀ (i : Nat),
 i < (nthD [] a j).length →
 nthD (0 : Int) (nthD [] a j) i =
 nthD (0 : Int) (nthD [] a j) i) ∧
 True) ∧
 True) ∧
 (b.length = b.length ∧
 ((∀ (j : Nat),
 j < b.length → (nthD [] b j).length = (nthD [] b j).length) ∧
 (∀ (j : Nat),
 j < b.length →
 ∀ (i : Nat),
 i < (nthD [] b j).length →
 nthD (0 : Int) (nthD [] b j) i =
 nthD (0 : Int) (nthD [] b j) i) ∧
 True) ∧
 True) ∧
 True)) ∧
 (decide ((↑x_1 : Int) < (↑a.length : Int)) = false → true = decide (a = b)))) := by kernel_rfl
theorem v21 (a b : List (List Int)) (hla : L9 a) (ha : ∀ j, (nthD [] a j).length ≤ 1099511627776) (hb : ∀ j, (nthD [] b j).length ≤ 1099511627776) : fnVc (tab [kInt []] [(0, .of (lLsts a b 5))]) Try.f21 [.sl 0 a.length, .sl 1 b.length] [.arr a.length (rsCols a), .arr b.length (rsCols b)] (plainIs (.b (decide (a = b)))) := by
  rw [v21_eq]
  simp only [eq_self, true_and, and_true, implies_true, imp_self, psK_eq, mkN_ps, mkN_rs, mkN_self, mkN_len, PLoop.of, lCnt, AV.len, lAl, lLsts]
  have hla : a.length ≤ 1099511627776 := hla
  refine ⟨fun h => ?_, fun h => ?_⟩
  · refine (decide_eq_false fun e => ?_).symm
    subst e; simp at h
  have hlen : a.length = b.length := by
    have : (a.length : Int) = b.length := by simpa using h
    omega
  refine ⟨(), ⟨0, ⟨Nat.zero_le _, rfl⟩, rfl⟩, fun i hi => ⟨fun hlt => ?_, fun hlt => ?_⟩⟩
  · have hi2 := lt_len hlt
    refine ⟨bd hi2, hi2, by omega, by omega, ha i, hb i, fun hn => ?_, fun hn => ⟨i + 1, ⟨hi2, ?_⟩, by omega, wrS (n := 1099511627776) (by omega) (by omega)⟩⟩
    · refine (decide_eq_false fun e => ?_).symm
      subst e; simp at hn
    · have hn : nthD [] a i = nthD [] b i := by simpa using hn
      rw [take_succ' [] hi2, take_succ' [] (by omega), hi.2, hn]
  · have := ge_len hlt hi.1
    subst this
    have h2 := hi.2
    rw [List.take_length, hlen, List.take_length] at h2
    exact (decide_eq_true h2).symm
theorem fo19 : fnOk Try.prog 19 := ⟨Try.f19, Try.func19, by kernel_rfl, by kernel_rfl⟩
theorem fo21 : fnOk Try.prog 21 := ⟨Try.f21, Try.func21, by kernel_rfl, by kernel_rfl⟩
def t21 : List AV → Tab
  | [.rs a, .rs b] => tab [kInt []] [(0, .of (lLsts a b 5))]
  | _ => tab [] []
theorem c21 : CallOk Try.prog [] 21 (genF EL [] [.rs, .rs] sLst') := by
  refine okT (fn := Try.f21) Try.func21 fo21 t21 (fun av => ?_) (fun av => ?_) (fun av pre rv h => ?_) (fun av pre rv h hp => ?_)
  · unfold t21; split <;> first | exact tabOk (mOne (n18 _) mNil) | exact tabOk mNil
  · unfold t21; split <;> exact ⟨rfl, rfl⟩
  · unfold sLst' at h; split at h <;> cases h
    exact ⟨rfl, fun t a e => by cases e <;> exact List.cons_ne_nil _ _⟩
  · unfold sLst' at h; split at h <;> cases h
    exact v21 _ _ (hp _ (.head _)) (hp _ (.tail _ (.tail _ (.head _)))) (hp _ (.tail _ (.tail _ (.tail _ (.head _)))))
theorem n21 (nm : List (Option AV)) : CallOk Try.prog [] 21 (genF EL nm [.rs, .rs] sLst') := genNm c21
theorem tabTOk {calls : Calling} {cb : List (Nat × (List MBlk → List SV → Option BRes))} {loops : List (Nat × PLoop)} {takes : List (Nat × (List Slot → List MBlk → List Gh))} {pins : List (Nat × (Option Addr × Nat))} {su : List Nat} (h : ∀ p ∈ calls, CallOk Try.prog [] p.1 p.2) (hb : ∀ p ∈ cb, CallOkB Try.prog [] p.1 p.2) : TabOk Try.prog (tabT calls cb loops takes pins su) := ⟨mixed, tys, ints, fun _ _ hf => h _ (assoc_mem hf), fun _ _ hf => hb _ (assoc_mem hf)⟩
theorem visZ_inv {lim : Int} {m : List MBlk} {vs : List SV} {b : BRes} (h : kVisZ lim m vs = some b) : ∃ (s : Int) (e1 e2 e3 e4 e5 q w k k' nb nb' : Nat) (N' lim' : Int) (h0 : Nat → Int) (len : Nat → Nat) (g2 : Nat → Nat → Int),
    vs = [.i .u64 s, .ptr e1 0, .ptr e2 0, .ptr e3 0, .ptr e4 0, .ptr e5 0] ∧ nth m e1 = some (.cells [.nilsl]) ∧ nth m e2 = some (.cells [.i .i64 N', .sl q nb]) ∧ nth m e3 = some (.cells [.sl w k]) ∧ nth m e4 = some (.cells [.i .i64 lim']) ∧ nth m e5 = some (.cells [.fn 39 [.ptr e1 0, .ptr e2 0, .ptr e3 0, .ptr e4 0, .ptr e5 0]]) ∧
    nth m q = some (.oarr 54 nb' [.int .u64 h0]) ∧ nth m w = some (.oarr 25 k' [.rows len [g2]]) ∧ nodupN [e1, e2, e3, e4, e5, q, w] = true ∧
    b = tB [e1, e2, e3, e4, e5, q, w] [6] (visUpZ lim (rowsG g2 len k' ++ [[]])) (.b (decide (((k' + 1 : Nat) : Int) ≤ lim))) [k = k', nb = 0, nb' = 0, h0 = nthD 0 [], N' = 0, lim' = lim, k' ≤ 1048576] := by
  unfold kVisZ at h
  repeat' (split at h)
  all_goals first | cases h | skip
  rename_i _ _ s e1 e2 e3 e4 e5 _ _ _ _ _ N' q nb w k lim' p1 p2 p3 p4 p5 h1 h2 h3 h4 h5 _ _ nb' h0 k' len g2 h7 h8
  cases hc : (Nat.beq p1 e1 && Nat.beq p2 e2 && Nat.beq p3 e3 && Nat.beq p4 e4 && Nat.beq p5 e5 && nodupN [e1, e2, e3, e4, e5, q, w]) <;> rw [hc] at h
  · cases h
  · simp only [Bool.and_eq_true] at hc
    obtain ⟨⟨⟨⟨⟨q1, q2⟩, q3⟩, q4⟩, q5⟩, q6⟩ := hc
    have q1 := Nat.eq_of_beq_eq_true q1
    have q2 := Nat.eq_of_beq_eq_true q2
    have q3 := Nat.eq_of_beq_eq_true q3
    have q4 := Nat.eq_of_beq_eq_true q4
    have q5 := Nat.eq_of_beq_eq_true q5
    subst q1; subst q2; subst q3; subst q4; subst q5
    simp only [cond_true, Option.some.injEq] at h
    exact ⟨_, _, _, _, _, _, _, _, _, _, _, _, _, _, _, _, _, rfl, h1, h2, h3, h4, h5, h7, h8, q6, h.symm⟩
theorem bz39 {lim : Int} : CallOkB Try.prog [] 39 (kVisZ lim) := by
  refine callOkB Try.func39 fo39 fun m vs b h hp => ?_
  obtain ⟨s, e1, e2, e3, e4, e5, q, w, k, k', nb, nb', N', lim', h0, len, g2, rfl, h1, h2, h3, h4, h5, h7, h8, h9, rfl⟩ := visZ_inv h
  have p2 := hp (k = k') (.head _)
  have p3 := hp (nb = _) (.tail _ (.head _))
  have p4 := hp (nb' = _) (.tail _ (.tail _ (.head _)))
  have p5 := hp (h0 = _) (.tail _ (.tail _ (.tail _ (.head _))))
  have p6 := hp (N' = _) (.tail _ (.tail _ (.tail _ (.tail _ (.head _)))))
  have p7 := hp (lim' = lim) (.tail _ (.tail _ (.tail _ (.tail _ (.tail _ (.head _))))))
  have p8 := hp _ (.tail _ (.tail _ (.tail _ (.tail _ (.tail _ (.tail _ (.head _)))))))
  subst p2; subst p3; subst p4; subst p5; subst p6; subst p7
  refine ⟨tabT [kClnZ] [] [] [] [] [1000000], [e1, e2, e3, e4, e5, q, w], visMZ lim' g2 len k, visVA s, [6], visUpZ lim' (rowsG g2 len k ++ [[]]), .b (decide (((k + 1 : Nat) : Int) ≤ lim')), _, fun pins => tabTOk (mOne clnZ mNil) (fun p hp => by cases hp), rfl, rfl, h9, rfl, rfl, fun i k0 hk => ?_, rfl, fun x => v39z lim' g2 len k s x p8⟩
  rw [nth_eq] at h1 h2 h3 h4 h5 h7 h8
  match i with
  | 0 => cases hk; exact h1
  | 1 => cases hk; exact h2
  | 2 => cases hk; exact h3
  | 3 => cases hk; exact h4
  | 4 => cases hk; exact h5
  | 5 => cases hk; exact h7
  | 6 => cases hk; exact h8
  | _ + 7 => cases hk
def t19 : List AV → Tab
  | [.r N l, .i lim] => bif okP N l && decide (lim ≤ 1048576) then (bif Nat.ble 1 N.toNat then tabT [kChk [none, none, none, none, some (.us (befP N l))]] [(39, kVisA N l lim (N.toNat + 1))] [] [(10, fun _ _ => ghA)] [] [] else tabT [kChk [none, none, none, none, some (.us (befP N l))]] [(39, kVisZ lim)] [] [(10, fun _ _ => ghZ)] [] []) else tabT [kChk [none, none, none, none, some (.us (befP N l))]] [] [] [(10, fun _ _ => ghA)] [] []
  | _ => tab [] []
theorem c19 : CallOk Try.prog [] 19 (genF EL [] [.r, .i] sAll) := by
  refine okT (fn := Try.f19) Try.func19 fo19 t19 (fun av => ?_) (fun av => ?_) (fun av pre rv h => ?_) (fun av pre rv h hp => ?_)
  · unfold t19; split
    · rename_i N l lim
      cases hP : okP N l
      · exact tabTOk (mOne (n33 _) mNil) (fun p hp => by cases hp)
      · cases hd : decide (lim ≤ 1048576)
        · exact tabTOk (mOne (n33 _) mNil) (fun p hp => by cases hp)
        · have hd := of_decide_eq_true hd
          cases Nat.ble 1 N.toNat
          · exact tabTOk (mOne (n33 _) mNil) (fun p hp => by rcases List.mem_singleton.1 hp with rfl; exact bz39)
          · exact tabTOk (mOne (n33 _) mNil) (fun p hp => by rcases List.mem_singleton.1 hp with rfl; exact b39 hP hd _)
    · exact tabOk mNil
  · unfold t19; split
    · rename_i N l lim
      cases okP N l <;> cases decide (lim ≤ 1048576) <;> cases Nat.ble 1 N.toNat <;> exact ⟨rfl, rfl⟩
    · exact ⟨rfl, rfl⟩
  · unfold sAll at h; split at h <;> cases h
    exact ⟨rfl, fun t a e => by cases e <;> exact List.cons_ne_nil _ _⟩
  · unfold sAll at h; split at h <;> cases h
    rename_i N l lim
    have h0 := hp _ (.head _)
    unfold t19
    cases hP : okP N l
    · simp only [hP, Bool.false_and, cond_false]
      exact v19n _ _ _ _ rfl h0 (.inl hP)
    · cases hd : decide (lim ≤ 1048576)
      · simp only [hP, hd, Bool.and_false, cond_false]
        exact v19n _ _ _ _ rfl h0 (.inr (of_decide_eq_false hd))
      · cases hN : Nat.ble 1 N.toNat
        · simp only [hP, hd, hN, Bool.and_self, cond_true, cond_false]
          exact v19z _ _ _ _ rfl h0 hP (by
            have : ¬ 1 ≤ N.toNat := fun h => by rw [Nat.ble_eq_true_of_le h] at hN; cases hN
            omega)
        · simp only [hP, hd, hN, Bool.and_self, cond_true]
          exact v19 _ _ _ _ rfl h0 hP (Nat.le_of_ble_eq_true hN)
theorem n19 (nm : List (Option AV)) : CallOk Try.prog [] 19 (genF EL nm [.r, .i] sAll) := genNm c19
end Go.Proofs.Ytiokmglajigngaa
namespace Go.Proofs.Ytiokmglajigngaa
open Go Go.Proofs.Ytiokmglajigngaa.Sx
set_option maxRecDepth 100000
set_option linter.unusedSimpArgs false
set_option linter.unusedVariables false
def exL : List Pq := [(2, 0)]
theorem ex_l : mkN (fun (j : Nat) => (pickI [(2 : Int)] j, pickI [(0 : Int)] j)) 1 = exL := rfl
theorem ex_ok : okP 3 exL = true := by decide +kernel
theorem ex_err : errP 3 exL = 0 := by decide +kernel
theorem ex_bef : befP 3 exL = [4, 0, 0] := by decide +kernel
theorem ex_ext : extP 3 exL [] = [[1, 2, 0], [2, 0, 1], [2, 1, 0]] := by decide +kernel
theorem ex_dsI : dsI [4, 0, 0] 3 6 = [0, 2, 4, 6, 5, 7] := by decide +kernel
theorem ex_dsE : dsE [4, 0, 0] = [0, 2, 4, 6, 5, 7] := by
  have h : (dsI [4, 0, 0] 3 6).length ≤ 6 := by rw [ex_dsI]; decide
  have := dsI_stab h (j := 65537) (by omega)
  rw [ex_dsI] at this
  exact this
theorem ex_okD : okD [4, 0, 0] = true := by rw [okD, ex_dsE]; rfl
theorem ex_cmp : cmp [4, 0, 0] 0 = 3 := by decide +kernel
theorem ex_okC : okC [4, 0, 0] = true := by rw [okC, ex_okD, ex_cmp]; rfl
theorem ex_isX : isX 3 exL [2, 0, 1] = true := by decide +kernel
theorem ex_rk : rkT [4, 0, 0] [2, 0, 1] 3 = 1 := by decide +kernel
theorem ex_fst : fstL 3 exL = [1, 2, 0] := by decide +kernel
theorem ex_rkV : rkV 3 exL [2, 0, 1] = 1 ∧ rkE 3 exL [2, 0, 1] = 0 := by
  rw [rkV, rkE, ex_ok, ex_isX, ex_bef, ex_okC, errC_ok ex_okC]
  exact ⟨ex_rk, rfl⟩
theorem ex_dwn : dwnV 3 exL = 6 ∧ dwnE 3 exL = 0 := by
  obtain ⟨e1, e2, _⟩ := dsO_ok ex_okD
  rw [dwnV, dwnE, ex_ok, ex_bef, e1, e2, ex_dsE]
  exact ⟨rfl, rfl⟩
theorem ex_all3 : alL 3 exL 3 = [[1, 2, 0], [2, 0, 1], [2, 1, 0]] ∧ alE 3 exL 3 = 0 := by
  rw [alL, alE, alB, ex_ok, ex_ext]
  exact ⟨rfl, rfl⟩
theorem ex_all2 : alE 3 exL 2 = 4 := by
  rw [alE, alB, ex_ok, ex_ext]
  rfl
theorem ex_len : ∀ j, (nthD [] [[1, 2, 0], [2, 0, 1], [(2 : Int), 1, 0]] j).length ≤ 1099511627776 := fun j => by
  match j with
  | 0 => exact (by decide)
  | 1 => exact (by decide)
  | 2 => exact (by decide)
  | _ + 3 => exact Nat.zero_le _
def sAwk : Sp := fun | [] => some ([], .pl .tt) | _ => none
def kAwk (nm : List (Option AV)) : Nat × (List MBlk → List SV → Option AR) := (13, genF EL nm [] sAwk)
theorem v13_eq  : (fnVc (tabT [kFst [], kAll [], kDws [], kRnk [], kInt [], kLsts []] [] [] [] [] [42, 45, 49, 53, 57, 61, 65, 70, 78]) Try.f13 [] [] (plainIs .tt)) = ((1 : Nat) = (1 : Nat) ∧
 (mkN (fun (j : Nat) => (pickI [(2 : Int)] j, pickI [(0 : Int)] j)) (1 : Nat)).length ≤ (1099511627776 : Nat) ∧
 (1 : Nat) = (1 : Nat) ∧
 (mkN (fun (j : Nat) => (pickI [(2 : Int)] j, pickI [(0 : Int)] j)) (1 : Nat)).length ≤ (1099511627776 : Nat) ∧
 (1 : Nat) = (1 : Nat) ∧
 (mkN (fun (j : Nat) => (pickI [(2 : Int)] j, pickI [(0 : Int)] j)) (1 : Nat)).length ≤ (1099511627776 : Nat) ∧
 (1 : Nat) = (1 : Nat) ∧
 (3 : Nat) = (3 : Nat) ∧
 (mkN (fun (j : Nat) => (pickI [(2 : Int)] j, pickI [(0 : Int)] j)) (1 : Nat)).length ≤
 (1099511627776 : Nat) ∧
 (mkN (pickI [(2 : Int), (0 : Int), (1 : Int)]) (3 : Nat)).length ≤ (1099511627776 : Nat) ∧
 (1 : Nat) = (1 : Nat) ∧
 (mkN (fun (j : Nat) => (pickI [(2 : Int)] j, pickI [(0 : Int)] j)) (1 : Nat)).length ≤
 (1099511627776 : Nat) ∧
 (errP (3 : Int) (mkN (fun (j : Nat) => (pickI [(2 : Int)] j, pickI [(0 : Int)] j)) (1 : Nat)) ==
 (0 : Int)) =
 true ∧
 (alE (3 : Int) (mkN (fun (j : Nat) => (pickI [(2 : Int)] j, pickI [(0 : Int)] j)) (1 : Nat))
 (3 : Int) ==
 (0 : Int)) =
 true ∧
 (dwnE (3 : Int)
 (mkN (fun (j : Nat) => (pickI [(2 : Int)] j, pickI [(0 : Int)] j)) (1 : Nat)) ==
 (0 : Int)) =
 true ∧
 (rkE (3 : Int)
 (mkN (fun (j : Nat) => (pickI [(2 : Int)] j, pickI [(0 : Int)] j)) (1 : Nat))
 (mkN (pickI [(2 : Int), (0 : Int), (1 : Int)]) (3 : Nat)) ==
 (0 : Int)) =
 true ∧
 (alE (3 : Int)
 (mkN (fun (j : Nat) => (pickI [(2 : Int)] j, pickI [(0 : Int)] j)) (1 : Nat))
 (2 : Int) ==
 (4 : Int)) =
 true ∧
 ((↑(dwnV (3 : Int)
 (mkN (fun (j : Nat) => (pickI [(2 : Int)] j, pickI [(0 : Int)] j))
 (1 : Nat))) :
 Int) ==
 (6 : Int)) =
 true ∧
 ((↑(rkV (3 : Int)
 (mkN (fun (j : Nat) => (pickI [(2 : Int)] j, pickI [(0 : Int)] j))
 (1 : Nat))
 (mkN (pickI [(2 : Int), (0 : Int), (1 : Int)]) (3 : Nat))) :
 Int) ==
 (1 : Int)) =
 true ∧
 decide
 (mkN
 (nthD (0 : Int)
 (fstL (3 : Int)
 (mkN (fun (j : Nat) => (pickI [(2 : Int)] j, pickI [(0 : Int)] j))
 (1 : Nat))))
 (AV.is
 (fstL (3 : Int)
 (mkN (fun (j : Nat) => (pickI [(2 : Int)] j, pickI [(0 : Int)] j))
 (1 : Nat)))).len =
 mkN (pickI [(1 : Int), (2 : Int), (0 : Int)]) (3 : Nat)) =
 true ∧
 (AV.is
 (fstL (3 : Int)
 (mkN (fun (j : Nat) => (pickI [(2 : Int)] j, pickI [(0 : Int)] j))
 (1 : Nat)))).len =
 (AV.is
 (fstL (3 : Int)
 (mkN (fun (j : Nat) => (pickI [(2 : Int)] j, pickI [(0 : Int)] j))
 (1 : Nat)))).len ∧
 (3 : Nat) = (3 : Nat) ∧
 (mkN
 (nthD (0 : Int)
 (fstL (3 : Int)
 (mkN
 (fun (j : Nat) => (pickI [(2 : Int)] j, pickI [(0 : Int)] j))
 (1 : Nat))))
 (AV.is
 (fstL (3 : Int)
 (mkN
 (fun (j : Nat) =>
 (pickI [(2 : Int)] j, pickI [(0 : Int)] j))
 (1 : Nat)))).len).length ≤
 (1099511627776 : Nat) ∧
 (mkN (pickI [(1 : Int), (2 : Int), (0 : Int)]) (3 : Nat)).length ≤
 (1099511627776 : Nat) ∧
 (3 : Nat) = (3 : Nat) ∧
 (3 : Nat) = (3 : Nat) ∧
 (3 : Nat) = (3 : Nat) ∧
 decide
 (mkN
 (fun (j : Nat) =>
 mkN
 (fun (i : Nat) =>
 nthD (0 : Int)
 (nthD []
 (alL (3 : Int)
 (mkN
 (fun (j : Nat) =>
 (pickI [(2 : Int)] j,
 pickI [(0 : Int)] j))
 (1 : Nat))
 (3 : Int))
 j)
 i)
 (nthD []
 (alL (3 : Int)
 (mkN
 (fun (j : Nat) =>
 (pickI [(2 : Int)] j,
 pickI [(0 : Int)] j))
 (1 : Nat))
 (3 : Int))
 j).length)
 (AV.rs
 (alL (3 : Int)
 (mkN
 (fun (j : Nat) =>
 (pickI [(2 : Int)] j, pickI [(0 : Int)] j))
 (1 : Nat))
 (3 : Int))).len =
 mkN
 (fun (j : Nat) =>
 mkN
 (three (pickI [(1 : Int), (2 : Int), (0 : Int)])
 (pickI [(2 : Int), (0 : Int), (1 : Int)])
 (pickI [(2 : Int), (1 : Int), (0 : Int)]) j)
 (three (3 : Nat) (3 : Nat) (3 : Nat) j))
 (3 : Nat)) =
 true ∧
 (AV.rs
 (alL (3 : Int)
 (mkN
 (fun (j : Nat) =>
 (pickI [(2 : Int)] j, pickI [(0 : Int)] j))
 (1 : Nat))
 (3 : Int))).len =
 (AV.rs
 (alL (3 : Int)
 (mkN
 (fun (j : Nat) =>
 (pickI [(2 : Int)] j, pickI [(0 : Int)] j))
 (1 : Nat))
 (3 : Int))).len ∧
 (3 : Nat) = (3 : Nat) ∧
 (mkN
 (fun (j : Nat) =>
 mkN
 (fun (i : Nat) =>
 nthD (0 : Int)
 (nthD []
 (alL (3 : Int)
 (mkN
 (fun (j : Nat) =>
 (pickI [(2 : Int)] j,
 pickI [(0 : Int)] j))
 (1 : Nat))
 (3 : Int))
 j)
 i)
 (nthD []
 (alL (3 : Int)
 (mkN
 (fun (j : Nat) =>
 (pickI [(2 : Int)] j,
 pickI [(0 : Int)] j))
 (1 : Nat))
 (3 : Int))
 j).length)
 (AV.rs
 (alL (3 : Int)
 (mkN
 (fun (j : Nat) =>
 (pickI [(2 : Int)] j,
 pickI [(0 : Int)] j))
 (1 : Nat))
 (3 : Int))).len).length ≤
 (1099511627776 : Nat) ∧
 (mkN
 (fun (j : Nat) =>
 mkN
 (three
 (pickI [(1 : Int), (2 : Int), (0 : Int)])
 (pickI [(2 : Int), (0 : Int), (1 : Int)])
 (pickI [(2 : Int), (1 : Int), (0 : Int)]) j)
 (three (3 : Nat) (3 : Nat) (3 : Nat) j))
 (3 : Nat)).length ≤
 (1099511627776 : Nat) ∧
 (∀ (j : Nat),
 (nthD []
 (mkN
 (fun (j : Nat) =>
 mkN
 (fun (i : Nat) =>
 nthD (0 : Int)
 (nthD []
 (alL (3 : Int)
 (mkN
 (fun (j : Nat) =>
 (pickI [(2 : Int)] j,
 pickI [(0 : Int)] j))
 (1 : Nat))
 (3 : Int))
 j)
 i)
 (nthD []
 (alL (3 : Int)
 (mkN
 (fun (j : Nat) =>
 (pickI [(2 : Int)] j,
 pickI [(0 : Int)] j))
 (1 : Nat))
 (3 : Int))
 j).length)
 (AV.rs
 (alL (3 : Int)
 (mkN
 (fun (j : Nat) =>
 (pickI [(2 : Int)] j,
 pickI [(0 : Int)] j))
 (1 : Nat))
 (3 : Int))).len)
 j).length ≤
 (1099511627776 : Nat)) ∧
 (∀ (j : Nat),
 (nthD []
 (mkN
 (fun (j : Nat) =>
 mkN
 (three
 (pickI
 [(1 : Int), (2 : Int), (0 : Int)])
 (pickI
 [(2 : Int), (0 : Int), (1 : Int)])
 (pickI
 [(2 : Int), (1 : Int), (0 : Int)])
 j)
 (three (3 : Nat) (3 : Nat) (3 : Nat)
 j))
 (3 : Nat))
 j).length ≤
 (1099511627776 : Nat)) ∧
 true = true) := by kernel_rfl
theorem v13   : fnVc (tabT [kFst [], kAll [], kDws [], kRnk [], kInt [], kLsts []] [] [] [] [] [42, 45, 49, 53, 57, 61, 65, 70, 78]) Try.f13 [] [] (plainIs .tt) := by
  rw [v13_eq]
  simp only [eq_self, true_and, and_true, implies_true, imp_self, psK_eq, mkN_ps, mkN_rs, mkN_self, mkN_len, PLoop.of, lCnt, AV.len, lAl, lLsts]
  simp only [ex_l, ex_err, ex_rkV, ex_dwn, ex_all3, ex_all2, ex_fst, show mkN (pickI [(2 : Int), (0 : Int), (1 : Int)]) 3 = [2, 0, 1] from rfl, show mkN (pickI [(1 : Int), (2 : Int), (0 : Int)]) 3 = [1, 2, 0] from rfl, show mkN (fun j => mkN (three (pickI [1, 2, 0]) (pickI [2, 0, 1]) (pickI [2, 1, 0]) j) (three 3 3 3 j)) 3 = [[1, 2, 0], [2, 0, 1], [2, 1, 0]] from rfl]
  exact ⟨by decide, by decide, by decide, by decide, by decide, by decide, rfl, rfl, rfl, rfl, rfl, rfl, rfl, by simp, by decide, by decide, by simp, by decide, by decide, ex_len, ex_len⟩
theorem fo13 : fnOk Try.prog 13 := ⟨Try.f13, Try.func13, by kernel_rfl, by kernel_rfl⟩
theorem c13 : CallOk Try.prog [] 13 (genF EL [] [] sAwk) := by
  refine okT (fn := Try.f13) Try.func13 fo13 (fun _ => tabT [kFst [], kAll [], kDws [], kRnk [], kInt [], kLsts []] [] [] [] [] [42, 45, 49, 53, 57, 61, 65, 70, 78]) (fun av => ?_) (fun av => ⟨rfl, rfl⟩) (fun av pre rv h => ?_) (fun av pre rv h hp => ?_)
  · exact tabTOk (mOne (n14 _) (mOne (n19 _) (mOne (n22 _) (mOne (n29 _) (mOne (n18 _) (mOne (n21 _) mNil)))))) (fun p hp => by cases hp)
  · unfold sAwk at h; split at h <;> cases h
    exact ⟨rfl, fun t a e => by cases e⟩
  · unfold sAwk at h; split at h <;> cases h
    exact v13
theorem n13 (nm : List (Option AV)) : CallOk Try.prog [] 13 (genF EL nm [] sAwk) := genNm c13
end Go.Proofs.Ytiokmglajigngaa
namespace Go.Proofs.Ytiokmglajigngaa
open Go Go.Proofs.Ytiokmglajigngaa.Sx Go.ChangeShapes Go.WideShapes Go.ChangeAt Go.RowKit
set_option maxRecDepth 100000
theorem laidOut' : laidOutB Try.prog = true := by kernel_rfl
theorem own' : ownKnob Try.prog.godebug = none := by kernel_rfl
def cellI (w : World) (a : Addr) : Int := match w.cell? a with
  | some (.int _ n) => n
  | _ => 0
theorem cellI_of {w : World} {a : Addr} {u : Value} {k : IntKind} (h : w.cell? a = some u) (hk : cellK (some k) u) : w.cell? a = some (.int k (cellI w a)) := by
  obtain ⟨n, rfl, _⟩ := hk
  simp only [cellI, h]
/-- A slice of plain elements, by its cell. -/
theorem open_cell {H : Type} {enc : TypeId × Value → H} {P : Program} {w : World} {base : Nat} {sp : Nat → Bool} {held : Bool} {f fuel : Nat} {t e : TypeId} {v : Value} {x : DataW H × List MemPlace} {ks : List (Option IntKind)} (ht : P.underlying t = some (.slice e)) (hk : kindsOf P f e = some ks) (hl : ks.length = P.cellsOf e) (h0 : 0 < ks.length) (hf : DataW.trod enc P w base sp held fuel t [v] = some x) :
    ∃ A n c, v = .slice A n c ∧ n ≤ c ∧ n ≤ maxLen ∧ (0 < n → ∃ a, A = some a ∧ a.block < w.heap.size ∧ ∀ j, j < n → ∀ (k : Nat) (kd : Option IntKind), ks[k]? = some kd → ∃ u, w.cell? (a.add (j * ks.length + k)) = some u ∧ cellK kd u) := by
  rcases DataW.trod_slice ht hf with ⟨hz, _⟩ | ⟨a, len, cap, elems, rest, m, _, hz, _, _, hle, hmx, hel, hat, _⟩
  · simp only [List.cons.injEq, and_true] at hz
    exact ⟨none, 0, 0, hz, Nat.le_refl _, by simp [maxLen], fun h => absurd h (Nat.lt_irrefl _)⟩
  · simp only [List.cons.injEq, and_true] at hz
    refine ⟨some a, len, cap, hz, hle, Nat.le_trans hle hmx, fun hn => ?_⟩
    have hcell : ∀ j, j < len → ∀ (k : Nat) (kd : Option IntKind), ks[k]? = some kd → ∃ u, w.cell? (a.add (j * ks.length + k)) = some u ∧ cellK kd u := fun j hj k kd hkk => by
      have h1 := hat j hj
      rw [List.getElem?_eq_getElem (by omega)] at h1
      rw [Option.bind_eq_some_iff] at h1
      obtain ⟨cs, hcs1, hcs2⟩ := h1
      obtain ⟨h2, _⟩ := kinds_cells f m e cs _ _ ks hk (show DataW.trod enc P w base sp held m e cs = some (elems[j].1, elems[j].2) from hcs2)
      obtain ⟨u, hu, hku⟩ := cellsK_get h2 k kd hkk
      have hkl := (List.getElem?_eq_some_iff.1 hkk).1
      have := cells?_get hcs1 k (by omega)
      rw [add_add', hu, ← hl] at this
      exact ⟨u, this, hku⟩
    refine ⟨a, rfl, ?_, hcell⟩
    obtain ⟨u, hu, _⟩ := hcell 0 hn 0 _ (List.getElem?_eq_getElem h0)
    have := World.block_lt_of_cell? w _ hu
    rw [Sx.block_add] at this
    exact this
/-- A relation's two fields. -/
noncomputable def fs24 : Field × Field := match Try.prog.underlying 24 with
  | some (.struct ⟨f :: g :: _⟩) => (f, g)
  | _ => (Field.mk "" 0 0 false "" "" 0, Field.mk "" 0 0 false "" "" 0)
/-- An argument that is a relation. -/
theorem open_rel {H : Type} {enc : TypeId × Value → H} {w : World} {base : Nat} {sp : Nat → Bool} {held : Bool} {r : Reach} {b0 : Nat} {v : Value} {d : DataW H} {p : List MemPlace} (hv : Value.okWide Try.prog w r b0 24 v) (h : DataW.Trod enc Try.prog w base sp held 24 v d p) :
    ∃ (N : Int) (l : List Pq) (y : Option Addr × Nat), ∀ (E : Nat → Option (Option Addr × Nat)) (i : Nat), E i = some y → BR (argEnv w E) w i (arP l) ∧ Den (argEnv w E) (rlV N i l) v := by
  obtain ⟨f0, f1, ht, e0, e1, o0, o1⟩ : ∃ f0 f1, Try.prog.underlying 24 = some (.struct #[f0, f1]) ∧ f0.type = 3 ∧ f1.type = 22 ∧ f0.offset = 0 ∧ f1.offset = 1 := ⟨fs24.1, fs24.2, by kernel_rfl, by kernel_rfl, by kernel_rfl, by kernel_rfl, by kernel_rfl⟩
  obtain ⟨cs, rfl, hsz⟩ := okWide_struct ht hv
  have h2 : Try.prog.cellsOf 24 = 2 := by kernel_rfl
  rw [h2] at hsz
  obtain ⟨c0, c1, hcs⟩ : ∃ c0 c1, cs = #[c0, c1] := by
    obtain ⟨l⟩ := cs
    match l, hsz with
    | [c0, c1], _ => exact ⟨c0, c1, rfl⟩
  subst hcs
  obtain ⟨fuel, hf⟩ := h
  have hce : (Value.agg #[c0, c1]).cells.toList = [c0, c1] := by simp [Value.cells]
  rw [hce] at hf
  obtain ⟨y0, y1, n, _, _, t0, t1⟩ := trod_struct2 ht hf
  have c3 : Try.prog.cellsOf 3 = 1 := by kernel_rfl
  have c22 : Try.prog.cellsOf 22 = 1 := by kernel_rfl
  rw [e0, o0, c3] at t0
  rw [e1, o1, c22] at t1
  simp only [List.drop_zero, List.take_succ_cons, List.take_zero] at t0
  simp only [List.drop_succ_cons, List.drop_zero, List.take_succ_cons, List.take_zero] at t1
  obtain ⟨N, hN, _, _⟩ := DataW.trod_int (k := .i64) (by kernel_rfl) t0
  simp only [List.cons.injEq, and_true] at hN
  subst hN
  obtain ⟨A, n, c, rfl, hnc, _, hc⟩ := open_cell (f := 5) (ks := [some .i64, some .i64]) (t := 22) (e := 40) (by kernel_rfl) (by kernel_rfl) (by kernel_rfl) (by simp) t1
  have hag : ∀ (E : Nat → Option (Option Addr × Nat)) (i k : Nat), Den (argEnv w E) (.sl i k) (.slice A n c) → Den (argEnv w E) (.agg [.i .i64 N, .sl i k]) (.agg #[.int .i64 N, .slice A n c]) := fun E i k hd => by
    have : DenL (argEnv w E) [.i .i64 N, .sl i k] [.int .i64 N, .slice A n c] := DenL.cons (.i _ _) (DenL.cons hd (DenL.nil _))
    exact .agg this.1 this.2
  cases A with
  | none =>
    have h0 : n = 0 := by
      cases n with
      | zero => rfl
      | succ n => obtain ⟨a, ha, _⟩ := hc (Nat.succ_pos n); cases ha
    subst h0
    exact ⟨N, [], (none, c), fun E i hE => ⟨⟨none, c, hE, hnc, fun h => absurd h (Nat.lt_irrefl _)⟩, hag E i 0 (.sl hE (fun h => absurd h (Nat.lt_irrefl _)))⟩⟩
  | some a =>
    refine ⟨N, mkN (fun j => (cellI w (a.add (j * 2 + 0)), cellI w (a.add (j * 2 + 1)))) n, (some a, c), fun E i hE => ⟨⟨some a, c, hE, by rw [mkN_len]; exact hnc, fun hn => ?_⟩, by rw [rlV, mkN_len]; exact hag E i n (.sl hE (fun _ => by simp))⟩⟩
    rw [mkN_len] at hn
    obtain ⟨a', ha, hlt, hcell⟩ := hc hn
    simp only [Option.some.injEq] at ha
    subst ha
    refine ⟨a, rfl, hlt, fun j hj k col hcol => ?_⟩
    rw [mkN_len] at hj
    match k, hcol with
    | 0, hcol =>
      simp [psCols] at hcol
      subst hcol
      obtain ⟨u, hu, hk⟩ := hcell j hj 0 (some .i64) rfl
      refine ⟨_, cellI_of hu hk, ?_⟩
      simp only [colDen, nthD_mkN _ _ hj]
      rfl
    | 1, hcol =>
      simp [psCols] at hcol
      subst hcol
      obtain ⟨u, hu, hk⟩ := hcell j hj 1 (some .i64) rfl
      refine ⟨_, cellI_of hu hk, ?_⟩
      simp only [colDen, nthD_mkN _ _ hj]
      rfl
    | k + 2, hcol => simp [psCols] at hcol
/-- An argument that is a slice of numbers. -/
theorem open_ints {H : Type} {enc : TypeId × Value → H} {w : World} {base : Nat} {sp : Nat → Bool} {held : Bool} {r : Reach} {b0 : Nat} {v : Value} {d : DataW H} {p : List MemPlace} (hv : Value.okWide Try.prog w r b0 25 v) (h : DataW.Trod enc Try.prog w base sp held 25 v d p) :
    ∃ (l : List Int) (y : Option Addr × Nat), ∀ (E : Nat → Option (Option Addr × Nat)) (i : Nat), E i = some y → BR (argEnv w E) w i (arI l) ∧ Den (argEnv w E) (.sl i l.length) v := by
  obtain ⟨A, n, c, rfl, hnc, _, hc⟩ := open_slice (f := 5) (ks := [some .i64]) (t := 25) (e := 3) (by kernel_rfl) (by kernel_rfl) (by kernel_rfl) (by simp) hv h
  cases A with
  | none =>
    have h0 : n = 0 := by
      cases n with
      | zero => rfl
      | succ n => obtain ⟨a, ha, _⟩ := hc (Nat.succ_pos n); cases ha
    subst h0
    exact ⟨[], (none, c), fun E i hE => ⟨⟨none, c, hE, hnc, fun h => absurd h (Nat.lt_irrefl _)⟩, .sl hE (fun h => absurd h (Nat.lt_irrefl _))⟩⟩
  | some a =>
    refine ⟨mkN (fun j => cellI w (a.add (j * 1 + 0))) n, (some a, c), fun E i hE => ⟨⟨some a, c, hE, by rw [mkN_len]; exact hnc, fun hn => ?_⟩, by rw [mkN_len]; exact .sl hE (fun _ => by simp)⟩⟩
    rw [mkN_len] at hn
    obtain ⟨a', ha, hlt, hcell⟩ := hc hn
    simp only [Option.some.injEq] at ha
    subst ha
    refine ⟨a, rfl, hlt, fun j hj k col hcol => ?_⟩
    rw [mkN_len] at hj
    match k, hcol with
    | 0, hcol =>
      simp [isCols] at hcol
      subst hcol
      obtain ⟨u, hu, hk⟩ := hcell j hj 0 (some .i64) rfl
      have hu' : w.cell? (a.add (j * 1 + 0)) = some u := hu
      refine ⟨_, cellI_of hu' hk, ?_⟩
      simp only [colDen]
      rw [nthD_mkN _ _ hj]
      simp [isCols]
    | k + 1, hcol => simp [isCols] at hcol
end Go.Proofs.Ytiokmglajigngaa
namespace Go.Proofs.Ytiokmglajigngaa
open Go Go.Proofs.Ytiokmglajigngaa.Sx Go.ChangeShapes Go.WideShapes Go.ChangeAt Go.RowKit
set_option maxRecDepth 100000
set_option linter.unusedSimpArgs false
set_option linter.unusedVariables false
/-- A law's run on relations: ys are what the slices hold in the world, m0 what they are. -/
theorem law_goN {T : Tab} {W : World} {fid : FuncId} {fn : Func} {m0 : List MBlk} {vs : List SV} {xs : List Value} (ys : List (Option Addr × Nat)) (hT : TabOk Try.prog T) (hg : T.globals = []) (hpin : T.pins = []) (hf : Try.prog.funcs[fid]? = some fn)
    (hlen : ys.length = m0.length) (hok : memOk m0 = true) (hbr : ∀ i k, m0[i]? = some k → BR (argEnv W (fun i => ys[i]?)) W i k) (hd : DenL (argEnv W (fun i => ys[i]?)) vs xs) (hv : fnVc T fn vs m0 (plainIs .tt)) :
    Calls Try.prog fid xs.toArray W fun e W' => e = .returned (.bool true) ∧ Below W.heap.size W W' :=
  law_go hT hg hpin hf (fun i hi => by
    have : i < ys.length := by
      rcases Nat.lt_or_ge i ys.length with h | h
      · exact h
      · exact absurd (List.getElem?_eq_none h) hi
    omega) hok (fun i k hk _ => hbr i k hk) hd hv
/-- The witness's world. -/
noncomputable def w0 (os : Os) : World := World.holding Try.prog os ⟨#[], #[], []⟩
end Go.Proofs.Ytiokmglajigngaa
namespace Go.Proofs.Ytiokmglajigngaa
open Go Go.Proofs.Ytiokmglajigngaa.Sx
def tabQ (calls : Calling) (cb : List (Nat × (List MBlk → List SV → Option BRes))) (loops : List (Nat × PLoop)) (takes : List (Nat × (List Slot → List MBlk → List Gh))) : Tab := ⟨tyTab, [], calls, loops, cb, [], takes, []⟩
/-- Bit x of the set s, as the program looks at it. -/
def bitS (s x : Int) : Int := bits .and .u64 (s / 2 ^ (IntKind.u64.wrap x).toNat) 1
def canF (l : List Pq) (s x : Int) : Bool := !(bitS s x == 1) && l.all (fun p => !(p.2 == x && bitS s p.1 == 0))
def sCan : Sp := fun | [.r N l, .u s, .i x] => some ([L9 l, 0 ≤ x ∧ x < 64, ∀ p ∈ l, 0 ≤ p.1 ∧ p.1 < 64], .pl (.b (canF l s x))) | _ => none
def kCan (nm : List (Option AV)) : Nat × (List MBlk → List SV → Option AR) := (48, genF EL nm [.r, .u, .i] sCan)
def lCan (l : List Pq) (s x : Int) (t : Nat) : LAnn := lCnt l.length t (fun i => (l.take i).all (fun p => !(p.2 == x && bitS s p.1 == 0)) = true) (fun _ => []) []
/-- One set more, with the number of sequences that lead to it. -/
def addL : List Pq → Int → Int → List Pq
  | [], s, w => [(s, w)]
  | p :: r, s, w => bif p.1 == s then (p.1, p.2 + w) :: r else p :: addL r s w
def orS (s : Int) (k : Nat) : Int := bits .or .u64 s (IntKind.u64.wrap (1 * 2 ^ (IntKind.u64.wrap (k : Int)).toNat))
def lvK (l : List Pq) (L : List Pq) (s w : Int) : Nat → List Pq
  | 0 => L
  | k + 1 => bif canF l s k then addL (lvK l L s w k) (orS s k) w else lvK l L s w k
def lvI (N : Int) (l : List Pq) (P : List Pq) : Nat → List Pq
  | 0 => []
  | i + 1 => lvK l (lvI N l P i) (nthD (0, 0) P i).1 (nthD (0, 0) P i).2 N.toNat
/-- The sets of n elements. -/
def lvN (N : Int) (l : List Pq) : Nat → List Pq
  | 0 => [(0, 1)]
  | n + 1 => lvI N l (lvN N l n) (lvN N l n).length
/-- The number of sets of at most n elements. -/
def lvT (N : Int) (l : List Pq) : Nat → Nat
  | 0 => 1
  | n + 1 => lvT N l n + (lvN N l (n + 1)).length
def waysL (L : List Pq) : List Int := L.map (fun p => p.2)
def setC (L : List Pq) : List Col := [.int .u64 (fun j => (nthD (0, 0) L j).1)]
def wayC (L : List Pq) : List Col := [.int .i64 (fun j => (nthD (0, 0) L j).2)]
def lvV (p q n : Nat) : SV := .agg [.sl p n, .sl q n, .ff]
def addUp (L : List Pq) : List (Nat × MBlk) := [(0, .oarr 54 L.length (setC L)), (1, .oarr 3 L.length (wayC L))]
def addM (g h : Nat → Int) (n : Nat) : List MBlk := [.oarr 54 n [.int .u64 g], .oarr 3 n [.int .i64 h]]
def addP (L : List Pq) (w : Int) : List Prop := [L9 L, 0 ≤ w ∧ w ≤ 1099511627776, ∀ p ∈ L, 0 ≤ p.2 ∧ p.2 ≤ 1099511627776]
def kAdd : List MBlk → List SV → Option BRes
  | m, [.agg [.sl p n, .sl q n2, .ff], .i .u64 s, .i .i64 w] => match nth m p, nth m q with
    | some (.oarr 54 n' [.int .u64 g]), some (.oarr 3 n2' [.int .i64 h]) => bif nodupN [p, q] then
        some (tB [p, q] [0, 1] (addUp (addL (mkN (fun j => (g j, h j)) n') s w)) (lvV 0 1 (addL (mkN (fun j => (g j, h j)) n') s w).length) ([n = n', n2 = n', n2' = n'] ++ addP (mkN (fun j => (g j, h j)) n') w)) else none
    | _, _ => none
  | _, _ => none
def lAdd (g : Nat → Int) (n : Nat) (s : Int) (t : Nat) : LAnn := lCnt n t (fun k => ∀ j, j < k → g j ≠ s) (fun _ => []) []
def addPost (L : List Pq) : SV → List MBlk → Prop := fun sv m' => veq (lvV 0 1 L.length) sv ∧ memAll (expGo (addUp L) 0 2) m'
def lvMem (p q c : Nat) (L : List Pq) : List (Nat × MBlk) := [(p, .oarr 54 L.length (setC L)), (q, .oarr 3 L.length (wayC L)), (c, .cells [.sl p L.length, .sl q L.length, .ff])]
def lLv0 (N : Int) (l : List Pq) : LAnn := ⟨Nat, fun n => n ≤ N.toNat, fun n => [(6, .i .i64 (lvT N l n : Int)), (7, .i .i64 (n : Int))], fun n => lvMem 3 4 5 (lvN N l n), fun n => N.toNat - n, [3, 4], [(3, 2000500), (4, 2000501)]⟩
def lLv2 (N : Int) (l : List Pq) : PLoop := ⟨Nat, fun n => ⟨Nat, fun i => i ≤ (lvN N l n).length ∧ n < N.toNat, fun i => [(9, .i .i64 (i : Int))], fun i => lvMem 7 8 6 (lvI N l (lvN N l n) i), fun i => (lvN N l n).length - i, [7, 8], []⟩⟩
def lLv4 (N : Int) (l : List Pq) : PLoop := ⟨Nat × Nat, fun ni => ⟨Nat, fun k => k ≤ N.toNat ∧ ni.2 < (lvN N l ni.1).length ∧ ni.1 < N.toNat, fun k => [(10, .i .i64 (k : Int))], fun k => lvMem 7 8 6 (lvK l (lvI N l (lvN N l ni.1) ni.2) (nthD (0, 0) (lvN N l ni.1) ni.2).1 (nthD (0, 0) (lvN N l ni.1) ni.2).2 k), fun k => N.toNat - k, [7, 8], []⟩⟩
def ghLv : List Gh := [.fresh 6 0 54 1, .fresh 6 1 3 1, .cols 7 [.int .u64 (fun _ => 0)], .cols 8 [.int .i64 (fun _ => 0)]]
def sLev : Sp := fun | [.r N l] => some ([L9 l, okP N l = true, N ≤ 9], .tw (.i .i64 ((dsE (befP N l)).length : Int)) .tt .ff [(cmp (befP N l) 0 : Int)]) | _ => none
def kLev (nm : List (Option AV)) : Nat × (List MBlk → List SV → Option AR) := (43, genF EL nm [.r] sLev)
def sCnR : Sp := fun | [.r N l] => some ([L9 l, N ≤ 9], .pl (.tup [.i .i64 (cntV N l : Int), .i .i64 (cntE N l)])) | _ => none
def kCnR (nm : List (Option AV)) : Nat × (List MBlk → List SV → Option AR) := (25, genF EL nm [.r] sCnR)
end Go.Proofs.Ytiokmglajigngaa
