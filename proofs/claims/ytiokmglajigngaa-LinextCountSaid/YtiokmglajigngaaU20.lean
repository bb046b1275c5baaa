/-
  A part of the proof (U20).
-/
import Derived.Test.YtiokmglajigngaaU19
namespace Go.Proofs.Ytiokmglajigngaa
open Go Go.Proofs.Ytiokmglajigngaa.Sx
set_option maxRecDepth 100000
set_option linter.unusedSimpArgs false
set_option linter.unusedVariables false
theorem v40z_eq  : (fnVc (tab [] []) Try.f40 [.nilsl] [] (resIs (.sl 0 0) 3 0 (isCols []))) = ((0 : Nat) = (0 : Nat) ∧ ((0 : Nat) = (0 : Nat) ∧ True) ∧ (0 : Nat) = (0 : Nat)) := by kernel_rfl
theorem v40z   : fnVc (tab [] []) Try.f40 [.nilsl] [] (resIs (.sl 0 0) 3 0 (isCols [])) := by
  rw [v40z_eq]
  exact ⟨rfl, ⟨rfl, trivial⟩, rfl⟩

theorem clnZ : CallOk Try.prog [] 40 kClnZ.2 := callOk_nil Try.func40 fo40 fun m vs ar h _ => by
  unfold kClnZ at h
  simp only at h
  split at h
  · cases h
    refine ⟨tab [] [], tabOk mNil, fun _ => none, [], [.nilsl], fun ρ xs hd => ?_, rfl, rfl, fun i k0 hk => (by simp at hk), fun g i hg => (by cases hg), rfl, .inr (.inl ⟨.sl 0 0, 3, 0, isCols [], rfl, by decide, rfl, rfl, v40z⟩)⟩
    exact hd.conv2 (fun v hv => by cases hv; exact .nilsl) (fun vs hvs => hvs.nilc)
  · cases h
theorem snoc_nth {X : List (List Int)} {x : List Int} {k : Nat} (hX : X.length = k) {j : Nat} (hj : j < k + 1) : nthD [] (X ++ [x]) j = bif Nat.blt j k then nthD [] X j else x := by
  by_cases h : j < k
  · rw [nthD_lt _ (by omega), blt_t h, cond_true]
  · have : j = X.length := by omega
    rw [this, nthD_at, blt_f (by omega), cond_false]
theorem v39z_eq (lim : Int) (g2 : Nat → Nat → Int) (len : Nat → Nat) (k : Nat) (s : Int) (x : Nat → Option Addr × Nat) : (fnVc (tabT [kClnZ] [] [] [] (pinsOf x [6] 7) [1000000]) Try.f39 (visVA s) (visMZ lim g2 len k) (visPostZ lim (rowsG g2 len k ++ [[]]) (decide (((k + 1 : Nat) : Int) ≤ lim)))) = ((((0 : Int) == (0 : Int)) = true →
 (0 : Nat) = (0 : Nat) ∧
 k = k ∧
 (1 : Nat) = (1 : Nat) ∧
 (k + (1 : Nat)) * (24 : Nat) ≤ (140737488355328 : Nat) ∧
 k + (1 : Nat) ≤ (9223372036854775807 : Nat) ∧
 decide ((↑(k + (1 : Nat)) : Int) ≤ lim) = decide ((↑(k + (1 : Nat)) : Int) ≤ lim) ∧
 True ∧
 ((0 : Int) = (0 : Int) ∧ (0 : Nat) = (0 : Nat)) ∧
 k + (1 : Nat) = (rowsG g2 len k ++ [[]]).length ∧
 lim = lim ∧
 (True ∧ True ∧ True ∧ True ∧ True) ∧
 ((0 : Nat) = (0 : Nat) ∧
 (∀ (j : Nat), j < (0 : Nat) → nthD (0 : Int) [] j = nthD (0 : Int) [] j) ∧ True) ∧
 (k + (1 : Nat) = (rowsG g2 len k ++ [[]]).length ∧
 ((∀ (j : Nat),
 j < (rowsG g2 len k ++ [[]]).length →
 (bif j.blt k then len j else (0 : Nat)) =
 (nthD [] (rowsG g2 len k ++ [[]]) j).length) ∧
 (∀ (j : Nat),
 j < (rowsG g2 len k ++ [[]]).length →
 ∀ (i : Nat),
 i < (nthD [] (rowsG g2 len k ++ [[]]) j).length →
 (bif j.blt k then g2 j else nthD (0 : Int) []) i =
 nthD (0 : Int) (nthD [] (rowsG g2 len k ++ [[]]) j) i) ∧
 True) ∧
 True) ∧
 True) ∧
 (((0 : Int) == (0 : Int)) = false → False)) := by kernel_rfl
theorem v39z (lim : Int) (g2 : Nat → Nat → Int) (len : Nat → Nat) (k : Nat) (s : Int) (x : Nat → Option Addr × Nat) (hk : k ≤ 1048576) : fnVc (tabT [kClnZ] [] [] [] (pinsOf x [6] 7) [1000000]) Try.f39 (visVA s) (visMZ lim g2 len k) (visPostZ lim (rowsG g2 len k ++ [[]]) (decide (((k + 1 : Nat) : Int) ≤ lim))) := by
  rw [v39z_eq]
  simp only [eq_self, true_and, and_true, implies_true, imp_self, mkN_ps, mkN_rs, mkN_self, mkN_len, PLoop.of, lCnt, AV.len, lAl, lLsts]
  have hLl : (rowsG g2 len k).length = k := rowsG_len
  have hll : (rowsG g2 len k ++ [[]]).length = k + 1 := by rw [List.length_append, hLl]; rfl
  rw [hll]
  refine ⟨fun _ => ⟨by omega, by omega, ?_⟩, fun h => (by cases h)⟩
  first
  | refine ⟨rfl, rfl, fun j hj => ?_, fun j hj i hi => ?_⟩
    · rw [snoc_nth hLl hj]
      cases hb : Nat.blt j k
      · rfl
      · rw [cond_true, cond_true, rowsG_nth (by rwa [Nat.blt_eq] at hb), mkN_len]
    · rw [snoc_nth hLl hj] at hi ⊢
      cases hb : Nat.blt j k
      · rw [hb] at hi; exact absurd hi (Nat.not_lt_zero _)
      · rw [hb, cond_true, rowsG_nth (by rwa [Nat.blt_eq] at hb), mkN_len] at hi
        rw [cond_true, cond_true, rowsG_nth (by rwa [Nat.blt_eq] at hb), nthD_mkN _ _ hi]

theorem v19n_eq (N : Int) (l : List Pq) (lim : Int) (B : List Int) : (fnVc (tabT [kChk [none, none, none, none, some (.us B)]] [] [] [(10, fun _ _ => ghA)] [] []) Try.f19 [rlV N 0 l, .i .i64 lim] [arP l] (resIs (.tup [.sl 0 (alL N l lim).length, .i .i64 (alE N l lim)]) 25 (alL N l lim).length (rsCols (alL N l lim)))) = (l.length = l.length ∧
 (mkN (fun (j : Nat) => ((nthD ((0 : Int), (0 : Int)) l j).fst, (nthD ((0 : Int), (0 : Int)) l j).snd))
 l.length).length ≤
 (1099511627776 : Nat) ∧
 (bif
 okP N
 (mkN (fun (j : Nat) => ((nthD ((0 : Int), (0 : Int)) l j).fst, (nthD ((0 : Int), (0 : Int)) l j).snd))
 l.length) then
 befL N.toNat
 (mkN (fun (j : Nat) => ((nthD ((0 : Int), (0 : Int)) l j).fst, (nthD ((0 : Int), (0 : Int)) l j).snd))
 l.length)
 else []) =
 B ∧
 ((errP N
 (mkN (fun (j : Nat) => ((nthD ((0 : Int), (0 : Int)) l j).fst, (nthD ((0 : Int), (0 : Int)) l j).snd))
 l.length) !=
 (0 : Int)) =
 true →
 (0 : Nat) = (alL N l lim).length ∧
 ((alL N l lim).length = (0 : Nat) ∧ True) ∧
 (0 : Nat) = (alL N l lim).length ∧
 errP N
 (mkN
 (fun (j : Nat) =>
 ((nthD ((0 : Int), (0 : Int)) l j).fst, (nthD ((0 : Int), (0 : Int)) l j).snd))
 l.length) =
 alE N l lim ∧
 True) ∧
 ((errP N
 (mkN (fun (j : Nat) => ((nthD ((0 : Int), (0 : Int)) l j).fst, (nthD ((0 : Int), (0 : Int)) l j).snd))
 l.length) !=
 (0 : Int)) =
 false →
 ((decide (lim < (1 : Int)) || decide (lim > (1048576 : Int))) = true →
 (0 : Nat) = (alL N l lim).length ∧
 ((alL N l lim).length = (0 : Nat) ∧ True) ∧
 (0 : Nat) = (alL N l lim).length ∧ (2 : Int) = alE N l lim ∧ True) ∧
 ((decide (lim < (1 : Int)) || decide (lim > (1048576 : Int))) = false →
 (0 : Nat) = (0 : Nat) ∧ (0 : Nat) = (0 : Nat) ∧ False))) := by kernel_rfl
theorem v19n (N : Int) (l : List Pq) (lim : Int) (B : List Int) (hB : B = befP N l) (hl : L9 l) (hno : okP N l = false ∨ ¬ lim ≤ 1048576) : fnVc (tabT [kChk [none, none, none, none, some (.us B)]] [] [] [(10, fun _ _ => ghA)] [] []) Try.f19 [rlV N 0 l, .i .i64 lim] [arP l] (resIs (.tup [.sl 0 (alL N l lim).length, .i .i64 (alE N l lim)]) 25 (alL N l lim).length (rsCols (alL N l lim))) := by
  rw [v19n_eq]
  simp only [eq_self, true_and, and_true, implies_true, imp_self, mkN_ps, mkN_rs, mkN_self, mkN_len, PLoop.of, lCnt, AV.len, lAl, lLsts]
  subst hB
  refine ⟨hl, rfl, fun h => ?_, fun h => ⟨fun ho => ?_, fun ho => ?_⟩⟩
  · have hP := err_no h
    rw [alL, alE, hP]
    exact ⟨rfl, rfl, rfl, rfl⟩
  · have hP := err_yes h
    have ho : alO lim = true := ho
    rw [alL, alE, hP, ho]
    exact ⟨rfl, rfl, rfl, rfl⟩
  · have hP := err_yes h
    rw [Bool.or_eq_false_iff] at ho
    have := of_decide_eq_false ho.2
    rcases hno with h | h
    · rw [hP] at h; cases h
    · omega

theorem v19_eq (N : Int) (l : List Pq) (lim : Int) (B : List Int) : (fnVc (tabT [kChk [none, none, none, none, some (.us B)]] [(39, kVisA N l lim (N.toNat + 1))] [] [(10, fun _ _ => ghA)] [] []) Try.f19 [rlV N 0 l, .i .i64 lim] [arP l] (resIs (.tup [.sl 0 (alL N l lim).length, .i .i64 (alE N l lim)]) 25 (alL N l lim).length (rsCols (alL N l lim)))) = (l.length = l.length ∧
 (mkN (fun (j : Nat) => ((nthD ((0 : Int), (0 : Int)) l j).fst, (nthD ((0 : Int), (0 : Int)) l j).snd))
 l.length).length ≤
 (1099511627776 : Nat) ∧
 (bif
 okP N
 (mkN (fun (j : Nat) => ((nthD ((0 : Int), (0 : Int)) l j).fst, (nthD ((0 : Int), (0 : Int)) l j).snd))
 l.length) then
 befL N.toNat
 (mkN (fun (j : Nat) => ((nthD ((0 : Int), (0 : Int)) l j).fst, (nthD ((0 : Int), (0 : Int)) l j).snd))
 l.length)
 else []) =
 B ∧
 ((errP N
 (mkN (fun (j : Nat) => ((nthD ((0 : Int), (0 : Int)) l j).fst, (nthD ((0 : Int), (0 : Int)) l j).snd))
 l.length) !=
 (0 : Int)) =
 true →
 (0 : Nat) = (alL N l lim).length ∧
 ((alL N l lim).length = (0 : Nat) ∧ True) ∧
 (0 : Nat) = (alL N l lim).length ∧
 errP N
 (mkN
 (fun (j : Nat) =>
 ((nthD ((0 : Int), (0 : Int)) l j).fst, (nthD ((0 : Int), (0 : Int)) l j).snd))
 l.length) =
 alE N l lim ∧
 True) ∧
 ((errP N
 (mkN (fun (j : Nat) => ((nthD ((0 : Int), (0 : Int)) l j).fst, (nthD ((0 : Int), (0 : Int)) l j).snd))
 l.length) !=
 (0 : Int)) =
 false →
 ((decide (lim < (1 : Int)) || decide (lim > (1048576 : Int))) = true →
 (0 : Nat) = (alL N l lim).length ∧
 ((alL N l lim).length = (0 : Nat) ∧ True) ∧
 (0 : Nat) = (alL N l lim).length ∧ (2 : Int) = alE N l lim ∧ True) ∧
 ((decide (lim < (1 : Int)) || decide (lim > (1048576 : Int))) = false →
 (0 : Nat) = (0 : Nat) ∧
 (0 : Nat) = (0 : Nat) ∧
 (0 : Nat) = (0 : Nat) ∧
 (0 : Nat) = (0 : Nat) ∧
 (AV.us B).len = (befL N.toNat l).length ∧
 (AV.us B).len = (befL N.toNat l).length ∧
 nthD (0 : Int) B = nthD (0 : Int) (befL N.toNat l) ∧
 (bif
 okP N
 (mkN
 (fun (j : Nat) =>
 ((nthD ((0 : Int), (0 : Int)) l j).fst,
 (nthD ((0 : Int), (0 : Int)) l j).snd))
 l.length) then
 N
 else (0 : Int)) =
 N ∧
 lim = lim ∧
 (0 : Int) = (↑(maskM (mkN (fun (x : Nat) => (0 : Int)) (0 : Nat))) : Int) ∧
 (∀ (y : Int),
 List.Mem y (mkN (fun (x : Nat) => (0 : Int)) (0 : Nat)) → (0 : Int) ≤ y ∧ y < N) ∧
 (mkN (fun (x : Nat) => (0 : Int)) (0 : Nat)).length ≤ N.toNat ∧
 (0 : Nat) < N.toNat ∧
 N.toNat <
 (mkN (fun (x : Nat) => (0 : Int)) (0 : Nat)).length +
 (N.toNat + (1 : Nat)) ∧
 (↑(rowsG (fun (x x_1 : Nat) => (0 : Int)) (fun (x : Nat) => (0 : Nat))
 (0 : Nat)).length :
 Int) ≤
 lim ∧
 ((!vsB N l lim (mkN (fun (x : Nat) => (0 : Int)) (0 : Nat))
 (rowsG (fun (x x_1 : Nat) => (0 : Int))
 (fun (x : Nat) => (0 : Nat)) (0 : Nat))) =
 true →
 (0 : Nat) = (alL N l lim).length ∧
 ((alL N l lim).length = (0 : Nat) ∧ True) ∧
 (0 : Nat) = (alL N l lim).length ∧ (4 : Int) = alE N l lim ∧ True) ∧
 ((!vsB N l lim (mkN (fun (x : Nat) => (0 : Int)) (0 : Nat))
 (rowsG (fun (x x_1 : Nat) => (0 : Int))
 (fun (x : Nat) => (0 : Nat)) (0 : Nat))) =
 false →
 (vsL N l lim (mkN (fun (x : Nat) => (0 : Int)) (0 : Nat))
 (rowsG (fun (x x_1 : Nat) => (0 : Int))
 (fun (x : Nat) => (0 : Nat)) (0 : Nat))).length =
 (alL N l lim).length ∧
 (((∀ (j : Nat),
 j < (alL N l lim).length →
 (nthD []
 (vsL N l lim
 (mkN (fun (x : Nat) => (0 : Int)) (0 : Nat))
 (rowsG (fun (x x_1 : Nat) => (0 : Int))
 (fun (x : Nat) => (0 : Nat)) (0 : Nat)))
 j).length =
 (nthD [] (alL N l lim) j).length) ∧
 (∀ (j : Nat),
 j < (alL N l lim).length →
 ∀ (i : Nat),
 i < (nthD [] (alL N l lim) j).length →
 nthD (0 : Int)
 (nthD []
 (vsL N l lim
 (mkN (fun (x : Nat) => (0 : Int)) (0 : Nat))
 (rowsG (fun (x x_1 : Nat) => (0 : Int))
 (fun (x : Nat) => (0 : Nat)) (0 : Nat)))
 j)
 i =
 nthD (0 : Int) (nthD [] (alL N l lim) j) i) ∧
 True) ∧
 True) ∧
 (vsL N l lim (mkN (fun (x : Nat) => (0 : Int)) (0 : Nat))
 (rowsG (fun (x x_1 : Nat) => (0 : Int))
 (fun (x : Nat) => (0 : Nat)) (0 : Nat))).length =
 (alL N l lim).length ∧
 (0 : Int) = alE N l lim ∧ True)))) := by kernel_rfl
theorem v19 (N : Int) (l : List Pq) (lim : Int) (B : List Int) (hB : B = befP N l) (hl : L9 l) (hP : okP N l = true) (h0 : 0 < N.toNat) : fnVc (tabT [kChk [none, none, none, none, some (.us B)]] [(39, kVisA N l lim (N.toNat + 1))] [] [(10, fun _ _ => ghA)] [] []) Try.f19 [rlV N 0 l, .i .i64 lim] [arP l] (resIs (.tup [.sl 0 (alL N l lim).length, .i .i64 (alE N l lim)]) 25 (alL N l lim).length (rsCols (alL N l lim))) := by
  rw [v19_eq]
  simp only [eq_self, true_and, and_true, implies_true, imp_self, mkN_ps, mkN_rs, mkN_self, mkN_len, PLoop.of, lCnt, AV.len, lAl, lLsts]
  subst hB
  refine ⟨hl, rfl, fun h => ?_, fun h => ⟨fun ho => ?_, fun ho => ?_⟩⟩
  · rw [err_ok, hP] at h; cases h
  · have ho : alO lim = true := ho
    rw [alL, alE, hP, ho]
    exact ⟨rfl, rfl, rfl, rfl⟩
  have ho2 : alO lim = false := ho
  rw [Bool.or_eq_false_iff] at ho
  have hl1 := of_decide_eq_false ho.1
  have hl2 := of_decide_eq_false ho.2
  obtain ⟨e, hN, hN2, hn, hv⟩ := befP_ok hP
  have eP : mkN (fun _ : Nat => (0 : Int)) 0 = [] := rfl
  have eL : rowsG (fun _ _ => 0) (fun _ => 0) 0 = [] := rfl
  have hvb : vsB N l lim [] [] = alB N l lim := rfl
  rw [eP, eL, hvb]
  refine ⟨by rw [e], by rw [e], by rw [e], by rw [hP]; rfl, rfl, fun y hy => (by cases hy), Nat.zero_le _, h0, by omega, by rw [List.length_nil]; omega, fun hb => ?_, fun hb => ?_⟩
  · have hb : alB N l lim = false := by simpa using hb
    rw [alL, alE, hP, ho2, hb]
    exact ⟨rfl, rfl, rfl, rfl⟩
  · have hb : alB N l lim = true := by simpa using hb
    have hA : alL N l lim = extP N l [] := by rw [alL, hP, ho2, hb]; rfl
    have hE : alE N l lim = 0 := by rw [alE, hP, ho2, hb]; rfl
    have hvl : vsL N l lim [] [] = extP N l [] := vsL_all hb
    rw [hA, hE, hvl]
    exact ⟨rfl, ⟨fun _ _ => rfl, fun _ _ _ _ => rfl⟩, rfl, rfl⟩

theorem v19z_eq (N : Int) (l : List Pq) (lim : Int) (B : List Int) : (fnVc (tabT [kChk [none, none, none, none, some (.us B)]] [(39, kVisZ lim)] [] [(10, fun _ _ => ghZ)] [] []) Try.f19 [rlV N 0 l, .i .i64 lim] [arP l] (resIs (.tup [.sl 0 (alL N l lim).length, .i .i64 (alE N l lim)]) 25 (alL N l lim).length (rsCols (alL N l lim)))) = (l.length = l.length ∧
 (mkN (fun (j : Nat) => ((nthD ((0 : Int), (0 : Int)) l j).fst, (nthD ((0 : Int), (0 : Int)) l j).snd))
 l.length).length ≤
 (1099511627776 : Nat) ∧
 (bif
 okP N
 (mkN (fun (j : Nat) => ((nthD ((0 : Int), (0 : Int)) l j).fst, (nthD ((0 : Int), (0 : Int)) l j).snd))
 l.length) then
 befL N.toNat
 (mkN (fun (j : Nat) => ((nthD ((0 : Int), (0 : Int)) l j).fst, (nthD ((0 : Int), (0 : Int)) l j).snd))
 l.length)
 else []) =
 B ∧
 ((errP N
 (mkN (fun (j : Nat) => ((nthD ((0 : Int), (0 : Int)) l j).fst, (nthD ((0 : Int), (0 : Int)) l j).snd))
 l.length) !=
 (0 : Int)) =
 true →
 (0 : Nat) = (alL N l lim).length ∧
 ((alL N l lim).length = (0 : Nat) ∧ True) ∧
 (0 : Nat) = (alL N l lim).length ∧
 errP N
 (mkN
 (fun (j : Nat) =>
 ((nthD ((0 : Int), (0 : Int)) l j).fst, (nthD ((0 : Int), (0 : Int)) l j).snd))
 l.length) =
 alE N l lim ∧
 True) ∧
 ((errP N
 (mkN (fun (j : Nat) => ((nthD ((0 : Int), (0 : Int)) l j).fst, (nthD ((0 : Int), (0 : Int)) l j).snd))
 l.length) !=
 (0 : Int)) =
 false →
 ((decide (lim < (1 : Int)) || decide (lim > (1048576 : Int))) = true →
 (0 : Nat) = (alL N l lim).length ∧
 ((alL N l lim).length = (0 : Nat) ∧ True) ∧
 (0 : Nat) = (alL N l lim).length ∧ (2 : Int) = alE N l lim ∧ True) ∧
 ((decide (lim < (1 : Int)) || decide (lim > (1048576 : Int))) = false →
 (0 : Nat) = (0 : Nat) ∧
 (0 : Nat) = (0 : Nat) ∧
 (AV.us B).len = (0 : Nat) ∧
 (AV.us B).len = (0 : Nat) ∧
 nthD (0 : Int) B = nthD (0 : Int) [] ∧
 (bif
 okP N
 (mkN
 (fun (j : Nat) =>
 ((nthD ((0 : Int), (0 : Int)) l j).fst, (nthD ((0 : Int), (0 : Int)) l j).snd))
 l.length) then
 N
 else (0 : Int)) =
 (0 : Int) ∧
 lim = lim ∧
 (0 : Nat) ≤ (1048576 : Nat) ∧
 ((!decide ((↑((0 : Nat) + (1 : Nat)) : Int) ≤ lim)) = true →
 (0 : Nat) = (alL N l lim).length ∧
 ((alL N l lim).length = (0 : Nat) ∧ True) ∧
 (0 : Nat) = (alL N l lim).length ∧ (4 : Int) = alE N l lim ∧ True) ∧
 ((!decide ((↑((0 : Nat) + (1 : Nat)) : Int) ≤ lim)) = false →
 (rowsG (fun (x x_1 : Nat) => (0 : Int)) (fun (x : Nat) => (0 : Nat)) (0 : Nat) ++
 [[]]).length =
 (alL N l lim).length ∧
 (((∀ (j : Nat),
 j < (alL N l lim).length →
 (nthD []
 (rowsG (fun (x x_1 : Nat) => (0 : Int)) (fun (x : Nat) => (0 : Nat))
 (0 : Nat) ++
 [[]])
 j).length =
 (nthD [] (alL N l lim) j).length) ∧
 (∀ (j : Nat),
 j < (alL N l lim).length →
 ∀ (i : Nat),
 i < (nthD [] (alL N l lim) j).length →
 nthD (0 : Int)
 (nthD []
 (rowsG (fun (x x_1 : Nat) => (0 : Int))
 (fun (x : Nat) => (0 : Nat)) (0 : Nat) ++
 [[]])
 j)
 i =
 nthD (0 : Int) (nthD [] (alL N l lim) j) i) ∧
 True) ∧
 True) ∧
 (rowsG (fun (x x_1 : Nat) => (0 : Int)) (fun (x : Nat) => (0 : Nat)) (0 : Nat) ++
 [[]]).length =
 (alL N l lim).length ∧
 (0 : Int) = alE N l lim ∧ True)))) := by kernel_rfl
theorem v19z (N : Int) (l : List Pq) (lim : Int) (B : List Int) (hB : B = befP N l) (hl : L9 l) (hP : okP N l = true) (h0 : N.toNat = 0) : fnVc (tabT [kChk [none, none, none, none, some (.us B)]] [(39, kVisZ lim)] [] [(10, fun _ _ => ghZ)] [] []) Try.f19 [rlV N 0 l, .i .i64 lim] [arP l] (resIs (.tup [.sl 0 (alL N l lim).length, .i .i64 (alE N l lim)]) 25 (alL N l lim).length (rsCols (alL N l lim))) := by
  rw [v19z_eq]
  simp only [eq_self, true_and, and_true, implies_true, imp_self, mkN_ps, mkN_rs, mkN_self, mkN_len, PLoop.of, lCnt, AV.len, lAl, lLsts]
  subst hB
  refine ⟨hl, rfl, fun h => ?_, fun h => ⟨fun ho => ?_, fun ho => ?_⟩⟩
  · rw [err_ok, hP] at h; cases h
  · have ho : alO lim = true := ho
    rw [alL, alE, hP, ho]
    exact ⟨rfl, rfl, rfl, rfl⟩
  have ho2 : alO lim = false := ho
  rw [Bool.or_eq_false_iff] at ho
  have hl1 := of_decide_eq_false ho.1
  have hl2 := of_decide_eq_false ho.2
  obtain ⟨e, hN, hN2, hn, hv⟩ := befP_ok hP
  have eL : rowsG (fun _ _ => 0) (fun _ => 0) 0 = [] := rfl
  have hN0 : N = 0 := by have := (validF_iff.1 hv).1; omega
  have hx : extP N l [] = [[]] := extP_full (by rw [h0]; rfl)
  have hb : alB N l lim = true := by rw [alB, hx]; exact Nat.ble_eq_true_of_le (by simp; omega)
  have hA : alL N l lim = [[]] := by rw [alL, hP, ho2, hb, hx]; rfl
  have hE : alE N l lim = 0 := by rw [alE, hP, ho2, hb]; rfl
  have hBn : befP N l = [] := List.eq_nil_of_length_eq_zero (by omega)
  rw [eL, hA, hE, hBn]
  refine ⟨rfl, rfl, rfl, by rw [hP, hN0]; rfl, by omega, fun hb => ?_, fun hb => ⟨rfl, ⟨fun _ _ => rfl, fun _ _ _ _ => rfl⟩, rfl, rfl⟩⟩
  · have := of_decide_eq_false (p := (((0 + 1 : Nat) : Int) ≤ lim)) (by simpa using hb)
    omega

theorem v21_eq (a b : List (List Int)) : (fnVc (tab [kInt []] [(0, .of (lLsts a b 5))]) Try.f21 [.sl 0 a.length, .sl 1 b.length] [.arr a.length (rsCols a), .arr b.length (rsCols b)] (plainIs (.b (decide (a = b))))) = ((((↑a.length : Int) != (↑b.length : Int)) = true → false = decide (a = b)) ∧
 (((↑a.length : Int) != (↑b.length : Int)) = false →
 ∃ (x : PUnit),
 (∃ (x : Nat), (x ≤ a.length ∧ List.take x a = List.take x b) ∧ ((0 : Int) = (↑x : Int) ∧ True) ∧ True) ∧
 ∀ (x_1 : Nat),
 x_1 ≤ a.length ∧ List.take x_1 a = List.take x_1 b →
 (decide ((↑x_1 : Int) < (↑a.length : Int)) = true →
 ((0 : Int) ≤ (↑x_1 : Int) ∧ (↑x_1 : Int) < (↑a.length : Int)) ∧
 x_1 < a.length ∧
 ((0 : Int) ≤ (↑x_1 : Int) ∧ (↑x_1 : Int) < (↑b.length : Int)) ∧
 x_1 < b.length ∧
 (nthD [] a x_1).length = (nthD [] a x_1).length ∧
 (nthD [] b x_1).length = (nthD [] b x_1).length ∧
 (mkN (fun (i : Nat) => nthD (0 : Int) (nthD [] a x_1) i) (nthD [] a x_1).length).length ≤
 (1099511627776 : Nat) ∧
 (mkN (fun (i : Nat) => nthD (0 : Int) (nthD [] b x_1) i) (nthD [] b x_1).length).length ≤
 (1099511627776 : Nat) ∧
 ((!decide
 (mkN (fun (i : Nat) => nthD (0 : Int) (nthD [] a x_1) i)
 (nthD [] a x_1).length =
 mkN (fun (i : Nat) => nthD (0 : Int) (nthD [] b x_1) i)
 (nthD [] b x_1).length)) =
 true →
 false = decide (a = b)) ∧
 ((!decide
 (mkN (fun (i : Nat) => nthD (0 : Int) (nthD [] a x_1) i)
 (nthD [] a x_1).length =
 mkN (fun (i : Nat) => nthD (0 : Int) (nthD [] b x_1) i)
 (nthD [] b x_1).length)) =
 false →
 ∃ (x_2 : Nat),
 (x_2 ≤ a.length ∧ List.take x_2 a = List.take x_2 b) ∧
 ((PLoop.of (lLsts a b (5 : Nat))).ann x).mu x_2 <
 ((PLoop.of (lLsts a b (5 : Nat))).ann x).mu x_1 ∧
 (a.length = a.length ∧
 b.length = b.length ∧
 IntKind.i64.wrap ((↑x_1 : Int) + (1 : Int)) = (↑x_2 : Int) ∧
 a.length = a.length ∧
 (↑a.length : Int) = (↑a.length : Int) ∧
 b.length = b.length ∧
 (↑b.length : Int) = (↑b.length : Int) ∧ false = false ∧ True) ∧
 (a.length = a.length ∧
 ((∀ (j : Nat),
 j < a.length → (nthD [] a j).length = (nthD [] a j).length) ∧
 (∀ (j : Nat),
 j < a.length →
 ∀ (i : Nat),
 i < (nthD [] a j).length →
 nthD (0 : Int) (nthD [] a j) i =
 nthD (0 : Int) (nthD [] a j) i) ∧
 True) ∧
 True) ∧
 (b.length = b.length ∧
 ((∀ (j : Nat),
 j < b.length → (nthD [] b j).length = (nthD [] b j).length) ∧
 (∀ (j : Nat),
 j < b.length →
 ∀ (i : Nat),
 i < (nthD [] b j).length →
 nthD (0 : Int) (nthD [] b j) i =
 nthD (0 : Int) (nthD [] b j) i) ∧
 True) ∧
 True) ∧
 True)) ∧
 (decide ((↑x_1 : Int) < (↑a.length : Int)) = false → true = decide (a = b)))) := by kernel_rfl
theorem v21 (a b : List (List Int)) (hla : L9 a) (ha : ∀ j, (nthD [] a j).length ≤ 1099511627776) (hb : ∀ j, (nthD [] b j).length ≤ 1099511627776) : fnVc (tab [kInt []] [(0, .of (lLsts a b 5))]) Try.f21 [.sl 0 a.length, .sl 1 b.length] [.arr a.length (rsCols a), .arr b.length (rsCols b)] (plainIs (.b (decide (a = b)))) := by
  rw [v21_eq]
  simp only [eq_self, true_and, and_true, implies_true, imp_self, mkN_ps, mkN_rs, mkN_self, mkN_len, PLoop.of, lCnt, AV.len, lAl, lLsts]
  have hla : a.length ≤ 1099511627776 := hla
  refine ⟨fun h => ?_, fun h => ?_⟩
  · refine (decide_eq_false fun e => ?_).symm
    subst e; simp at h
  have hlen : a.length = b.length := by
    have : (a.length : Int) = b.length := by simpa using h
    omega
  refine ⟨(), ⟨0, ⟨Nat.zero_le _, rfl⟩, rfl⟩, fun i hi => ⟨fun hlt => ?_, fun hlt => ?_⟩⟩
  · have hi2 := lt_len hlt
    refine ⟨bd hi2, hi2, by omega, by omega, ha i, hb i, fun hn => ?_, fun hn => ⟨i + 1, ⟨hi2, ?_⟩, by omega, wrS (n := 1099511627776) (by omega) (by omega)⟩⟩
    · refine (decide_eq_false fun e => ?_).symm
      subst e; simp at hn
    · have hn : nthD [] a i = nthD [] b i := by simpa using hn
      rw [take_succ' [] hi2, take_succ' [] (by omega), hi.2, hn]
  · have := ge_len hlt hi.1
    subst this
    have h2 := hi.2
    rw [List.take_length, hlen, List.take_length] at h2
    exact (decide_eq_true h2).symm

theorem fo19 : fnOk Try.prog 19 := ⟨Try.f19, Try.func19, by kernel_rfl, by kernel_rfl⟩
theorem fo21 : fnOk Try.prog 21 := ⟨Try.f21, Try.func21, by kernel_rfl, by kernel_rfl⟩
def t21 : List AV → Tab
  | [.rs a, .rs b] => tab [kInt []] [(0, .of (lLsts a b 5))]
  | _ => tab [] []
theorem c21 : CallOk Try.prog [] 21 (genF EL [] [.rs, .rs] sLst') := by
  refine okT (fn := Try.f21) Try.func21 fo21 t21 (fun av => ?_) (fun av => ?_) (fun av pre rv h => ?_) (fun av pre rv h hp => ?_)
  · unfold t21; split <;> first | exact tabOk (mOne (n18 _) mNil) | exact tabOk mNil
  · unfold t21; split <;> exact ⟨rfl, rfl⟩
  · unfold sLst' at h; split at h <;> cases h
    exact ⟨rfl, fun t a e => by cases e <;> exact List.cons_ne_nil _ _⟩
  · unfold sLst' at h; split at h <;> cases h
    exact v21 _ _ (hp _ (.head _)) (hp _ (.tail _ (.tail _ (.head _)))) (hp _ (.tail _ (.tail _ (.tail _ (.head _)))))
theorem n21 (nm : List (Option AV)) : CallOk Try.prog [] 21 (genF EL nm [.rs, .rs] sLst') := genNm c21

theorem tabTOk {calls : Calling} {cb : List (Nat × (List MBlk → List SV → Option BRes))} {loops : List (Nat × PLoop)} {takes : List (Nat × (List Slot → List MBlk → List Gh))} {pins : List (Nat × (Option Addr × Nat))} {su : List Nat} (h : ∀ p ∈ calls, CallOk Try.prog [] p.1 p.2) (hb : ∀ p ∈ cb, CallOkB Try.prog [] p.1 p.2) : TabOk Try.prog (tabT calls cb loops takes pins su) := ⟨mixed, tys, ints, fun _ _ hf => h _ (assoc_mem hf), fun _ _ hf => hb _ (assoc_mem hf)⟩
theorem visZ_inv {lim : Int} {m : List MBlk} {vs : List SV} {b : BRes} (h : kVisZ lim m vs = some b) : ∃ (s : Int) (e1 e2 e3 e4 e5 q w k k' nb nb' : Nat) (N' lim' : Int) (h0 : Nat → Int) (len : Nat → Nat) (g2 : Nat → Nat → Int),
    vs = [.i .u64 s, .ptr e1 0, .ptr e2 0, .ptr e3 0, .ptr e4 0, .ptr e5 0] ∧ nth m e1 = some (.cells [.nilsl]) ∧ nth m e2 = some (.cells [.i .i64 N', .sl q nb]) ∧ nth m e3 = some (.cells [.sl w k]) ∧ nth m e4 = some (.cells [.i .i64 lim']) ∧ nth m e5 = some (.cells [.fn 39 [.ptr e1 0, .ptr e2 0, .ptr e3 0, .ptr e4 0, .ptr e5 0]]) ∧
    nth m q = some (.oarr 54 nb' [.int .u64 h0]) ∧ nth m w = some (.oarr 25 k' [.rows len [g2]]) ∧ nodupN [e1, e2, e3, e4, e5, q, w] = true ∧
    b = tB [e1, e2, e3, e4, e5, q, w] [6] (visUpZ lim (rowsG g2 len k' ++ [[]])) (.b (decide (((k' + 1 : Nat) : Int) ≤ lim))) [k = k', nb = 0, nb' = 0, h0 = nthD 0 [], N' = 0, lim' = lim, k' ≤ 1048576] := by
  unfold kVisZ at h
  repeat' (split at h)
  all_goals first | cases h | skip
  rename_i _ _ s e1 e2 e3 e4 e5 _ _ _ _ _ N' q nb w k lim' p1 p2 p3 p4 p5 h1 h2 h3 h4 h5 _ _ nb' h0 k' len g2 h7 h8
  cases hc : (Nat.beq p1 e1 && Nat.beq p2 e2 && Nat.beq p3 e3 && Nat.beq p4 e4 && Nat.beq p5 e5 && nodupN [e1, e2, e3, e4, e5, q, w]) <;> rw [hc] at h
  · cases h
  · simp only [Bool.and_eq_true] at hc
    obtain ⟨⟨⟨⟨⟨q1, q2⟩, q3⟩, q4⟩, q5⟩, q6⟩ := hc
    have q1 := Nat.eq_of_beq_eq_true q1
    have q2 := Nat.eq_of_beq_eq_true q2
    have q3 := Nat.eq_of_beq_eq_true q3
    have q4 := Nat.eq_of_beq_eq_true q4
    have q5 := Nat.eq_of_beq_eq_true q5
    subst q1; subst q2; subst q3; subst q4; subst q5
    simp only [cond_true, Option.some.injEq] at h
    exact ⟨_, _, _, _, _, _, _, _, _, _, _, _, _, _, _, _, _, rfl, h1, h2, h3, h4, h5, h7, h8, q6, h.symm⟩
theorem bz39 {lim : Int} : CallOkB Try.prog [] 39 (kVisZ lim) := by
  refine callOkB Try.func39 fo39 fun m vs b h hp => ?_
  obtain ⟨s, e1, e2, e3, e4, e5, q, w, k, k', nb, nb', N', lim', h0, len, g2, rfl, h1, h2, h3, h4, h5, h7, h8, h9, rfl⟩ := visZ_inv h
  have p2 := hp (k = k') (.head _)
  have p3 := hp (nb = _) (.tail _ (.head _))
  have p4 := hp (nb' = _) (.tail _ (.tail _ (.head _)))
  have p5 := hp (h0 = _) (.tail _ (.tail _ (.tail _ (.head _))))
  have p6 := hp (N' = _) (.tail _ (.tail _ (.tail _ (.tail _ (.head _)))))
  have p7 := hp (lim' = lim) (.tail _ (.tail _ (.tail _ (.tail _ (.tail _ (.head _))))))
  have p8 := hp _ (.tail _ (.tail _ (.tail _ (.tail _ (.tail _ (.tail _ (.head _)))))))
  subst p2; subst p3; subst p4; subst p5; subst p6; subst p7
  refine ⟨tabT [kClnZ] [] [] [] [] [1000000], [e1, e2, e3, e4, e5, q, w], visMZ lim' g2 len k, visVA s, [6], visUpZ lim' (rowsG g2 len k ++ [[]]), .b (decide (((k + 1 : Nat) : Int) ≤ lim')), _, fun pins => tabTOk (mOne clnZ mNil) (fun p hp => by cases hp), rfl, rfl, h9, rfl, rfl, fun i k0 hk => ?_, rfl, fun x => v39z lim' g2 len k s x p8⟩
  rw [nth_eq] at h1 h2 h3 h4 h5 h7 h8
  match i with
  | 0 => cases hk; exact h1
  | 1 => cases hk; exact h2
  | 2 => cases hk; exact h3
  | 3 => cases hk; exact h4
  | 4 => cases hk; exact h5
  | 5 => cases hk; exact h7
  | 6 => cases hk; exact h8
  | _ + 7 => cases hk
def t19 : List AV → Tab
  | [.r N l, .i lim] => bif okP N l && decide (lim ≤ 1048576) then (bif Nat.ble 1 N.toNat then tabT [kChk [none, none, none, none, some (.us (befP N l))]] [(39, kVisA N l lim (N.toNat + 1))] [] [(10, fun _ _ => ghA)] [] [] else tabT [kChk [none, none, none, none, some (.us (befP N l))]] [(39, kVisZ lim)] [] [(10, fun _ _ => ghZ)] [] []) else tabT [kChk [none, none, none, none, some (.us (befP N l))]] [] [] [(10, fun _ _ => ghA)] [] []
  | _ => tab [] []
theorem c19 : CallOk Try.prog [] 19 (genF EL [] [.r, .i] sAll) := by
  refine okT (fn := Try.f19) Try.func19 fo19 t19 (fun av => ?_) (fun av => ?_) (fun av pre rv h => ?_) (fun av pre rv h hp => ?_)
  · unfold t19; split
    · rename_i N l lim
      cases hP : okP N l
      · exact tabTOk (mOne (n33 _) mNil) (fun p hp => by cases hp)
      · cases hd : decide (lim ≤ 1048576)
        · exact tabTOk (mOne (n33 _) mNil) (fun p hp => by cases hp)
        · have hd := of_decide_eq_true hd
          cases Nat.ble 1 N.toNat
          · exact tabTOk (mOne (n33 _) mNil) (fun p hp => by rcases List.mem_singleton.1 hp with rfl; exact bz39)
          · exact tabTOk (mOne (n33 _) mNil) (fun p hp => by rcases List.mem_singleton.1 hp with rfl; exact b39 hP hd _)
    · exact tabOk mNil
  · unfold t19; split
    · rename_i N l lim
      cases okP N l <;> cases decide (lim ≤ 1048576) <;> cases Nat.ble 1 N.toNat <;> exact ⟨rfl, rfl⟩
    · exact ⟨rfl, rfl⟩
  · unfold sAll at h; split at h <;> cases h
    exact ⟨rfl, fun t a e => by cases e <;> exact List.cons_ne_nil _ _⟩
  · unfold sAll at h; split at h <;> cases h
    rename_i N l lim
    have h0 := hp _ (.head _)
    unfold t19
    cases hP : okP N l
    · simp only [hP, Bool.false_and, cond_false]
      exact v19n _ _ _ _ rfl h0 (.inl hP)
    · cases hd : decide (lim ≤ 1048576)
      · simp only [hP, hd, Bool.and_false, cond_false]
        exact v19n _ _ _ _ rfl h0 (.inr (of_decide_eq_false hd))
      · cases hN : Nat.ble 1 N.toNat
        · simp only [hP, hd, hN, Bool.and_self, cond_true, cond_false]
          exact v19z _ _ _ _ rfl h0 hP (by
            have : ¬ 1 ≤ N.toNat := fun h => by rw [Nat.ble_eq_true_of_le h] at hN; cases hN
            omega)
        · simp only [hP, hd, hN, Bool.and_self, cond_true]
          exact v19 _ _ _ _ rfl h0 hP (Nat.le_of_ble_eq_true hN)
theorem n19 (nm : List (Option AV)) : CallOk Try.prog [] 19 (genF EL nm [.r, .i] sAll) := genNm c19
end Go.Proofs.Ytiokmglajigngaa
