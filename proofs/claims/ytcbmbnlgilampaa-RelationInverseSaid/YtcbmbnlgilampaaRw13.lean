/-
  A part of the proof (Rw13).
-/
import Derived.Test.YtcbmbnlgilampaaRw12
namespace Go.Proofs.Ytcbmbnlgilampaa
open Go Go.Proofs.Ytcbmbnlgilampaa.Sx
set_option maxRecDepth 100000
set_option linter.unusedSimpArgs false
set_option linter.unusedVariables false

theorem row_len {n : Nat} {f : Pf} (h : n ≤ 64) (j : Nat) : (nthD [] (sucL n f) j).length ≤ 64 := by
  by_cases hj : j < n
  · rw [nthD_sucL hj, List.length_map]; exact Nat.le_trans (rowL_len f j n) h
  · rw [nthD_out _ _ _ (by simp; omega)]; simp
theorem tabCOk {calls : Calling} {R : List (List Int)} {F : Nat} {loops : List (Nat × PLoop)} (h : ∀ p ∈ calls, CallOk Try.prog [] p.1 p.2) (hb : CallOkB Try.prog [] 46 (kVisF R F)) : TabOk Try.prog (tabC calls R F loops) := ⟨mixed, tys, ints, fun _ _ hf => h _ (assoc_mem hf), fun g G hf => (by
  have h2 := assoc_mem hf
  rcases List.mem_singleton.1 h2 with h3
  cases h3
  exact hb)⟩
theorem v38_eq (N : Int) (l : List Pq) : (fnVc (tabC [kSuc [none, none, some (.rs (sucL N.toNat (setF l)))]] (sucL N.toNat (setF l)) (N.toNat + 1) [(0, .of (lCls (sucL N.toNat (setF l)) N 12 4))]) Try.f38 [rlV N 0 l] [arP l] (resMap (wF (setF l) N.toNat))) = (l.length = l.length ∧
 validF N
 (mkN (fun (j : Nat) => ((nthD ((0 : Int), (0 : Int)) l j).fst, (nthD ((0 : Int), (0 : Int)) l j).snd))
 l.length) =
 true ∧
 (mkN (fun (j : Nat) => ((nthD ((0 : Int), (0 : Int)) l j).fst, (nthD ((0 : Int), (0 : Int)) l j).snd))
 l.length).length ≤
 (1099511627776 : Nat) ∧
 sucL N.toNat
 (setF
 (mkN (fun (j : Nat) => ((nthD ((0 : Int), (0 : Int)) l j).fst, (nthD ((0 : Int), (0 : Int)) l j).snd))
 l.length)) =
 sucL N.toNat (setF l) ∧
 ∃ (x : PUnit),
 (∃ (x : Nat),
 (x ≤ N.toNat ∧ True) ∧
 ((0 : Int) = (↑x : Int) ∧ True) ∧
 (∀ (x_1 y : Int), false = clsG (sucL N.toNat (setF l)) N.toNat x x_1 y) ∧ True) ∧
 ∀ (x_1 : Nat),
 x_1 ≤ N.toNat ∧ True →
 (decide ((↑x_1 : Int) < N) = true →
 (AV.rs (sucL N.toNat (setF l))).len = (sucL N.toNat (setF l)).length ∧
 (AV.rs (sucL N.toNat (setF l))).len = (sucL N.toNat (setF l)).length ∧
 ((fun (j : Nat) => (nthD [] (sucL N.toNat (setF l)) j).length) = fun (j : Nat) =>
 (nthD [] (sucL N.toNat (setF l)) j).length) ∧
 ((fun (j i : Nat) => nthD (0 : Int) (nthD [] (sucL N.toNat (setF l)) j) i) =
 fun (j i : Nat) => nthD (0 : Int) (nthD [] (sucL N.toNat (setF l)) j) i) ∧
 ((0 : Int) ≤ (↑x_1 : Int) ∧ (↑x_1 : Int) < (↑(sucL N.toNat (setF l)).length : Int)) ∧
 unv (sucL N.toNat (setF l)).length (clsG (sucL N.toNat (setF l)) N.toNat x_1)
 (↑x_1 : Int) <
 N.toNat + (1 : Nat) ∧
 ∃ (x_2 : Nat),
 (x_2 ≤ N.toNat ∧ True) ∧
 ((PLoop.of (lCls (sucL N.toNat (setF l)) N (12 : Nat) (4 : Nat))).ann x).mu x_2 <
 ((PLoop.of (lCls (sucL N.toNat (setF l)) N (12 : Nat) (4 : Nat))).ann x).mu
 x_1 ∧
 ((N = N ∧ l.length = l.length) ∧
 True ∧
 True ∧
 True ∧
 True ∧
 (N = N ∧ l.length = l.length) ∧
 (AV.rs (sucL N.toNat (setF l))).len =
 (AV.rs (sucL N.toNat (setF l))).len ∧
 True ∧
 True ∧
 N = N ∧
 IntKind.i64.wrap ((↑x_1 : Int) + (1 : Int)) = (↑x_2 : Int) ∧
 True) ∧
 (l.length = l.length ∧
 (∀ (j : Nat),
 j < l.length →
 (nthD ((0 : Int), (0 : Int)) l j).fst =
 (nthD ((0 : Int), (0 : Int)) l j).fst) ∧
 (∀ (j : Nat),
 j < l.length →
 (nthD ((0 : Int), (0 : Int)) l j).snd =
 (nthD ((0 : Int), (0 : Int)) l j).snd) ∧
 True) ∧
 (N = N ∧ l.length = l.length) ∧
 ((sucL N.toNat (setF l)).length = (AV.rs (sucL N.toNat (setF l))).len ∧
 ((∀ (j : Nat),
 j < (AV.rs (sucL N.toNat (setF l))).len →
 (nthD [] (sucL N.toNat (setF l)) j).length =
 (nthD [] (sucL N.toNat (setF l)) j).length) ∧
 (∀ (j : Nat),
 j < (AV.rs (sucL N.toNat (setF l))).len →
 ∀ (i : Nat),
 i < (nthD [] (sucL N.toNat (setF l)) j).length →
 nthD (0 : Int) (nthD [] (sucL N.toNat (setF l)) j) i =
 nthD (0 : Int) (nthD [] (sucL N.toNat (setF l)) j) i) ∧
 True) ∧
 True) ∧
 (sucL N.toNat (setF l)).length = (AV.rs (sucL N.toNat (setF l))).len ∧
 (∀ (x y : Int),
 dfs (sucL N.toNat (setF l)) (↑x_1 : Int) (N.toNat + (1 : Nat))
 (↑x_1 : Int) (clsG (sucL N.toNat (setF l)) N.toNat x_1) x y =
 clsG (sucL N.toNat (setF l)) N.toNat x_2 x y) ∧
 True ∧ True) ∧
 (decide ((↑x_1 : Int) < N) = false →
 ∀ (x y : Int), clsG (sucL N.toNat (setF l)) N.toNat x_1 x y = wF (setF l) N.toNat x y)) := by kernel_rfl
theorem v38 (N : Int) (l : List Pq) (hv : validF N l = true) (hl : L9 l) : fnVc (tabC [kSuc [none, none, some (.rs (sucL N.toNat (setF l)))]] (sucL N.toNat (setF l)) (N.toNat + 1) [(0, .of (lCls (sucL N.toNat (setF l)) N 12 4))]) Try.f38 [rlV N 0 l] [arP l] (resMap (wF (setF l) N.toNat)) := by
  rw [v38_eq]
  simp only [eq_self, true_and, and_true, implies_true, imp_self, mkN_ps, mkN_rs, mkN_self, mkN_len, PLoop.of, lCnt, lCls, AV.len, sucL_len]
  obtain ⟨h1, h2, h3⟩ := validF_iff.1 hv
  refine ⟨hv, hl, (), ⟨0, by simp, rfl, fun x y => rfl⟩, fun k hk => ⟨fun hlt => ?_, fun hlt x y => ?_⟩⟩
  · have hlt2 := of_decide_eq_true hlt
    refine ⟨⟨by omega, by omega⟩, ?_, k + 1, by omega, by omega, wrS (n := 64) (by omega) (by omega), fun x y => rfl⟩
    have := unv_le (n := N.toNat) (s := clsG (sucL N.toNat (setF l)) N.toNat k) (a := (k : Int))
    omega
  · have hlt2 := of_decide_eq_false hlt
    have e : k = N.toNat := by omega
    rw [e, clsG_eq (rowsOf_suc (sup_set hv))]
theorem fo38 : fnOk Try.prog 38 := ⟨Try.f38, Try.func38, by kernel_rfl, by kernel_rfl⟩

theorem c38 : CallOk Try.prog [] 38 (genF EL [] [.r] sCls) := by
  refine genOk (fn := Try.f38) Try.func38 fo38 (fun av pre rv h => ?_) (fun av pre rv h hp => ?_)
  · unfold sCls at h; split at h <;> cases h
    exact ⟨rfl, fun t a e => by cases e⟩
  · unfold sCls at h; split at h <;> cases h
    rename_i N l
    have hv : validF N l = true := hp _ (.head _)
    obtain ⟨h1, h2, h3⟩ := validF_iff.1 hv
    refine ⟨_, tabCOk (mOne (n34 _) mNil) (b46 (f := setF l) ?_ (row_len (by omega)) _), rfl, rfl, v38 _ _ hv (hp _ (.tail _ (.head _)))⟩
    rw [sucL_len]
    exact rowsOf_suc (sup_set hv)
theorem n38 (nm : List (Option AV)) : CallOk Try.prog [] 38 (genF EL nm [.r] sCls) := genNm c38
end Go.Proofs.Ytcbmbnlgilampaa
