/-
  A part of the proof (LM32).
-/
import Derived.Test.YtiokmglajigngaaLM31
namespace Go.Proofs.Ytiokmglajigngaa
open Go Go.Proofs.Ytiokmglajigngaa.Sx
set_option maxRecDepth 100000
set_option linter.unusedSimpArgs false
set_option linter.unusedVariables false

theorem choL_len (n j : Nat) : (choL n j).length = j := by simp [choL]
theorem choL_nth {n j k : Nat} (h : k < j) : nthD 0 (choL n j) k = (cho n k : Int) := by
  rw [nthD_get _ _ _ (by rw [choL_len]; exact h)]
  simp [choL]
theorem choL_succ (n j : Nat) : choL n (j + 1) = choL n j ++ [(cho n j : Int)] := by simp [choL, List.range_succ]
def rowP : Nat → List Nat
  | 0 => [1]
  | n + 1 => List.zipWith (· + ·) (0 :: rowP n) (rowP n ++ [0])
theorem rowP_len : ∀ n, (rowP n).length = n + 1 := by
  intro n
  induction n with
  | zero => rfl
  | succ n ih => simp [rowP, ih]
theorem zip_nth : ∀ (a b : List Nat) (k : Nat), a.length = b.length → nthD 0 (List.zipWith (· + ·) a b) k = nthD 0 a k + nthD 0 b k := by
  intro a
  induction a with
  | nil => intro b k h; cases b with | nil => rfl | cons _ _ => simp at h
  | cons x a ih =>
    intro b k h
    cases b with
    | nil => simp at h
    | cons y b =>
      cases k with
      | zero => rfl
      | succ k => exact ih b k (by simpa using h)
theorem nth_zero : ∀ (l : List Nat) (k : Nat), nthD 0 (l ++ [0]) k = nthD 0 l k := by
  intro l
  induction l with
  | nil => intro k; cases k <;> rfl
  | cons x r ih => intro k; cases k with | zero => rfl | succ k => exact ih k
theorem rowP_cho : ∀ n k, nthD 0 (rowP n) k = cho n k := by
  intro n
  induction n with
  | zero => intro k; cases k with | zero => rfl | succ k => rfl
  | succ n ih =>
    intro k
    rw [rowP, zip_nth _ _ _ (by simp), nth_zero, ih]
    cases k with
    | zero => rw [cho_zero, cho_zero]; rfl
    | succ k =>
      show nthD 0 (rowP n) k + _ = _
      rw [ih, cho_succ]
theorem rowP_max : (List.range 65).all (fun n => (rowP n).all (fun x => Nat.ble x maxI)) = true := by decide +kernel
theorem cho_le {n : Nat} (h : n ≤ 64) (k : Nat) : cho n k ≤ maxI := by
  rw [← rowP_cho]
  by_cases hk : k < (rowP n).length
  · have := List.all_eq_true.1 (List.all_eq_true.1 rowP_max n (List.mem_range.2 (by omega))) _ (nthD_mem 0 hk)
    exact Nat.le_of_ble_eq_true this
  · rw [nthD_out _ _ _ (by omega)]; exact Nat.zero_le _
theorem cho_pos : ∀ (n k : Nat), k ≤ n → 0 < cho n k := by
  intro n
  induction n with
  | zero => intro k h; have : k = 0 := by omega
            subst this; exact Nat.one_pos
  | succ n ih =>
    intro k h
    cases k with
    | zero => exact Nat.one_pos
    | succ k => rw [cho_succ]; have := ih k (by omega); omega
theorem v26_eq (n k : Int) : (fnVc (tabT [] [] [(0, .of (lCo n.toNat)), (2, lCi n.toNat)] [(2, ghC 0), (11, ghC 1)] [] []) Try.f26 [.i .i64 n, .i .i64 k] [] (plainIs (.i .i64 (cho n.toNat k.toNat : Int)))) = (∃ (x : PUnit),
 (∃ (x : Nat),
 x ≤ n.toNat ∧
 ((0 : Int) = (↑x : Int) ∧ (1 : Nat) = x + (1 : Nat) ∧ True) ∧
 ((1 : Nat) = x + (1 : Nat) ∧
 (∀ (j : Nat), j < x + (1 : Nat) → pickI [(1 : Int)] j = nthD (0 : Int) (choL x (x + (1 : Nat))) j) ∧
 True) ∧
 True) ∧
 ∀ (x_1 : Nat),
 x_1 ≤ n.toNat →
 (decide ((↑x_1 : Int) < n) = true →
 ∃ (x_2 : Nat),
 (∃ (x : Nat),
 (x ≤ x_2 ∧ x_2 < n.toNat) ∧
 ((1 : Int) = (↑(x + (1 : Nat)) : Int) ∧ (1 : Nat) = x + (1 : Nat) ∧ True) ∧
 ((1 : Nat) = x + (1 : Nat) ∧
 (∀ (j : Nat),
 j < x + (1 : Nat) →
 pickI [(1 : Int)] j = nthD (0 : Int) (choL (x_2 + (1 : Nat)) (x + (1 : Nat))) j) ∧
 True) ∧
 True) ∧
 ∀ (x_3 : Nat),
 x_3 ≤ x_2 ∧ x_2 < n.toNat →
 (decide ((↑(x_3 + (1 : Nat)) : Int) < (↑(x_1 + (1 : Nat)) : Int)) = true →
 ((0 : Int) ≤ IntKind.i64.wrap ((↑(x_3 + (1 : Nat)) : Int) - (1 : Int)) ∧
 IntKind.i64.wrap ((↑(x_3 + (1 : Nat)) : Int) - (1 : Int)) < (↑(x_1 + (1 : Nat)) : Int)) ∧
 (IntKind.i64.wrap ((↑(x_3 + (1 : Nat)) : Int) - (1 : Int))).toNat < x_1 + (1 : Nat) ∧
 ((0 : Int) ≤ (↑(x_3 + (1 : Nat)) : Int) ∧
 (↑(x_3 + (1 : Nat)) : Int) < (↑(x_1 + (1 : Nat)) : Int)) ∧
 x_3 + (1 : Nat) < x_1 + (1 : Nat) ∧
 x_3 + (1 : Nat) = x_3 + (1 : Nat) ∧
 (1 : Nat) = (1 : Nat) ∧
 (x_3 + (1 : Nat) + (1 : Nat)) * (8 : Nat) ≤ (140737488355328 : Nat) ∧
 x_3 + (1 : Nat) + (1 : Nat) ≤ (9223372036854775807 : Nat) ∧
 ∃ (x : Nat),
 (x ≤ x_2 ∧ x_2 < n.toNat) ∧
 ((lCi n.toNat).ann x_2).mu x < ((lCi n.toNat).ann x_2).mu x_3 ∧
 (n = n ∧
 k = k ∧
 (0 : Int) = (0 : Int) ∧
 x_1 + (1 : Nat) = x_1 + (1 : Nat) ∧
 (↑x_1 : Int) = (↑x_1 : Int) ∧
 x_3 + (1 : Nat) + (1 : Nat) = x + (1 : Nat) ∧
 IntKind.i64.wrap ((↑(x_3 + (1 : Nat)) : Int) + (1 : Int)) =
 (↑(x + (1 : Nat)) : Int) ∧
 (↑x_1 : Int) = (↑x_1 : Int) ∧
 n = n ∧ true = true ∧ True) ∧
 (x_1 + (1 : Nat) = x_1 + (1 : Nat) ∧
 (∀ (j : Nat),
 j < x_1 + (1 : Nat) →
 nthD (0 : Int) (choL x_1 (x_1 + (1 : Nat))) j =
 nthD (0 : Int) (choL x_1 (x_1 + (1 : Nat))) j) ∧
 True) ∧
 (x_3 + (1 : Nat) + (1 : Nat) = x + (1 : Nat) ∧
 (∀ (j : Nat),
 j < x + (1 : Nat) →
 (bif j.blt (x_3 + (1 : Nat)) then
 nthD (0 : Int)
 (choL (x_2 + (1 : Nat)) (x_3 + (1 : Nat))) j
 else
 pickI
 [IntKind.i64.wrap
 (nthD (0 : Int) (choL x_1 (x_1 + (1 : Nat)))
 (IntKind.i64.wrap
 ((↑(x_3 + (1 : Nat)) : Int) -
 (1 : Int))).toNat +
 nthD (0 : Int) (choL x_1 (x_1 + (1 : Nat)))
 (x_3 + (1 : Nat)))]
 (j - (x_3 + (1 : Nat)))) =
 nthD (0 : Int) (choL (x_2 + (1 : Nat)) (x + (1 : Nat)))
 j) ∧
 True) ∧
 True) ∧
 (decide ((↑(x_3 + (1 : Nat)) : Int) < (↑(x_1 + (1 : Nat)) : Int)) = false →
 x_3 + (1 : Nat) = x_3 + (1 : Nat) ∧
 (1 : Nat) = (1 : Nat) ∧
 (x_3 + (1 : Nat) + (1 : Nat)) * (8 : Nat) ≤ (140737488355328 : Nat) ∧
 x_3 + (1 : Nat) + (1 : Nat) ≤ (9223372036854775807 : Nat) ∧
 ∃ (x_4 : Nat),
 x_4 ≤ n.toNat ∧
 ((PLoop.of (lCo n.toNat)).ann x).mu x_4 < ((PLoop.of (lCo n.toNat)).ann x).mu x_1 ∧
 (n = n ∧
 k = k ∧
 (0 : Int) = (0 : Int) ∧
 x_3 + (1 : Nat) + (1 : Nat) = x_4 + (1 : Nat) ∧
 IntKind.i64.wrap ((↑x_1 : Int) + (1 : Int)) = (↑x_4 : Int) ∧ True) ∧
 (x_3 + (1 : Nat) + (1 : Nat) = x_4 + (1 : Nat) ∧
 (∀ (j : Nat),
 j < x_4 + (1 : Nat) →
 (bif j.blt (x_3 + (1 : Nat)) then
 nthD (0 : Int) (choL (x_2 + (1 : Nat)) (x_3 + (1 : Nat))) j
 else pickI [(1 : Int)] (j - (x_3 + (1 : Nat)))) =
 nthD (0 : Int) (choL x_4 (x_4 + (1 : Nat))) j) ∧
 True) ∧
 True)) ∧
 (decide ((↑x_1 : Int) < n) = false →
 ((0 : Int) ≤ k ∧ k < (↑(x_1 + (1 : Nat)) : Int)) ∧
 k.toNat < x_1 + (1 : Nat) ∧
 nthD (0 : Int) (choL x_1 (x_1 + (1 : Nat))) k.toNat = (↑(cho n.toNat k.toNat) : Int))) := by kernel_rfl
theorem v26 (n k : Int) (hn : 0 ≤ n ∧ n ≤ 64) (hk : 0 ≤ k ∧ k ≤ n) : fnVc (tabT [] [] [(0, .of (lCo n.toNat)), (2, lCi n.toNat)] [(2, ghC 0), (11, ghC 1)] [] []) Try.f26 [.i .i64 n, .i .i64 k] [] (plainIs (.i .i64 (cho n.toNat k.toNat : Int))) := by
  rw [v26_eq]
  simp only [eq_self, true_and, and_true, implies_true, imp_self, mkN_ps, mkN_rs, mkN_self, mkN_len, PLoop.of, lCnt, AV.len, lCo, lCi, lTr]
  have h1 : ∀ (i j : Nat), j < 1 → pickI [1] j = nthD 0 (choL i 1) j := fun i j hj => by
    have : j = 0 := by omega
    subst this
    rw [choL_nth (by omega), cho_zero]; rfl
  refine ⟨(), ⟨0, Nat.zero_le _, ⟨rfl, rfl⟩, rfl, fun j hj => h1 0 j (by omega)⟩, fun i hi => ⟨fun hlt => ?_, fun hlt => ?_⟩⟩
  · have hi2 : i < n.toNat := by have := of_decide_eq_true hlt; omega
    refine ⟨i, ⟨0, ⟨Nat.zero_le _, hi2⟩, ⟨rfl, rfl⟩, rfl, fun j hj => h1 (i + 1) j (by omega)⟩, fun j hj => ⟨fun hlj => ?_, fun hlj => ?_⟩⟩
    · have hj2 : j + 1 < i + 1 := lt_len hlj
      have hw : IntKind.i64.wrap (((j + 1 : Nat) : Int) - 1) = (j : Int) := by rw [w64_eq (by omega) (by omega)]; omega
      rw [hw, Int.toNat_natCast, choL_nth (show j < i + 1 by omega), choL_nth (show j + 1 < i + 1 by omega)]
      have hb := cho_le (n := i + 1) (by omega) (j + 1)
      have hs : cho (i + 1) (j + 1) = cho i j + cho i (j + 1) := rfl
      unfold maxI at hb
      have hw2 : IntKind.i64.wrap ((cho i j : Int) + (cho i (j + 1) : Int)) = (cho (i + 1) (j + 1) : Int) := by rw [w64_eq (by omega) (by omega), hs]; omega
      rw [hw2]
      refine ⟨⟨by omega, by omega⟩, by omega, ⟨by omega, by omega⟩, by omega, by omega, by omega, j + 1, ⟨by omega, hi2⟩, by omega, ⟨rfl, wrS (n := 65) (by omega) (by omega)⟩, rfl, fun t ht => ?_⟩
      have := ap1I (l := choL (i + 1) (j + 1)) (x := (cho (i + 1) (j + 1) : Int)) t (by rw [← choL_succ, choL_len]; exact ht)
      rw [choL_len] at this
      rw [choL_succ (i + 1) (j + 1)]
      exact this
    · have hj2 : j = i := by have := of_decide_eq_false hlj; omega
      subst hj2
      refine ⟨by omega, by omega, j + 1, hi2, by omega, ⟨rfl, wrS (n := 64) (by omega) (by omega)⟩, rfl, fun t ht => ?_⟩
      have := ap1I (l := choL (j + 1) (j + 1)) (x := (cho (j + 1) (j + 1) : Int)) t (by rw [← choL_succ, choL_len]; exact ht)
      rw [choL_len] at this
      rw [choL_succ (j + 1) (j + 1), ← this, cho_self]
      rfl
  · have hi2 : i = n.toNat := by have := of_decide_eq_false hlt; omega
    rw [hi2, choL_nth (by omega)]
    exact ⟨⟨hk.1, by omega⟩, by omega, rfl⟩

theorem fo26 : fnOk Try.prog 26 := ⟨Try.f26, Try.func26, by kernel_rfl, by kernel_rfl⟩
def t26 : List AV → Tab
  | [.i n, .i k] => tabT [] [] [(0, .of (lCo n.toNat)), (2, lCi n.toNat)] [(2, ghC 0), (11, ghC 1)] [] []
  | _ => tab [] []
theorem c26 : CallOk Try.prog [] 26 (genF EL [] [.i, .i] sCho) := by
  refine okT (fn := Try.f26) Try.func26 fo26 t26 (fun av => ?_) (fun av => ?_) (fun av pre rv h => ?_) (fun av pre rv h hp => ?_)
  · unfold t26; split <;> first | exact tabTOk mNil (fun p hp => by cases hp) | exact tabOk mNil
  · unfold t26; split <;> exact ⟨rfl, rfl⟩
  · unfold sCho at h; split at h <;> cases h
    exact ⟨rfl, fun t a e => by cases e <;> exact List.cons_ne_nil _ _⟩
  · unfold sCho at h; split at h <;> cases h
    exact v26 _ _ (hp _ (.head _)) (hp _ (.tail _ (.head _)))
theorem n26 (nm : List (Option AV)) : CallOk Try.prog [] 26 (genF EL nm [.i, .i] sCho) := genNm c26
end Go.Proofs.Ytiokmglajigngaa
