/-
  A part of the proof (Cl4).
-/
import Derived.Test.YthdmdlipifpbhaaCl3
namespace Go.Proofs.Ythdmdlipifpbhaa
open Go Go.Proofs.Ythdmdlipifpbhaa.Sx
set_option maxRecDepth 100000
set_option linter.unusedSimpArgs false
set_option linter.unusedVariables false
def kV : Nat × (List MBlk → List SV → Option AR) := (12, fC1 L40 fun l => .b (validL l))
def kV' : Nat × (List MBlk → List SV → Option AR) := (13, fC1 L40 fun l => .b (validL l))
def kC : Nat × (List MBlk → List SV → Option AR) := (28, fC1i (fun l _ => L40 l) fun l a => .i .i64 (cntL l a))
def kC' : Nat × (List MBlk → List SV → Option AR) := (29, fC1i (fun l _ => L40 l) fun l a => .i .i64 (cntL l a))
def kA : Nat × (List MBlk → List SV → Option AR) := (30, rC1i (fun l _ => L40 l) advL)
def kJ : Nat × (List MBlk → List SV → Option AR) := (32, rC2 (fun a b => L40 a ∧ L40 b) joinL)
def kB : Nat × (List MBlk → List SV → Option AR) := (33, fC2 (fun a b => L40 a ∧ L40 b) fun a b => .b (belL a b))
theorem L40i {l : List Tk} (h : L40 l) : l.length ≤ 1099511627776 := h
theorem v10_eq (l : List Tk) (a : Int) : (fnVc (tab [kV, kC] []) Try.f10 [.sl 0 l.length, .i .i64 a] [clkArr l] (plainIs (.i .i64 (getL l a)))) = (l.length = l.length ∧
  (mkL l.length (agF l) (ctF l)).length ≤ 1099511627776 ∧
    ((!validL (mkL l.length (agF l) (ctF l))) = true → 0 = getL l a) ∧
      ((!validL (mkL l.length (agF l) (ctF l))) = false →
        l.length = l.length ∧
          (mkL l.length (agF l) (ctF l)).length ≤ 1099511627776 ∧ cntL (mkL l.length (agF l) (ctF l)) a = getL l a)) := by kernel_rfl
theorem v10 (l : List Tk) (a : Int) (hL : L40 l) : fnVc (tab [kV, kC] []) Try.f10 [.sl 0 l.length, .i .i64 a] [clkArr l] (plainIs (.i .i64 (getL l a))) := by
  rw [v10_eq]
  have hLL := L40i hL
  simp only [mkL_self, true_and]
  refine ⟨hLL, fun h => ?_, fun h => ⟨hLL, ?_⟩⟩
  · have h : validL l = false := by simpa using h
    simp only [getL, h, cond_false]
  · have h : validL l = true := by simpa using h
    simp only [getL, h, cond_true]
theorem v11_eq (l : List Tk) (a : Int) : (fnVc (tab [kV', kC'] []) Try.f11 [.sl 0 l.length, .i .i64 a] [clkArr l] (plainIs (.i .i64 (getL l a)))) = (l.length = l.length ∧
  (mkL l.length (agF l) (ctF l)).length ≤ 1099511627776 ∧
    ((!validL (mkL l.length (agF l) (ctF l))) = true → 0 = getL l a) ∧
      ((!validL (mkL l.length (agF l) (ctF l))) = false →
        l.length = l.length ∧
          (mkL l.length (agF l) (ctF l)).length ≤ 1099511627776 ∧ cntL (mkL l.length (agF l) (ctF l)) a = getL l a)) := by kernel_rfl
theorem v11 (l : List Tk) (a : Int) (hL : L40 l) : fnVc (tab [kV', kC'] []) Try.f11 [.sl 0 l.length, .i .i64 a] [clkArr l] (plainIs (.i .i64 (getL l a))) := by
  rw [v11_eq]
  have hLL := L40i hL
  simp only [mkL_self, true_and]
  refine ⟨hLL, fun h => ?_, fun h => ⟨hLL, ?_⟩⟩
  · have h : validL l = false := by simpa using h
    simp only [getL, h, cond_false]
  · have h : validL l = true := by simpa using h
    simp only [getL, h, cond_true]
theorem v15_eq (l : List Tk) (a : Int) : (fnVc (tab [kV, kC, kA] []) Try.f15 [.sl 0 l.length, .i .i64 a] [clkArr l] (resIs (.sl 0 (advanceL l a).length) 27 (advanceL l a).length (clkCols (advanceL l a)))) = (l.length = l.length ∧
  (mkL l.length (agF l) (ctF l)).length ≤ 1099511627776 ∧
    ((!validL (mkL l.length (agF l) (ctF l))) = false → l.length = l.length) ∧
      ((!validL (mkL l.length (agF l) (ctF l))) = false → (mkL l.length (agF l) (ctF l)).length ≤ 1099511627776) ∧
        ((!validL (mkL l.length (agF l) (ctF l)) || cntL (mkL l.length (agF l) (ctF l)) a == 2147483647) = true →
            0 = (advanceL l a).length ∧
              ((advanceL l a).length = 0 ∧ (advanceL l a).length = 0 ∧ True) ∧ 0 = (advanceL l a).length) ∧
          ((!validL (mkL l.length (agF l) (ctF l)) || cntL (mkL l.length (agF l) (ctF l)) a == 2147483647) = false →
            l.length = l.length ∧
              (mkL l.length (agF l) (ctF l)).length ≤ 1099511627776 ∧
                (advL (mkL l.length (agF l) (ctF l)) a).length = (advanceL l a).length ∧
                  ((∀ (j : Nat),
                        j < (advanceL l a).length →
                          agF (advL (mkL l.length (agF l) (ctF l)) a) j = agF (advanceL l a) j) ∧
                      (∀ (j : Nat),
                          j < (advanceL l a).length →
                            ctF (advL (mkL l.length (agF l) (ctF l)) a) j = ctF (advanceL l a) j) ∧
                        True) ∧
                    (advL (mkL l.length (agF l) (ctF l)) a).length = (advanceL l a).length)) := by kernel_rfl
theorem v15 (l : List Tk) (a : Int) (hL : L40 l) : fnVc (tab [kV, kC, kA] []) Try.f15 [.sl 0 l.length, .i .i64 a] [clkArr l] (resIs (.sl 0 (advanceL l a).length) 27 (advanceL l a).length (clkCols (advanceL l a))) := by
  rw [v15_eq]
  have hLL := L40i hL
  simp only [mkL_self, true_and, implies_true, and_true]
  refine ⟨hLL, fun _ => hLL, fun h => ?_, fun h => ⟨hLL, ?_⟩⟩
  · have e : advanceL l a = [] := by
      unfold advanceL
      cases h1 : validL l
      · rfl
      · rw [h1] at h
        have h : (cntL l a == 2147483647) = true := by simpa using h
        rw [h]; rfl
    simp [e]
  · have e : advanceL l a = advL l a := by
      unfold advanceL
      rw [Bool.or_eq_false_iff] at h
      have h1 : validL l = true := by simpa using h.1
      rw [h1, h.2]; rfl
    simp [e]
theorem v17_eq (a b : List Tk) : (fnVc (tab [kV, kJ] []) Try.f17 [.sl 0 a.length, .sl 1 b.length] [clkArr a, clkArr b] (resIs (.sl 0 (jnL a b).length) 27 (jnL a b).length (clkCols (jnL a b)))) = (a.length = a.length ∧
  (mkL a.length (agF a) (ctF a)).length ≤ 1099511627776 ∧
    ((!validL (mkL a.length (agF a) (ctF a))) = false → b.length = b.length) ∧
      ((!validL (mkL a.length (agF a) (ctF a))) = false → (mkL b.length (agF b) (ctF b)).length ≤ 1099511627776) ∧
        ((!validL (mkL a.length (agF a) (ctF a)) || !validL (mkL b.length (agF b) (ctF b))) = true →
            0 = (jnL a b).length ∧ ((jnL a b).length = 0 ∧ (jnL a b).length = 0 ∧ True) ∧ 0 = (jnL a b).length) ∧
          ((!validL (mkL a.length (agF a) (ctF a)) || !validL (mkL b.length (agF b) (ctF b))) = false →
            a.length = a.length ∧
              b.length = b.length ∧
                ((mkL a.length (agF a) (ctF a)).length ≤ 1099511627776 ∧
                    (mkL b.length (agF b) (ctF b)).length ≤ 1099511627776) ∧
                  (joinL (mkL a.length (agF a) (ctF a)) (mkL b.length (agF b) (ctF b))).length = (jnL a b).length ∧
                    ((∀ (j : Nat),
                          j < (jnL a b).length →
                            agF (joinL (mkL a.length (agF a) (ctF a)) (mkL b.length (agF b) (ctF b))) j =
                              agF (jnL a b) j) ∧
                        (∀ (j : Nat),
                            j < (jnL a b).length →
                              ctF (joinL (mkL a.length (agF a) (ctF a)) (mkL b.length (agF b) (ctF b))) j =
                                ctF (jnL a b) j) ∧
                          True) ∧
                      (joinL (mkL a.length (agF a) (ctF a)) (mkL b.length (agF b) (ctF b))).length = (jnL a b).length)) := by kernel_rfl
theorem v17 (a b : List Tk) (hA : L40 a) (hB : L40 b) : fnVc (tab [kV, kJ] []) Try.f17 [.sl 0 a.length, .sl 1 b.length] [clkArr a, clkArr b] (resIs (.sl 0 (jnL a b).length) 27 (jnL a b).length (clkCols (jnL a b))) := by
  rw [v17_eq]
  have hLA := L40i hA
  have hLB := L40i hB
  simp only [mkL_self, true_and, implies_true, and_true]
  refine ⟨hLA, fun _ => hLB, fun h => ?_, fun h => ⟨⟨hLA, hLB⟩, ?_⟩⟩
  · have e : jnL a b = [] := by
      unfold jnL
      cases h1 : validL a
      · rfl
      · rw [h1] at h
        have h : validL b = false := by simpa using h
        rw [h]; rfl
    simp [e]
  · have e : jnL a b = joinL a b := by
      unfold jnL
      rw [Bool.or_eq_false_iff] at h
      have h1 : validL a = true := by simpa using h.1
      have h2 : validL b = true := by simpa using h.2
      rw [h1, h2]; rfl
    simp [e]
theorem v21_eq (a b : List Tk) : (fnVc (tab [kV, kB] []) Try.f21 [.sl 0 a.length, .sl 1 b.length] [clkArr a, clkArr b] (plainIs (.b (lessL a b)))) = (a.length = a.length ∧
  (mkL a.length (agF a) (ctF a)).length ≤ 1099511627776 ∧
    (validL (mkL a.length (agF a) (ctF a)) = true → b.length = b.length) ∧
      (validL (mkL a.length (agF a) (ctF a)) = true → (mkL b.length (agF b) (ctF b)).length ≤ 1099511627776) ∧
        ((validL (mkL a.length (agF a) (ctF a)) && validL (mkL b.length (agF b) (ctF b))) = true →
            a.length = a.length) ∧
          ((validL (mkL a.length (agF a) (ctF a)) && validL (mkL b.length (agF b) (ctF b))) = true →
              b.length = b.length) ∧
            ((validL (mkL a.length (agF a) (ctF a)) && validL (mkL b.length (agF b) (ctF b))) = true →
                (mkL a.length (agF a) (ctF a)).length ≤ 1099511627776 ∧
                  (mkL b.length (agF b) (ctF b)).length ≤ 1099511627776) ∧
              (validL (mkL a.length (agF a) (ctF a)) && validL (mkL b.length (agF b) (ctF b)) &&
                  belL (mkL a.length (agF a) (ctF a)) (mkL b.length (agF b) (ctF b))) =
                lessL a b) := by kernel_rfl
theorem v21 (a b : List Tk) (hA : L40 a) (hB : L40 b) : fnVc (tab [kV, kB] []) Try.f21 [.sl 0 a.length, .sl 1 b.length] [clkArr a, clkArr b] (plainIs (.b (lessL a b))) := by
  rw [v21_eq]
  have hLA := L40i hA
  have hLB := L40i hB
  simp only [mkL_self, true_and, implies_true, and_true]
  refine ⟨hLA, fun _ => hLB, fun _ => ⟨hLA, hLB⟩, ?_⟩
  unfold lessL
  cases validL a <;> cases validL b <;> simp
theorem v23_eq (a b : List Tk) : (fnVc (tab [kV, kB] []) Try.f23 [.sl 0 a.length, .sl 1 b.length] [clkArr a, clkArr b] (plainIs (.b (concL a b)))) = (a.length = a.length ∧
  (mkL a.length (agF a) (ctF a)).length ≤ 1099511627776 ∧
    (validL (mkL a.length (agF a) (ctF a)) = true → b.length = b.length) ∧
      (validL (mkL a.length (agF a) (ctF a)) = true → (mkL b.length (agF b) (ctF b)).length ≤ 1099511627776) ∧
        ((validL (mkL a.length (agF a) (ctF a)) && validL (mkL b.length (agF b) (ctF b))) = true →
            a.length = a.length) ∧
          ((validL (mkL a.length (agF a) (ctF a)) && validL (mkL b.length (agF b) (ctF b))) = true →
              b.length = b.length) ∧
            ((validL (mkL a.length (agF a) (ctF a)) && validL (mkL b.length (agF b) (ctF b))) = true →
                (mkL a.length (agF a) (ctF a)).length ≤ 1099511627776 ∧
                  (mkL b.length (agF b) (ctF b)).length ≤ 1099511627776) ∧
              ((validL (mkL a.length (agF a) (ctF a)) && validL (mkL b.length (agF b) (ctF b)) &&
                      !belL (mkL a.length (agF a) (ctF a)) (mkL b.length (agF b) (ctF b))) =
                    true →
                  b.length = b.length) ∧
                ((validL (mkL a.length (agF a) (ctF a)) && validL (mkL b.length (agF b) (ctF b)) &&
                        !belL (mkL a.length (agF a) (ctF a)) (mkL b.length (agF b) (ctF b))) =
                      true →
                    a.length = a.length) ∧
                  ((validL (mkL a.length (agF a) (ctF a)) && validL (mkL b.length (agF b) (ctF b)) &&
                          !belL (mkL a.length (agF a) (ctF a)) (mkL b.length (agF b) (ctF b))) =
                        true →
                      (mkL b.length (agF b) (ctF b)).length ≤ 1099511627776 ∧
                        (mkL a.length (agF a) (ctF a)).length ≤ 1099511627776) ∧
                    (validL (mkL a.length (agF a) (ctF a)) && validL (mkL b.length (agF b) (ctF b)) &&
                          !belL (mkL a.length (agF a) (ctF a)) (mkL b.length (agF b) (ctF b)) &&
                        !belL (mkL b.length (agF b) (ctF b)) (mkL a.length (agF a) (ctF a))) =
                      concL a b) := by kernel_rfl
theorem v23 (a b : List Tk) (hA : L40 a) (hB : L40 b) : fnVc (tab [kV, kB] []) Try.f23 [.sl 0 a.length, .sl 1 b.length] [clkArr a, clkArr b] (plainIs (.b (concL a b))) := by
  rw [v23_eq]
  have hLA := L40i hA
  have hLB := L40i hB
  simp only [mkL_self, true_and, implies_true, and_true]
  refine ⟨hLA, fun _ => hLB, fun _ => ⟨hLA, hLB⟩, fun _ => ⟨hLB, hLA⟩, ?_⟩
  unfold concL
  cases validL a <;> cases validL b <;> simp
theorem v19_eq (a b : List Tk) : (fnVc (tab [kV] [(0, .of (lMet a b)), (2, lBel2 a b 6)]) Try.f19 [.sl 0 a.length, .sl 1 b.length] [clkArr a, clkArr b] (resIs (.sl 0 (meetL a b).length) 27 (meetL a b).length (clkCols (meetL a b)))) = (a.length = a.length ∧
  (mkL a.length (agF a) (ctF a)).length ≤ 1099511627776 ∧
    ((!validL (mkL a.length (agF a) (ctF a))) = false → b.length = b.length) ∧
      ((!validL (mkL a.length (agF a) (ctF a))) = false → (mkL b.length (agF b) (ctF b)).length ≤ 1099511627776) ∧
        ((!validL (mkL a.length (agF a) (ctF a)) || !validL (mkL b.length (agF b) (ctF b))) = true →
            0 = (meetL a b).length ∧
              ((meetL a b).length = 0 ∧ (meetL a b).length = 0 ∧ True) ∧ 0 = (meetL a b).length) ∧
          ((!validL (mkL a.length (agF a) (ctF a)) || !validL (mkL b.length (agF b) (ctF b))) = false →
            ∃ (x : PUnit),
              (∃ (x : Nat),
                  (x ≤ a.length ∧ belJ a b x ≤ b.length ∧ (metO a b x).length ≤ x) ∧
                    (0 = (metO a b x).length ∧ 0 = (↑(belJ a b x) : Int) ∧ 0 = (↑x : Int) ∧ True) ∧
                      (0 = (metO a b x).length ∧ (metO a b x).length = 0 ∧ (metO a b x).length = 0 ∧ True) ∧ True) ∧
                ∀ (x_1 : Nat),
                  x_1 ≤ a.length ∧ belJ a b x_1 ≤ b.length ∧ (metO a b x_1).length ≤ x_1 →
                    (decide ((↑x_1 : Int) < (↑a.length : Int)) = true →
                        (0 ≤ (↑x_1 : Int) ∧ (↑x_1 : Int) < (↑a.length : Int)) ∧
                          x_1 < a.length ∧
                            ∃ (x_2 : Nat),
                              (∃ (x : Nat),
                                  (x ≤ b.length ∧ skipJ b (agF a x_2) x = belJ a b (x_2 + 1)) ∧
                                    ((↑(belJ a b x_1) : Int) = (↑x : Int) ∧ True) ∧ True) ∧
                                ∀ (x_3 : Nat),
                                  x_3 ≤ b.length ∧ skipJ b (agF a x_2) x_3 = belJ a b (x_2 + 1) →
                                    (decide ((↑x_3 : Int) < (↑b.length : Int)) = true →
                                        0 ≤ (↑x_3 : Int) ∧ (↑x_3 : Int) < (↑b.length : Int)) ∧
                                      (decide ((↑x_3 : Int) < (↑b.length : Int)) = true → x_3 < b.length) ∧
                                        ((decide ((↑x_3 : Int) < (↑b.length : Int)) && decide (agF b x_3 < agF a x_1)) =
                                              true →
                                            ∃ (x : Nat),
                                              (x ≤ b.length ∧ skipJ b (agF a x_2) x = belJ a b (x_2 + 1)) ∧
                                                ((lBel2 a b 6).ann x_2).mu x < ((lBel2 a b 6).ann x_2).mu x_3 ∧
                                                  (a.length = a.length ∧
                                                      b.length = b.length ∧
                                                        0 = 0 ∧
                                                          (metO a b x_1).length = (metO a b x_1).length ∧
                                                            IntKind.i64.wrap ((↑x_3 : Int) + 1) = (↑x : Int) ∧
                                                              True ∧
                                                                a.length = a.length ∧
                                                                  validL (mkL a.length (agF a) (ctF a)) =
                                                                      validL (mkL a.length (agF a) (ctF a)) ∧
                                                                    (!validL (mkL a.length (agF a) (ctF a))) =
                                                                        !validL (mkL a.length (agF a) (ctF a)) ∧
                                                                      (!validL (mkL a.length (agF a) (ctF a))) =
                                                                          !validL (mkL a.length (agF a) (ctF a)) ∧
                                                                        false = false ∧
                                                                          a.length = a.length ∧
                                                                            (↑a.length : Int) = (↑a.length : Int) ∧
                                                                              (↑x_1 : Int) = (↑x_1 : Int) ∧
                                                                                true = true ∧
                                                                                  x_1 = x_1 ∧
                                                                                    (agF a x_1 = agF a x_1 ∧
                                                                                        ctF a x_1 = ctF a x_1) ∧
                                                                                      True) ∧
                                                    (a.length = a.length ∧
                                                        (∀ (j : Nat), j < a.length → agF a j = agF a j) ∧
                                                          (∀ (j : Nat), j < a.length → ctF a j = ctF a j) ∧ True) ∧
                                                      (b.length = b.length ∧
                                                          (∀ (j : Nat), j < b.length → agF b j = agF b j) ∧
                                                            (∀ (j : Nat), j < b.length → ctF b j = ctF b j) ∧ True) ∧
                                                        (0 = 0 ∧ True ∧ True ∧ True) ∧
                                                          ((metO a b x_1).length = (metO a b x_1).length ∧
                                                              (∀ (j : Nat),
                                                                  j < (metO a b x_1).length →
                                                                    agF (metO a b x_1) j = agF (metO a b x_1) j) ∧
                                                                (∀ (j : Nat),
                                                                    j < (metO a b x_1).length →
                                                                      ctF (metO a b x_1) j = ctF (metO a b x_1) j) ∧
                                                                  True) ∧
                                                            (agF a x_1 = agF a x_1 ∧ ctF a x_1 = ctF a x_1) ∧ True) ∧
                                          ((decide ((↑x_3 : Int) < (↑b.length : Int)) &&
                                                decide (agF b x_3 < agF a x_1)) =
                                              false →
                                            (decide ((↑x_3 : Int) < (↑b.length : Int)) = true →
                                                0 ≤ (↑x_3 : Int) ∧ (↑x_3 : Int) < (↑b.length : Int)) ∧
                                              (decide ((↑x_3 : Int) < (↑b.length : Int)) = true → x_3 < b.length) ∧
                                                ((decide ((↑x_3 : Int) < (↑b.length : Int)) && agF b x_3 == agF a x_1) =
                                                      true →
                                                    (0 ≤ (↑x_3 : Int) ∧ (↑x_3 : Int) < (↑b.length : Int)) ∧
                                                      x_3 < b.length ∧
                                                        (metO a b x_1).length = (metO a b x_1).length ∧
                                                          1 = 1 ∧
                                                            0 < 1 ∧
                                                              ((metO a b x_1).length + 1) * 16 ≤ 140737488355328 ∧
                                                                (metO a b x_1).length + 1 ≤ 9223372036854775807 ∧
                                                                  ∃ (x_4 : Nat),
                                                                    (x_4 ≤ a.length ∧
                                                                        belJ a b x_4 ≤ b.length ∧
                                                                          (metO a b x_4).length ≤ x_4) ∧
                                                                      ((PLoop.of (lMet a b)).ann x).mu x_4 <
                                                                          ((PLoop.of (lMet a b)).ann x).mu x_1 ∧
                                                                        (a.length = a.length ∧
                                                                            b.length = b.length ∧
                                                                              0 = 0 ∧
                                                                                (metO a b x_1).length + 1 =
                                                                                    (metO a b x_4).length ∧
                                                                                  (↑x_3 : Int) =
                                                                                      (↑(belJ a b x_4) : Int) ∧
                                                                                    a.length = a.length ∧
                                                                                      validL
                                                                                            (mkL a.length (agF a)
                                                                                              (ctF a)) =
                                                                                          validL
                                                                                            (mkL a.length (agF a)
                                                                                              (ctF a)) ∧
                                                                                        (!validL
                                                                                                (mkL a.length (agF a)
                                                                                                  (ctF a))) =
                                                                                            !validL
                                                                                                (mkL a.length (agF a)
                                                                                                  (ctF a)) ∧
                                                                                          (!validL
                                                                                                  (mkL a.length (agF a)
                                                                                                    (ctF a))) =
                                                                                              !validL
                                                                                                  (mkL a.length (agF a)
                                                                                                    (ctF a)) ∧
                                                                                            false = false ∧
                                                                                              a.length = a.length ∧
                                                                                                (↑a.length : Int) =
                                                                                                    (↑a.length : Int) ∧
                                                                                                  IntKind.i64.wrap
                                                                                                        ((↑x_1 : Int) +
                                                                                                          1) =
                                                                                                      (↑x_4 : Int) ∧
                                                                                                    True) ∧
                                                                          (a.length = a.length ∧
                                                                              (∀ (j : Nat),
                                                                                  j < a.length → agF a j = agF a j) ∧
                                                                                (∀ (j : Nat),
                                                                                    j < a.length → ctF a j = ctF a j) ∧
                                                                                  True) ∧
                                                                            (b.length = b.length ∧
                                                                                (∀ (j : Nat),
                                                                                    j < b.length → agF b j = agF b j) ∧
                                                                                  (∀ (j : Nat),
                                                                                      j < b.length →
                                                                                        ctF b j = ctF b j) ∧
                                                                                    True) ∧
                                                                              (0 = 0 ∧ True ∧ True ∧ True) ∧
                                                                                ((metO a b x_1).length + 1 =
                                                                                      (metO a b x_4).length ∧
                                                                                    (∀ (j : Nat),
                                                                                        j < (metO a b x_4).length →
                                                                                          (bif
                                                                                                j.blt
                                                                                                  (metO a b
                                                                                                      x_1).length then
                                                                                              agF (metO a b x_1) j
                                                                                            else
                                                                                              pickI [agF a x_1]
                                                                                                (j -
                                                                                                  (metO a b
                                                                                                      x_1).length)) =
                                                                                            agF (metO a b x_4) j) ∧
                                                                                      (∀ (j : Nat),
                                                                                          j < (metO a b x_4).length →
                                                                                            (bif
                                                                                                  j.blt
                                                                                                    (metO a b
                                                                                                        x_1).length then
                                                                                                ctF (metO a b x_1) j
                                                                                              else
                                                                                                pickI
                                                                                                  [if
                                                                                                        ctF b x_3 <
                                                                                                          ctF a x_1 then
                                                                                                      ctF b x_3
                                                                                                    else ctF a x_1]
                                                                                                  (j -
                                                                                                    (metO a b
                                                                                                        x_1).length)) =
                                                                                              ctF (metO a b x_4) j) ∧
                                                                                        True) ∧
                                                                                  True) ∧
                                                  ((decide ((↑x_3 : Int) < (↑b.length : Int)) &&
                                                        agF b x_3 == agF a x_1) =
                                                      false →
                                                    ∃ (x_4 : Nat),
                                                      (x_4 ≤ a.length ∧
                                                          belJ a b x_4 ≤ b.length ∧ (metO a b x_4).length ≤ x_4) ∧
                                                        ((PLoop.of (lMet a b)).ann x).mu x_4 <
                                                            ((PLoop.of (lMet a b)).ann x).mu x_1 ∧
                                                          (a.length = a.length ∧
                                                              b.length = b.length ∧
                                                                0 = 0 ∧
                                                                  (metO a b x_1).length = (metO a b x_4).length ∧
                                                                    (↑x_3 : Int) = (↑(belJ a b x_4) : Int) ∧
                                                                      a.length = a.length ∧
                                                                        validL (mkL a.length (agF a) (ctF a)) =
                                                                            validL (mkL a.length (agF a) (ctF a)) ∧
                                                                          (!validL (mkL a.length (agF a) (ctF a))) =
                                                                              !validL (mkL a.length (agF a) (ctF a)) ∧
                                                                            (!validL (mkL a.length (agF a) (ctF a))) =
                                                                                !validL (mkL a.length (agF a) (ctF a)) ∧
                                                                              false = false ∧
                                                                                a.length = a.length ∧
                                                                                  (↑a.length : Int) =
                                                                                      (↑a.length : Int) ∧
                                                                                    IntKind.i64.wrap
                                                                                          ((↑x_1 : Int) + 1) =
                                                                                        (↑x_4 : Int) ∧
                                                                                      True) ∧
                                                            (a.length = a.length ∧
                                                                (∀ (j : Nat), j < a.length → agF a j = agF a j) ∧
                                                                  (∀ (j : Nat), j < a.length → ctF a j = ctF a j) ∧
                                                                    True) ∧
                                                              (b.length = b.length ∧
                                                                  (∀ (j : Nat), j < b.length → agF b j = agF b j) ∧
                                                                    (∀ (j : Nat), j < b.length → ctF b j = ctF b j) ∧
                                                                      True) ∧
                                                                (0 = 0 ∧ True ∧ True ∧ True) ∧
                                                                  ((metO a b x_1).length = (metO a b x_4).length ∧
                                                                      (∀ (j : Nat),
                                                                          j < (metO a b x_4).length →
                                                                            agF (metO a b x_1) j =
                                                                              agF (metO a b x_4) j) ∧
                                                                        (∀ (j : Nat),
                                                                            j < (metO a b x_4).length →
                                                                              ctF (metO a b x_1) j =
                                                                                ctF (metO a b x_4) j) ∧
                                                                          True) ∧
                                                                    True))) ∧
                      (decide ((↑x_1 : Int) < (↑a.length : Int)) = false →
                        (metO a b x_1).length = (meetL a b).length ∧
                          ((∀ (j : Nat), j < (meetL a b).length → agF (metO a b x_1) j = agF (meetL a b) j) ∧
                              (∀ (j : Nat), j < (meetL a b).length → ctF (metO a b x_1) j = ctF (meetL a b) j) ∧ True) ∧
                            (metO a b x_1).length = (meetL a b).length))) := by kernel_rfl
theorem v19 (a b : List Tk) (hA : L40 a) (hB : L40 b) : fnVc (tab [kV] [(0, .of (lMet a b)), (2, lBel2 a b 6)]) Try.f19 [.sl 0 a.length, .sl 1 b.length] [clkArr a, clkArr b] (resIs (.sl 0 (meetL a b).length) 27 (meetL a b).length (clkCols (meetL a b))) := by
  rw [v19_eq]
  have hLA := L40i hA
  have hLB := L40i hB
  simp only [mkL_self]
  refine ⟨trivial, hLA, fun _ => trivial, fun _ => hLB, fun h => ?_, fun h => ?_⟩
  · have e : meetL a b = [] := by
      unfold meetL
      cases h1 : validL a
      · rfl
      · rw [h1] at h
        have h : validL b = false := by simpa using h
        rw [h]; rfl
    simp [e]
  · have e : meetL a b = metO a b a.length := by
      unfold meetL
      rw [Bool.or_eq_false_iff] at h
      have h1 : validL a = true := by simpa using h.1
      have h2 : validL b = true := by simpa using h.2
      rw [h1, h2]; rfl
    refine ⟨(), ⟨0, ⟨Nat.zero_le _, Nat.zero_le _, Nat.zero_le _⟩, ⟨rfl, rfl, rfl, trivial⟩, ⟨rfl, rfl, rfl, trivial⟩, trivial⟩, fun x hx => ⟨fun hlt => ?_, fun hlt => ?_⟩⟩
    · have hlt : x < a.length := by simpa using hlt
      have hw : IntKind.i64.wrap ((x : Int) + 1) = ((x + 1 : Nat) : Int) := wrS hlt hLA
      refine ⟨⟨by omega, by omega⟩, hlt, x, ⟨belJ a b x, ⟨hx.2.1, rfl⟩, ⟨rfl, trivial⟩, trivial⟩, fun j hj => ⟨fun h => ?_, fun h => ?_, fun h => ?_, fun h => ?_⟩⟩
      · have : j < b.length := by simpa using h
        exact ⟨by omega, by omega⟩
      · simpa using h
      · have hjb : j < b.length := by simp at h; omega
        refine ⟨j + 1, ⟨by omega, (skip_step h).symm.trans hj.2⟩, by simp only [lBel2]; omega, ?_⟩
        have hw : IntKind.i64.wrap ((j : Int) + 1) = ((j + 1 : Nat) : Int) := wrS hjb hLB
        simp [hw]
      · have hst : j = belJ a b (x + 1) := (skip_stop h).symm.trans hj.2
        have hjb := hj.1
        have hol := hx.2.2
        refine ⟨fun h => ?_, fun h => by simpa using h, fun h1 => ?_, fun h1 => ?_⟩
        · have : j < b.length := by simpa using h
          exact ⟨by omega, by omega⟩
        · have hin : j < b.length := by
            have h1 := h1
            rw [Bool.and_eq_true] at h1
            simpa using h1.1
          have e1 : metO a b (x + 1) = metO a b x ++ [⟨agF a x, min2 (ctF a x) (ctF b j)⟩] := by
            simp only [metO]
            rw [← hst, h1]; rfl
          have a1 := apA (metO a b x) ⟨agF a x, min2 (ctF a x) (ctF b j)⟩
          have a2 := apC (metO a b x) ⟨agF a x, min2 (ctF a x) (ctF b j)⟩
          rw [← e1] at a1 a2
          have e3 : (metO a b (x + 1)).length = (metO a b x).length + 1 := by rw [e1]; simp
          refine ⟨⟨by omega, by omega⟩, hin, trivial, trivial, by omega, by omega, by omega, x + 1, ⟨by omega, by rw [← hst]; exact hjb, by omega⟩, mu_of (by simp only [lMet]; omega), ?_⟩
          rw [e3] at a1 a2
          rw [← hst]
          simp only [hw, e3, true_and, and_true, implies_true]
          exact ⟨a1, a2⟩
        · have e1 : metO a b (x + 1) = metO a b x := by
            simp only [metO]
            rw [← hst, h1]; rfl
          refine ⟨x + 1, ⟨by omega, by rw [← hst]; exact hjb, by rw [e1]; omega⟩, mu_of (by simp only [lMet]; omega), ?_⟩
          rw [← hst, e1]
          simp [hw]
    · have hlt : ¬ x < a.length := by simpa using hlt
      obtain rfl : x = a.length := by omega
      rw [e]
      exact ⟨rfl, ⟨fun _ _ => rfl, fun _ _ => rfl, trivial⟩, rfl⟩
theorem fo10 : fnOk Try.prog 10 := ⟨Try.f10, Try.func10, by kernel_rfl, by kernel_rfl⟩
theorem fo11 : fnOk Try.prog 11 := ⟨Try.f11, Try.func11, by kernel_rfl, by kernel_rfl⟩
theorem fo15 : fnOk Try.prog 15 := ⟨Try.f15, Try.func15, by kernel_rfl, by kernel_rfl⟩
theorem fo17 : fnOk Try.prog 17 := ⟨Try.f17, Try.func17, by kernel_rfl, by kernel_rfl⟩
theorem fo19 : fnOk Try.prog 19 := ⟨Try.f19, Try.func19, by kernel_rfl, by kernel_rfl⟩
theorem fo21 : fnOk Try.prog 21 := ⟨Try.f21, Try.func21, by kernel_rfl, by kernel_rfl⟩
theorem fo23 : fnOk Try.prog 23 := ⟨Try.f23, Try.func23, by kernel_rfl, by kernel_rfl⟩

theorem c10 : CallOk Try.prog [] 10 (fC1i (fun l _ => L40 l) fun l a => .i .i64 (getL l a)) := okC1i Try.func10 fo10 (fun _ _ => rfl) (fun l a => []) (mOne c12 (mOne c28 mNil)) (fun l a h => v10 l a h)
theorem c11 : CallOk Try.prog [] 11 (fC1i (fun l _ => L40 l) fun l a => .i .i64 (getL l a)) := okC1i Try.func11 fo11 (fun _ _ => rfl) (fun l a => []) (mOne c13 (mOne c29 mNil)) (fun l a h => v11 l a h)
theorem c15 : CallOk Try.prog [] 15 (rC1i (fun l _ => L40 l) advanceL) := okR1i Try.func15 fo15 (fun l a => []) (mOne c12 (mOne c28 (mOne c30 mNil))) (fun l a h => v15 l a h)
theorem c17 : CallOk Try.prog [] 17 (rC2 (fun a b => L40 a ∧ L40 b) jnL) := okR2 Try.func17 fo17 (fun a b => []) (mOne c12 (mOne c32 mNil)) (fun a b h => v17 a b h.1 h.2)
theorem c19 : CallOk Try.prog [] 19 (rC2 (fun a b => L40 a ∧ L40 b) meetL) := okR2 Try.func19 fo19 (fun a b => [(0, .of (lMet a b)), (2, lBel2 a b 6)]) (mOne c12 mNil) (fun a b h => v19 a b h.1 h.2)
theorem c21 : CallOk Try.prog [] 21 (fC2 (fun a b => L40 a ∧ L40 b) fun a b => .b (lessL a b)) := okC2 Try.func21 fo21 (fun _ _ => ltB_b _ _) (fun a b => []) (mOne c12 (mOne c33 mNil)) (fun a b h => v21 a b h.1 h.2)
theorem c23 : CallOk Try.prog [] 23 (fC2 (fun a b => L40 a ∧ L40 b) fun a b => .b (concL a b)) := okC2 Try.func23 fo23 (fun _ _ => ltB_b _ _) (fun a b => []) (mOne c12 (mOne c33 mNil)) (fun a b h => v23 a b h.1 h.2)
end Go.Proofs.Ythdmdlipifpbhaa
