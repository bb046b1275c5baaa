/-
  A part of the proof (Cl2).
-/
import Derived.Test.YthdmdlipifpbhaaCl1
namespace Go.Proofs.Ythdmdlipifpbhaa
open Go Go.Proofs.Ythdmdlipifpbhaa.Sx
set_option maxRecDepth 100000
set_option linter.unusedSimpArgs false
set_option linter.unusedVariables false

theorem apA (o : List Tk) (t : Tk) : ∀ j, j < (o ++ [t]).length → (bif Nat.blt j o.length then agF o j else pickI [t.ag] (j - o.length)) = agF (o ++ [t]) j := fun j hj => by
  by_cases h : j < o.length
  · have hb : Nat.blt j o.length = true := by rw [Nat.blt_eq]; exact h
    rw [hb, cond_true]
    simp only [agF, nthT_lt h]
  · have hb : Nat.blt j o.length = false := Bool.eq_false_iff.2 fun e => h (by rw [Nat.blt_eq] at e; exact e)
    have : j = o.length := by simp at hj; omega
    subst this
    rw [hb, cond_false]
    simp only [agF, nthT_at, pickI]
theorem apC (o : List Tk) (t : Tk) : ∀ j, j < (o ++ [t]).length → (bif Nat.blt j o.length then ctF o j else pickI [t.ct] (j - o.length)) = ctF (o ++ [t]) j := fun j hj => by
  by_cases h : j < o.length
  · have hb : Nat.blt j o.length = true := by rw [Nat.blt_eq]; exact h
    rw [hb, cond_true]
    simp only [ctF, nthT_lt h]
  · have hb : Nat.blt j o.length = false := Bool.eq_false_iff.2 fun e => h (by rw [Nat.blt_eq] at e; exact e)
    have : j = o.length := by simp at hj; omega
    subst this
    rw [hb, cond_false]
    simp only [ctF, nthT_at, pickI]
theorem apA2 (o : List Tk) (t u : Tk) : ∀ j, j < ((o ++ [t]) ++ [u]).length → (bif Nat.blt j (o.length + 1) then bif Nat.blt j o.length then agF o j else pickI [t.ag] (j - o.length) else pickI [u.ag] (j - (o.length + 1))) = agF ((o ++ [t]) ++ [u]) j := fun j hj => by
  rw [← apA (o ++ [t]) u j hj]
  have e : (o ++ [t]).length = o.length + 1 := by simp
  rw [e]
  by_cases h : j < o.length + 1
  · have hb : Nat.blt j (o.length + 1) = true := by rw [Nat.blt_eq]; exact h
    rw [hb, cond_true, cond_true]
    exact apA o t j (by rw [e]; exact h)
  · have hb : Nat.blt j (o.length + 1) = false := Bool.eq_false_iff.2 fun e => h (by rw [Nat.blt_eq] at e; exact e)
    rw [hb, cond_false, cond_false]
theorem apC2 (o : List Tk) (t u : Tk) : ∀ j, j < ((o ++ [t]) ++ [u]).length → (bif Nat.blt j (o.length + 1) then bif Nat.blt j o.length then ctF o j else pickI [t.ct] (j - o.length) else pickI [u.ct] (j - (o.length + 1))) = ctF ((o ++ [t]) ++ [u]) j := fun j hj => by
  rw [← apC (o ++ [t]) u j hj]
  have e : (o ++ [t]).length = o.length + 1 := by simp
  rw [e]
  by_cases h : j < o.length + 1
  · have hb : Nat.blt j (o.length + 1) = true := by rw [Nat.blt_eq]; exact h
    rw [hb, cond_true, cond_true]
    exact apC o t j (by rw [e]; exact h)
  · have hb : Nat.blt j (o.length + 1) = false := Bool.eq_false_iff.2 fun e => h (by rw [Nat.blt_eq] at e; exact e)
    rw [hb, cond_false, cond_false]
theorem advO_len (l : List Tk) (a : Int) : ∀ i, (advO l a i).length ≤ i + 1 ∧ (advD l a i = false → (advO l a i).length ≤ i) := by
  intro i
  induction i with
  | zero => simp [advO]
  | succ i ih =>
    simp only [advO, advD]
    cases h : advD l a i
    · have h2 := ih.2 h
      cases h' : decide (agF l i ≥ a)
      · simp; omega
      · cases (agF l i == a) <;> simp <;> omega
    · simp; omega
theorem skip_step {b : List Tk} {x : Int} {j : Nat} (h : (decide ((j : Int) < (b.length : Int)) && decide (agF b j < x)) = true) : skipJ b x j = skipJ b x (j + 1) := by
  have hj : j < b.length := by simp at h; omega
  unfold skipJ
  rw [show b.length - j = (b.length - (j + 1)) + 1 by omega]
  simp only [skipF, h, cond_true]
theorem skip_stop {b : List Tk} {x : Int} {j : Nat} (h : (decide ((j : Int) < (b.length : Int)) && decide (agF b j < x)) = false) : skipJ b x j = j := by
  unfold skipJ
  cases b.length - j with
  | zero => rfl
  | succ n => simp only [skipF, h, cond_false]
theorem v30_eq (l : List Tk) (a : Int) : (fnVc (tab [] [(0, .of (lAdv l a))]) Try.f30 [.sl 0 l.length, .i .i64 a] [clkArr l] (resIs (.sl 0 (advL l a).length) 27 (advL l a).length (clkCols (advL l a)))) = (0 ≤ IntKind.i64.wrap ((↑l.length : Int) + 1) ∧
  (↑16 : Int) * IntKind.i64.wrap ((↑l.length : Int) + 1) ≤ 281474976710656 ∧
    IntKind.i64.wrap ((↑l.length : Int) + 1) ≤ 9223372036854775807 ∧
      ∃ (x : PUnit),
        (∃ (x : Nat),
            x ≤ l.length ∧
              (0 = (advO l a x).length ∧ false = advD l a x ∧ 0 = (↑x : Int) ∧ True) ∧
                (0 = (advO l a x).length ∧ (advO l a x).length = 0 ∧ (advO l a x).length = 0 ∧ True) ∧ True) ∧
          ∀ (x_1 : Nat),
            x_1 ≤ l.length →
              (decide ((↑x_1 : Int) < (↑l.length : Int)) = true →
                  (0 ≤ (↑x_1 : Int) ∧ (↑x_1 : Int) < (↑l.length : Int)) ∧
                    x_1 < l.length ∧
                      ((!advD l a x_1 && decide (agF l x_1 ≥ a)) = true →
                          ((agF l x_1 == a) = true →
                              (advO l a x_1).length = (advO l a x_1).length ∧
                                1 = 1 ∧
                                  0 < 1 ∧
                                    ((advO l a x_1).length + 1) * 16 ≤ 140737488355328 ∧
                                      (advO l a x_1).length + 1 ≤ 9223372036854775807 ∧
                                        ∃ (x_2 : Nat),
                                          x_2 ≤ l.length ∧
                                            ((PLoop.of (lAdv l a)).ann x).mu x_2 <
                                                ((PLoop.of (lAdv l a)).ann x).mu x_1 ∧
                                              (l.length = l.length ∧
                                                  a = a ∧
                                                    0 = 0 ∧
                                                      (advO l a x_1).length + 1 = (advO l a x_2).length ∧
                                                        true = advD l a x_2 ∧
                                                          l.length = l.length ∧
                                                            (↑l.length : Int) = (↑l.length : Int) ∧
                                                              IntKind.i64.wrap ((↑l.length : Int) + 1) =
                                                                  IntKind.i64.wrap ((↑l.length : Int) + 1) ∧
                                                                l.length = l.length ∧
                                                                  (↑l.length : Int) = (↑l.length : Int) ∧
                                                                    IntKind.i64.wrap ((↑x_1 : Int) + 1) = (↑x_2 : Int) ∧
                                                                      True) ∧
                                                (l.length = l.length ∧
                                                    (∀ (j : Nat), j < l.length → agF l j = agF l j) ∧
                                                      (∀ (j : Nat), j < l.length → ctF l j = ctF l j) ∧ True) ∧
                                                  (0 = 0 ∧ True ∧ True ∧ True) ∧
                                                    ((advO l a x_1).length + 1 = (advO l a x_2).length ∧
                                                        (∀ (j : Nat),
                                                            j < (advO l a x_2).length →
                                                              (bif j.blt (advO l a x_1).length then agF (advO l a x_1) j
                                                                else pickI [agF l x_1] (j - (advO l a x_1).length)) =
                                                                agF (advO l a x_2) j) ∧
                                                          (∀ (j : Nat),
                                                              j < (advO l a x_2).length →
                                                                (bif j.blt (advO l a x_1).length then
                                                                    ctF (advO l a x_1) j
                                                                  else
                                                                    pickI [IntKind.i64.wrap (ctF l x_1 + 1)]
                                                                      (j - (advO l a x_1).length)) =
                                                                  ctF (advO l a x_2) j) ∧
                                                            True) ∧
                                                      True) ∧
                            ((agF l x_1 == a) = false →
                              (advO l a x_1).length = (advO l a x_1).length ∧
                                1 = 1 ∧
                                  0 < 1 ∧
                                    ((advO l a x_1).length + 1) * 16 ≤ 140737488355328 ∧
                                      (advO l a x_1).length + 1 ≤ 9223372036854775807 ∧
                                        (advO l a x_1).length + 1 = (advO l a x_1).length + 1 ∧
                                          1 = 1 ∧
                                            0 < 1 ∧
                                              ((advO l a x_1).length + 1 + 1) * 16 ≤ 140737488355328 ∧
                                                (advO l a x_1).length + 1 + 1 ≤ 9223372036854775807 ∧
                                                  ∃ (x_2 : Nat),
                                                    x_2 ≤ l.length ∧
                                                      ((PLoop.of (lAdv l a)).ann x).mu x_2 <
                                                          ((PLoop.of (lAdv l a)).ann x).mu x_1 ∧
                                                        (l.length = l.length ∧
                                                            a = a ∧
                                                              0 = 0 ∧
                                                                (advO l a x_1).length + 1 + 1 = (advO l a x_2).length ∧
                                                                  true = advD l a x_2 ∧
                                                                    l.length = l.length ∧
                                                                      (↑l.length : Int) = (↑l.length : Int) ∧
                                                                        IntKind.i64.wrap ((↑l.length : Int) + 1) =
                                                                            IntKind.i64.wrap ((↑l.length : Int) + 1) ∧
                                                                          l.length = l.length ∧
                                                                            (↑l.length : Int) = (↑l.length : Int) ∧
                                                                              IntKind.i64.wrap ((↑x_1 : Int) + 1) =
                                                                                  (↑x_2 : Int) ∧
                                                                                True) ∧
                                                          (l.length = l.length ∧
                                                              (∀ (j : Nat), j < l.length → agF l j = agF l j) ∧
                                                                (∀ (j : Nat), j < l.length → ctF l j = ctF l j) ∧
                                                                  True) ∧
                                                            (0 = 0 ∧ True ∧ True ∧ True) ∧
                                                              ((advO l a x_1).length + 1 + 1 = (advO l a x_2).length ∧
                                                                  (∀ (j : Nat),
                                                                      j < (advO l a x_2).length →
                                                                        (bif j.blt ((advO l a x_1).length + 1) then
                                                                            bif j.blt (advO l a x_1).length then
                                                                              agF (advO l a x_1) j
                                                                            else pickI [a] (j - (advO l a x_1).length)
                                                                          else
                                                                            pickI [agF l x_1]
                                                                              (j - ((advO l a x_1).length + 1))) =
                                                                          agF (advO l a x_2) j) ∧
                                                                    (∀ (j : Nat),
                                                                        j < (advO l a x_2).length →
                                                                          (bif j.blt ((advO l a x_1).length + 1) then
                                                                              bif j.blt (advO l a x_1).length then
                                                                                ctF (advO l a x_1) j
                                                                              else pickI [1] (j - (advO l a x_1).length)
                                                                            else
                                                                              pickI [ctF l x_1]
                                                                                (j - ((advO l a x_1).length + 1))) =
                                                                            ctF (advO l a x_2) j) ∧
                                                                      True) ∧
                                                                True)) ∧
                        ((!advD l a x_1 && decide (agF l x_1 ≥ a)) = false →
                          (advO l a x_1).length = (advO l a x_1).length ∧
                            1 = 1 ∧
                              0 < 1 ∧
                                ((advO l a x_1).length + 1) * 16 ≤ 140737488355328 ∧
                                  (advO l a x_1).length + 1 ≤ 9223372036854775807 ∧
                                    ∃ (x_2 : Nat),
                                      x_2 ≤ l.length ∧
                                        ((PLoop.of (lAdv l a)).ann x).mu x_2 < ((PLoop.of (lAdv l a)).ann x).mu x_1 ∧
                                          (l.length = l.length ∧
                                              a = a ∧
                                                0 = 0 ∧
                                                  (advO l a x_1).length + 1 = (advO l a x_2).length ∧
                                                    advD l a x_1 = advD l a x_2 ∧
                                                      l.length = l.length ∧
                                                        (↑l.length : Int) = (↑l.length : Int) ∧
                                                          IntKind.i64.wrap ((↑l.length : Int) + 1) =
                                                              IntKind.i64.wrap ((↑l.length : Int) + 1) ∧
                                                            l.length = l.length ∧
                                                              (↑l.length : Int) = (↑l.length : Int) ∧
                                                                IntKind.i64.wrap ((↑x_1 : Int) + 1) = (↑x_2 : Int) ∧
                                                                  True) ∧
                                            (l.length = l.length ∧
                                                (∀ (j : Nat), j < l.length → agF l j = agF l j) ∧
                                                  (∀ (j : Nat), j < l.length → ctF l j = ctF l j) ∧ True) ∧
                                              (0 = 0 ∧ True ∧ True ∧ True) ∧
                                                ((advO l a x_1).length + 1 = (advO l a x_2).length ∧
                                                    (∀ (j : Nat),
                                                        j < (advO l a x_2).length →
                                                          (bif j.blt (advO l a x_1).length then agF (advO l a x_1) j
                                                            else pickI [agF l x_1] (j - (advO l a x_1).length)) =
                                                            agF (advO l a x_2) j) ∧
                                                      (∀ (j : Nat),
                                                          j < (advO l a x_2).length →
                                                            (bif j.blt (advO l a x_1).length then ctF (advO l a x_1) j
                                                              else pickI [ctF l x_1] (j - (advO l a x_1).length)) =
                                                              ctF (advO l a x_2) j) ∧
                                                        True) ∧
                                                  True)) ∧
                (decide ((↑x_1 : Int) < (↑l.length : Int)) = false →
                  ((!advD l a x_1) = true →
                      (advO l a x_1).length = (advO l a x_1).length ∧
                        1 = 1 ∧
                          0 < 1 ∧
                            ((advO l a x_1).length + 1) * 16 ≤ 140737488355328 ∧
                              (advO l a x_1).length + 1 ≤ 9223372036854775807 ∧
                                (advO l a x_1).length + 1 = (advL l a).length ∧
                                  ((∀ (j : Nat),
                                        j < (advL l a).length →
                                          (bif j.blt (advO l a x_1).length then agF (advO l a x_1) j
                                            else pickI [a] (j - (advO l a x_1).length)) =
                                            agF (advL l a) j) ∧
                                      (∀ (j : Nat),
                                          j < (advL l a).length →
                                            (bif j.blt (advO l a x_1).length then ctF (advO l a x_1) j
                                              else pickI [1] (j - (advO l a x_1).length)) =
                                              ctF (advL l a) j) ∧
                                        True) ∧
                                    (advO l a x_1).length + 1 = (advL l a).length) ∧
                    ((!advD l a x_1) = false →
                      (advO l a x_1).length = (advL l a).length ∧
                        ((∀ (j : Nat), j < (advL l a).length → agF (advO l a x_1) j = agF (advL l a) j) ∧
                            (∀ (j : Nat), j < (advL l a).length → ctF (advO l a x_1) j = ctF (advL l a) j) ∧ True) ∧
                          (advO l a x_1).length = (advL l a).length))) := by kernel_rfl
theorem v30 (l : List Tk) (a : Int) (hL : L40 l) : fnVc (tab [] [(0, .of (lAdv l a))]) Try.f30 [.sl 0 l.length, .i .i64 a] [clkArr l] (resIs (.sl 0 (advL l a).length) 27 (advL l a).length (clkCols (advL l a))) := by
  rw [v30_eq]
  have hw0 : IntKind.i64.wrap ((l.length : Int) + 1) = (l.length : Int) + 1 := w64_eq (by omega) (by unfold L40 at hL; omega)
  have hLL : l.length ≤ 1099511627776 := hL
  refine ⟨by rw [hw0]; omega, by rw [hw0]; omega, by rw [hw0]; omega, (), ⟨0, by omega, ⟨rfl, rfl, rfl, trivial⟩, ⟨rfl, rfl, rfl, trivial⟩, trivial⟩, fun x hx => ⟨fun hlt => ?_, fun hlt => ?_⟩⟩
  · have hlt : x < l.length := by simpa using hlt
    have hw : IntKind.i64.wrap ((x : Int) + 1) = ((x + 1 : Nat) : Int) := wrS hlt hL
    have hb := (advO_len l a x).1
    refine ⟨⟨by omega, by omega⟩, hlt, fun hc => ⟨fun he => ?_, fun he => ?_⟩, fun hc => ?_⟩
    · have e1 : advO l a (x + 1) = advO l a x ++ [⟨agF l x, IntKind.i64.wrap (ctF l x + 1)⟩] := by simp only [advO, hc, he, cond_true]; rfl
      have e2 : advD l a (x + 1) = true := by
        simp only [Bool.and_eq_true] at hc
        simp only [advD, hc.2, Bool.or_true]
      refine ⟨rfl, rfl, by omega, by omega, by omega, x + 1, by omega, mu_of (by simp only [lAdv]; omega), ?_⟩
      have a1 := apA (advO l a x) ⟨agF l x, IntKind.i64.wrap (ctF l x + 1)⟩
      have a2 := apC (advO l a x) ⟨agF l x, IntKind.i64.wrap (ctF l x + 1)⟩
      rw [← e1] at a1 a2
      have e3 : (advO l a (x + 1)).length = (advO l a x).length + 1 := by rw [e1]; simp
      simp only [hw, e2, e3, true_and, and_true, implies_true]
      rw [e3] at a1 a2
      exact ⟨a1, a2⟩
    · have e1 : advO l a (x + 1) = (advO l a x ++ [⟨a, 1⟩]) ++ [⟨agF l x, ctF l x⟩] := by simp only [advO, hc, he, cond_true, cond_false]
      have e2 : advD l a (x + 1) = true := by
        simp only [Bool.and_eq_true] at hc
        simp only [advD, hc.2, Bool.or_true]
      refine ⟨rfl, rfl, by omega, by omega, by omega, rfl, rfl, by omega, by omega, by omega, x + 1, by omega, mu_of (by simp only [lAdv]; omega), ?_⟩
      have a1 := apA2 (advO l a x) ⟨a, 1⟩ ⟨agF l x, ctF l x⟩
      have a2 := apC2 (advO l a x) ⟨a, 1⟩ ⟨agF l x, ctF l x⟩
      rw [← e1] at a1 a2
      have e3 : (advO l a (x + 1)).length = (advO l a x).length + 1 + 1 := by rw [e1]; simp
      simp only [hw, e2, e3, true_and, and_true, implies_true]
      rw [e3] at a1 a2
      exact ⟨a1, a2⟩
    · have e1 : advO l a (x + 1) = advO l a x ++ [⟨agF l x, ctF l x⟩] := by simp only [advO, hc, cond_false]
      have e2 : advD l a (x + 1) = advD l a x := by
        simp only [advD]
        cases h1 : advD l a x
        · rw [h1] at hc
          simpa using hc
        · rfl
      refine ⟨rfl, rfl, by omega, by omega, by omega, x + 1, by omega, mu_of (by simp only [lAdv]; omega), ?_⟩
      have a1 := apA (advO l a x) ⟨agF l x, ctF l x⟩
      have a2 := apC (advO l a x) ⟨agF l x, ctF l x⟩
      rw [← e1] at a1 a2
      have e3 : (advO l a (x + 1)).length = (advO l a x).length + 1 := by rw [e1]; simp
      simp only [hw, e2, e3, true_and, and_true, implies_true]
      rw [e3] at a1 a2
      exact ⟨a1, a2⟩
  · have hlt : ¬ x < l.length := by simpa using hlt
    obtain rfl : x = l.length := by omega
    have hb := (advO_len l a l.length).1
    refine ⟨fun hd => ?_, fun hd => ?_⟩
    · have hd : advD l a l.length = false := by simpa using hd
      have e1 : advL l a = advO l a l.length ++ [⟨a, 1⟩] := by simp only [advL, hd, cond_false]
      have e3 : (advL l a).length = (advO l a l.length).length + 1 := by rw [e1]; simp
      have a1 := apA (advO l a l.length) ⟨a, 1⟩
      have a2 := apC (advO l a l.length) ⟨a, 1⟩
      rw [← e1] at a1 a2
      refine ⟨rfl, rfl, by omega, by omega, by omega, e3.symm, ⟨a1, a2, trivial⟩, e3.symm⟩
    · have hd : advD l a l.length = true := by simpa using hd
      have e1 : advL l a = advO l a l.length := by simp only [advL, hd, cond_true]
      rw [e1]
      exact ⟨rfl, ⟨fun _ _ => rfl, fun _ _ => rfl, trivial⟩, rfl⟩
theorem v33_eq (a b : List Tk) : (fnVc (tab [] [(0, .of (lBel a b)), (2, lBel2 a b 5)]) Try.f33 [.sl 0 a.length, .sl 1 b.length] [clkArr a, clkArr b] (plainIs (.b (belL a b)))) = (∃ (x : PUnit),
  (∃ (x : Nat),
      (x ≤ a.length ∧ belJ a b x ≤ b.length ∧ ∀ (i' : Nat), i' < x → belB a b i' = true) ∧
        (0 = (↑(belJ a b x) : Int) ∧ 0 = (↑x : Int) ∧ True) ∧ True) ∧
    ∀ (x_1 : Nat),
      (x_1 ≤ a.length ∧ belJ a b x_1 ≤ b.length ∧ ∀ (i' : Nat), i' < x_1 → belB a b i' = true) →
        (decide ((↑x_1 : Int) < (↑a.length : Int)) = true →
            (0 ≤ (↑x_1 : Int) ∧ (↑x_1 : Int) < (↑a.length : Int)) ∧
              x_1 < a.length ∧
                ∃ (x_2 : Nat),
                  (∃ (x : Nat),
                      (x ≤ b.length ∧ skipJ b (agF a x_2) x = belJ a b (x_2 + 1)) ∧
                        ((↑(belJ a b x_1) : Int) = (↑x : Int) ∧ True) ∧ True) ∧
                    ∀ (x_3 : Nat),
                      x_3 ≤ b.length ∧ skipJ b (agF a x_2) x_3 = belJ a b (x_2 + 1) →
                        (decide ((↑x_3 : Int) < (↑b.length : Int)) = true →
                            0 ≤ (↑x_3 : Int) ∧ (↑x_3 : Int) < (↑b.length : Int)) ∧
                          (decide ((↑x_3 : Int) < (↑b.length : Int)) = true → x_3 < b.length) ∧
                            ((decide ((↑x_3 : Int) < (↑b.length : Int)) && decide (agF b x_3 < agF a x_1)) = true →
                                ∃ (x : Nat),
                                  (x ≤ b.length ∧ skipJ b (agF a x_2) x = belJ a b (x_2 + 1)) ∧
                                    ((lBel2 a b 5).ann x_2).mu x < ((lBel2 a b 5).ann x_2).mu x_3 ∧
                                      (a.length = a.length ∧
                                          b.length = b.length ∧
                                            IntKind.i64.wrap ((↑x_3 : Int) + 1) = (↑x : Int) ∧
                                              True ∧
                                                a.length = a.length ∧
                                                  (↑a.length : Int) = (↑a.length : Int) ∧
                                                    (↑x_1 : Int) = (↑x_1 : Int) ∧
                                                      true = true ∧
                                                        x_1 = x_1 ∧
                                                          (agF a x_1 = agF a x_1 ∧ ctF a x_1 = ctF a x_1) ∧ True) ∧
                                        (a.length = a.length ∧
                                            (∀ (j : Nat), j < a.length → agF a j = agF a j) ∧
                                              (∀ (j : Nat), j < a.length → ctF a j = ctF a j) ∧ True) ∧
                                          (b.length = b.length ∧
                                              (∀ (j : Nat), j < b.length → agF b j = agF b j) ∧
                                                (∀ (j : Nat), j < b.length → ctF b j = ctF b j) ∧ True) ∧
                                            (agF a x_1 = agF a x_1 ∧ ctF a x_1 = ctF a x_1) ∧ True) ∧
                              ((decide ((↑x_3 : Int) < (↑b.length : Int)) && decide (agF b x_3 < agF a x_1)) = false →
                                (((↑x_3 : Int) == (↑b.length : Int)) = false →
                                    0 ≤ (↑x_3 : Int) ∧ (↑x_3 : Int) < (↑b.length : Int)) ∧
                                  (((↑x_3 : Int) == (↑b.length : Int)) = false → x_3 < b.length) ∧
                                    (((↑x_3 : Int) == (↑b.length : Int) || agF b x_3 != agF a x_1) = true →
                                        false = belL a b) ∧
                                      (((↑x_3 : Int) == (↑b.length : Int) || agF b x_3 != agF a x_1) = false →
                                        (0 ≤ (↑x_3 : Int) ∧ (↑x_3 : Int) < (↑b.length : Int)) ∧
                                          x_3 < b.length ∧
                                            ((!(agF b x_3 == agF a x_1 && ctF b x_3 == ctF a x_1)) = true →
                                                0 ≤ (↑x_3 : Int) ∧ (↑x_3 : Int) < (↑b.length : Int)) ∧
                                              ((!(agF b x_3 == agF a x_1 && ctF b x_3 == ctF a x_1)) = true →
                                                  x_3 < b.length) ∧
                                                ((!(agF b x_3 == agF a x_1 && ctF b x_3 == ctF a x_1) &&
                                                        decide (ctF b x_3 < ctF a x_1)) =
                                                      true →
                                                    false = belL a b) ∧
                                                  ((!(agF b x_3 == agF a x_1 && ctF b x_3 == ctF a x_1) &&
                                                        decide (ctF b x_3 < ctF a x_1)) =
                                                      false →
                                                    ∃ (x_4 : Nat),
                                                      (x_4 ≤ a.length ∧
                                                          belJ a b x_4 ≤ b.length ∧
                                                            ∀ (i' : Nat), i' < x_4 → belB a b i' = true) ∧
                                                        ((PLoop.of (lBel a b)).ann x).mu x_4 <
                                                            ((PLoop.of (lBel a b)).ann x).mu x_1 ∧
                                                          (a.length = a.length ∧
                                                              b.length = b.length ∧
                                                                (↑x_3 : Int) = (↑(belJ a b x_4) : Int) ∧
                                                                  a.length = a.length ∧
                                                                    (↑a.length : Int) = (↑a.length : Int) ∧
                                                                      IntKind.i64.wrap ((↑x_1 : Int) + 1) =
                                                                          (↑x_4 : Int) ∧
                                                                        True) ∧
                                                            (a.length = a.length ∧
                                                                (∀ (j : Nat), j < a.length → agF a j = agF a j) ∧
                                                                  (∀ (j : Nat), j < a.length → ctF a j = ctF a j) ∧
                                                                    True) ∧
                                                              (b.length = b.length ∧
                                                                  (∀ (j : Nat), j < b.length → agF b j = agF b j) ∧
                                                                    (∀ (j : Nat), j < b.length → ctF b j = ctF b j) ∧
                                                                      True) ∧
                                                                True)))) ∧
          (decide ((↑x_1 : Int) < (↑a.length : Int)) = false → true = belL a b)) := by kernel_rfl
theorem v33 (a b : List Tk) (hA : L40 a) (hB : L40 b) : fnVc (tab [] [(0, .of (lBel a b)), (2, lBel2 a b 5)]) Try.f33 [.sl 0 a.length, .sl 1 b.length] [clkArr a, clkArr b] (plainIs (.b (belL a b))) := by
  rw [v33_eq]
  have hLA : a.length ≤ 1099511627776 := hA
  have hLB : b.length ≤ 1099511627776 := hB
  refine ⟨(), ⟨0, ⟨by omega, Nat.zero_le _, fun i hi => by omega⟩, ⟨rfl, rfl, trivial⟩, trivial⟩, fun x hx => ⟨fun hlt => ?_, fun hlt => ?_⟩⟩
  · have hlt : x < a.length := by simpa using hlt
    refine ⟨⟨by omega, by omega⟩, hlt, x, ⟨belJ a b x, ⟨hx.2.1, rfl⟩, ⟨rfl, trivial⟩, trivial⟩, fun j hj => ⟨fun h => ?_, fun h => ?_, fun h => ?_, fun h => ?_⟩⟩
    · have : j < b.length := by simpa using h
      exact ⟨by omega, by omega⟩
    · simpa using h
    · have hjb : j < b.length := by simp at h; omega
      refine ⟨j + 1, ⟨by omega, (skip_step h).symm.trans hj.2⟩, by simp only [lBel2]; omega, ?_⟩
      have hw : IntKind.i64.wrap ((j : Int) + 1) = ((j + 1 : Nat) : Int) := wrS hjb hLB
      simp [hw]
    · have hst : j = belJ a b (x + 1) := (skip_stop h).symm.trans hj.2
      have inb : ((j : Int) == (b.length : Int)) = false → j < b.length := fun h => by
        have : ¬ (j : Int) = (b.length : Int) := by simpa using h
        omega
      have no : belB a b x = false → false = belL a b := fun h => (allN_no hlt h).symm
      refine ⟨fun h => ⟨by omega, by have := inb h; omega⟩, inb, fun h => no ?_, fun h1 => ?_⟩
      · unfold belB
        rw [← hst, h]
        rfl
      · have hin : j < b.length := inb (by cases e : ((j : Int) == (b.length : Int)) <;> simp_all)
        refine ⟨⟨by omega, by omega⟩, hin, fun _ => ⟨by omega, by omega⟩, fun _ => hin, fun h2 => no ?_, fun h2 => ⟨x + 1, ⟨by omega, by rw [← hst]; exact hj.1, lt_step (p := belB a b) hx.2.2 ?_⟩, mu_of (by simp only [lBel]; omega), ?_⟩⟩
        · unfold belB
          rw [← hst, h1, h2]
          rfl
        · unfold belB
          rw [← hst, h1, h2]
          rfl
        · have hw : IntKind.i64.wrap ((x : Int) + 1) = ((x + 1 : Nat) : Int) := wrS hlt hLA
          rw [← hst]
          simp [hw]
  · have hlt : ¬ x < a.length := by simpa using hlt
    exact (allN_iff.2 fun i hi => hx.2.2 i (by omega)).symm
theorem fo30 : fnOk Try.prog 30 := ⟨Try.f30, Try.func30, by kernel_rfl, by kernel_rfl⟩
theorem fo33 : fnOk Try.prog 33 := ⟨Try.f33, Try.func33, by kernel_rfl, by kernel_rfl⟩

theorem c30 : CallOk Try.prog [] 30 (rC1i (fun l _ => L40 l) advL) := okR1i Try.func30 fo30 (fun l a => [(0, .of (lAdv l a))]) mNil (fun l a h => v30 l a h)
theorem c33 : CallOk Try.prog [] 33 (fC2 (fun a b => L40 a ∧ L40 b) fun a b => .b (belL a b)) := okC2 Try.func33 fo33 (fun _ _ => ltB_b _ _) (fun a b => [(0, .of (lBel a b)), (2, lBel2 a b 5)]) mNil (fun a b h => v33 a b h.1 h.2)
end Go.Proofs.Ythdmdlipifpbhaa
