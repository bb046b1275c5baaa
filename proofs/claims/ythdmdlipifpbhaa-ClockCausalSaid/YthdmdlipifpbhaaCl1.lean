/-
  A part of the proof (Cl1).
-/
import Derived.Test.YthdmdlipifpbhaaClSpec
namespace Go.Proofs.Ythdmdlipifpbhaa
open Go Go.Proofs.Ythdmdlipifpbhaa.Sx
set_option maxRecDepth 100000
set_option linter.unusedSimpArgs false
set_option linter.unusedVariables false

theorem mu_of {Y : LAnn} {x x' : Y.X} (h : Y.mu x' < Y.mu x) : ((PLoop.of Y).ann ()).mu x' < ((PLoop.of Y).ann ()).mu x := h
theorem okT_cond {l : List Tk} {x : Nat} (hx : x < l.length) (hL : L40 l) : (decide (ctF l x < 1) || decide (ctF l x > 2147483647) || decide ((x : Int) > 0) && decide (agF l (IntKind.i64.wrap ((x : Int) - 1)).toNat ≥ agF l x)) = !okT l x := by
  have hw : IntKind.i64.wrap ((x : Int) - 1) = (x : Int) - 1 := w64_eq (by omega) (by unfold L40 at hL; omega)
  have ht : ((x : Int) - 1).toNat = x - 1 := by omega
  rw [hw, ht]
  unfold okT
  cases decide (ctF l x < 1) <;> cases decide (ctF l x > 2147483647) <;> cases (decide ((x : Int) > 0) && decide (agF l (x - 1) ≥ agF l x)) <;> rfl
theorem pos_wrap {n x : Nat} (hx : x < n) (hn : n ≤ 1099511627776) (h : decide ((x : Int) > 0) = true) : (0 ≤ IntKind.i64.wrap ((x : Int) - 1) ∧ IntKind.i64.wrap ((x : Int) - 1) < (n : Int)) ∧ (IntKind.i64.wrap ((x : Int) - 1)).toNat < n := by
  have h : (x : Int) > 0 := by simpa using h
  rw [w64_eq (by omega) (by omega)]
  omega
theorem valid_no {l : List Tk} {x : Nat} (hx : x < l.length) (h : (!okT l x) = true) : false = validL l := (allN_no hx (by simpa using h)).symm
theorem valid_yes {l : List Tk} {x : Nat} (hx : ¬ x < l.length) (h : ∀ i, i < x → okT l i = true) : true = validL l := (allN_iff.2 fun i hi => h i (by omega)).symm
theorem lt_step {x : Nat} {p : Nat → Bool} {b : Bool} (h : ∀ i, i < x → p i = b) (hx : p x = b) : ∀ i, i < x + 1 → p i = b := fun i hi => by
  by_cases e : i = x
  · subst e; exact hx
  · exact h i (by omega)
theorem cnt_at {l : List Tk} {a : Int} : ∀ {x : Nat}, x < l.length → (∀ i, i < x → (agF l i == a) = false) → (agF l x == a) = true → ctF l x = cntL l a := by
  induction l with
  | nil => intro x hx; simp at hx
  | cons t r ih =>
    intro x hx h1 h2
    cases x with
    | zero =>
      simp only [agF, nthT, Nat.beq, cond_true] at h2
      simp only [cntL, h2, cond_true]
      rfl
    | succ x =>
      have h0 := h1 0 (by omega)
      simp only [agF, nthT, Nat.beq, cond_true] at h0
      simp only [cntL, h0, cond_false]
      exact ih (by simpa using hx) (fun i hi => h1 (i + 1) (by omega)) h2
theorem cnt_none {l : List Tk} {a : Int} : (∀ i, i < l.length → (agF l i == a) = false) → cntL l a = 0 := by
  induction l with
  | nil => intro _; rfl
  | cons t r ih =>
    intro h1
    have h0 := h1 0 (by simp)
    simp only [agF, nthT, Nat.beq, cond_true] at h0
    simp only [cntL, h0, cond_false]
    exact ih fun i hi => h1 (i + 1) (by simp; omega)
theorem v12_eq (l : List Tk) : (fnVc (tab [] [(0, .of (lVal l 7))]) Try.f12 [.sl 0 l.length] [clkArr l] (plainIs (.b (validL l)))) = (∃ (x : PUnit),
  (∃ (x : Nat), (x ≤ l.length ∧ ∀ (i' : Nat), i' < x → okT l i' = true) ∧ (0 = (↑x : Int) ∧ True) ∧ True) ∧
    ∀ (x_1 : Nat),
      (x_1 ≤ l.length ∧ ∀ (i' : Nat), i' < x_1 → okT l i' = true) →
        (decide ((↑x_1 : Int) < (↑l.length : Int)) = true →
            (0 ≤ (↑x_1 : Int) ∧ (↑x_1 : Int) < (↑l.length : Int)) ∧
              x_1 < l.length ∧
                (decide ((↑x_1 : Int) > 0) = true →
                    (decide (ctF l x_1 < 1) || decide (ctF l x_1 > 2147483647)) = false →
                      0 ≤ IntKind.i64.wrap ((↑x_1 : Int) - 1) ∧
                        IntKind.i64.wrap ((↑x_1 : Int) - 1) < (↑l.length : Int)) ∧
                  (decide ((↑x_1 : Int) > 0) = true →
                      (decide (ctF l x_1 < 1) || decide (ctF l x_1 > 2147483647)) = false →
                        (IntKind.i64.wrap ((↑x_1 : Int) - 1)).toNat < l.length) ∧
                    ((decide (ctF l x_1 < 1) || decide (ctF l x_1 > 2147483647) ||
                            decide ((↑x_1 : Int) > 0) &&
                              decide (agF l (IntKind.i64.wrap ((↑x_1 : Int) - 1)).toNat ≥ agF l x_1)) =
                          true →
                        false = validL l) ∧
                      ((decide (ctF l x_1 < 1) || decide (ctF l x_1 > 2147483647) ||
                            decide ((↑x_1 : Int) > 0) &&
                              decide (agF l (IntKind.i64.wrap ((↑x_1 : Int) - 1)).toNat ≥ agF l x_1)) =
                          false →
                        ∃ (x_2 : Nat),
                          (x_2 ≤ l.length ∧ ∀ (i' : Nat), i' < x_2 → okT l i' = true) ∧
                            ((PLoop.of (lVal l 7)).ann x).mu x_2 < ((PLoop.of (lVal l 7)).ann x).mu x_1 ∧
                              (l.length = l.length ∧
                                  l.length = l.length ∧
                                    (↑l.length : Int) = (↑l.length : Int) ∧
                                      IntKind.i64.wrap ((↑x_1 : Int) + 1) = (↑x_2 : Int) ∧ True) ∧
                                (l.length = l.length ∧
                                    (∀ (j : Nat), j < l.length → agF l j = agF l j) ∧
                                      (∀ (j : Nat), j < l.length → ctF l j = ctF l j) ∧ True) ∧
                                  True)) ∧
          (decide ((↑x_1 : Int) < (↑l.length : Int)) = false → true = validL l)) := by kernel_rfl
theorem v12 (l : List Tk) (hL : L40 l) : fnVc (tab [] [(0, .of (lVal l 7))]) Try.f12 [.sl 0 l.length] [clkArr l] (plainIs (.b (validL l))) := by
  rw [v12_eq]
  refine ⟨(), ⟨0, ⟨by omega, fun i hi => by omega⟩, ⟨rfl, trivial⟩, trivial⟩, fun x hx => ⟨fun hlt => ?_, fun hlt => ?_⟩⟩
  · have hlt : x < l.length := by simpa using hlt
    rw [okT_cond hlt hL]
    refine ⟨⟨by omega, by omega⟩, hlt, fun h _ => (pos_wrap hlt hL h).1, fun h _ => (pos_wrap hlt hL h).2, fun h => valid_no hlt h, fun h => ⟨x + 1, ⟨by omega, lt_step hx.2 (by simpa using h)⟩, mu_of (by simp only [lVal]; omega), ?_⟩⟩
    have hw : IntKind.i64.wrap ((x : Int) + 1) = ((x + 1 : Nat) : Int) := wrS hlt hL
    simp [hw]
  · have hlt : ¬ x < l.length := by simpa using hlt
    exact valid_yes hlt hx.2
theorem v13_eq (l : List Tk) : (fnVc (tab [] [(0, .of (lVal l 3))]) Try.f13 [.sl 0 l.length] [clkArr l] (plainIs (.b (validL l)))) = (∃ (x : PUnit),
  (∃ (x : Nat), (x ≤ l.length ∧ ∀ (i' : Nat), i' < x → okT l i' = true) ∧ (0 = (↑x : Int) ∧ True) ∧ True) ∧
    ∀ (x_1 : Nat),
      (x_1 ≤ l.length ∧ ∀ (i' : Nat), i' < x_1 → okT l i' = true) →
        (decide ((↑x_1 : Int) < (↑l.length : Int)) = true →
            (0 ≤ (↑x_1 : Int) ∧ (↑x_1 : Int) < (↑l.length : Int)) ∧
              x_1 < l.length ∧
                (decide (ctF l x_1 < 1) = false → 0 ≤ (↑x_1 : Int) ∧ (↑x_1 : Int) < (↑l.length : Int)) ∧
                  (decide (ctF l x_1 < 1) = false → x_1 < l.length) ∧
                    (decide ((↑x_1 : Int) > 0) = true →
                        (decide (ctF l x_1 < 1) || decide (ctF l x_1 > 2147483647)) = false →
                          0 ≤ IntKind.i64.wrap ((↑x_1 : Int) - 1) ∧
                            IntKind.i64.wrap ((↑x_1 : Int) - 1) < (↑l.length : Int)) ∧
                      (decide ((↑x_1 : Int) > 0) = true →
                          (decide (ctF l x_1 < 1) || decide (ctF l x_1 > 2147483647)) = false →
                            (IntKind.i64.wrap ((↑x_1 : Int) - 1)).toNat < l.length) ∧
                        (decide ((↑x_1 : Int) > 0) = true →
                            (decide (ctF l x_1 < 1) || decide (ctF l x_1 > 2147483647)) = false →
                              0 ≤ (↑x_1 : Int) ∧ (↑x_1 : Int) < (↑l.length : Int)) ∧
                          (decide ((↑x_1 : Int) > 0) = true →
                              (decide (ctF l x_1 < 1) || decide (ctF l x_1 > 2147483647)) = false → x_1 < l.length) ∧
                            ((decide (ctF l x_1 < 1) || decide (ctF l x_1 > 2147483647) ||
                                    decide ((↑x_1 : Int) > 0) &&
                                      decide (agF l (IntKind.i64.wrap ((↑x_1 : Int) - 1)).toNat ≥ agF l x_1)) =
                                  true →
                                false = validL l) ∧
                              ((decide (ctF l x_1 < 1) || decide (ctF l x_1 > 2147483647) ||
                                    decide ((↑x_1 : Int) > 0) &&
                                      decide (agF l (IntKind.i64.wrap ((↑x_1 : Int) - 1)).toNat ≥ agF l x_1)) =
                                  false →
                                ∃ (x_2 : Nat),
                                  (x_2 ≤ l.length ∧ ∀ (i' : Nat), i' < x_2 → okT l i' = true) ∧
                                    ((PLoop.of (lVal l 3)).ann x).mu x_2 < ((PLoop.of (lVal l 3)).ann x).mu x_1 ∧
                                      (l.length = l.length ∧
                                          IntKind.i64.wrap ((↑x_1 : Int) + 1) = (↑x_2 : Int) ∧ True) ∧
                                        (l.length = l.length ∧
                                            (∀ (j : Nat), j < l.length → agF l j = agF l j) ∧
                                              (∀ (j : Nat), j < l.length → ctF l j = ctF l j) ∧ True) ∧
                                          True)) ∧
          (decide ((↑x_1 : Int) < (↑l.length : Int)) = false → true = validL l)) := by kernel_rfl
theorem v13 (l : List Tk) (hL : L40 l) : fnVc (tab [] [(0, .of (lVal l 3))]) Try.f13 [.sl 0 l.length] [clkArr l] (plainIs (.b (validL l))) := by
  rw [v13_eq]
  refine ⟨(), ⟨0, ⟨by omega, fun i hi => by omega⟩, ⟨rfl, trivial⟩, trivial⟩, fun x hx => ⟨fun hlt => ?_, fun hlt => ?_⟩⟩
  · have hlt : x < l.length := by simpa using hlt
    rw [okT_cond hlt hL]
    refine ⟨⟨by omega, by omega⟩, hlt, fun _ => ⟨by omega, by omega⟩, fun _ => hlt, fun h _ => (pos_wrap hlt hL h).1, fun h _ => (pos_wrap hlt hL h).2, fun _ _ => ⟨by omega, by omega⟩, fun _ _ => hlt, fun h => valid_no hlt h, fun h => ⟨x + 1, ⟨by omega, lt_step hx.2 (by simpa using h)⟩, mu_of (by simp only [lVal]; omega), ?_⟩⟩
    have hw : IntKind.i64.wrap ((x : Int) + 1) = ((x + 1 : Nat) : Int) := wrS hlt hL
    simp [hw]
  · have hlt : ¬ x < l.length := by simpa using hlt
    exact valid_yes hlt hx.2
theorem v28_eq (l : List Tk) (a : Int) : (fnVc (tab [] [(0, .of (lCnt l a 9))]) Try.f28 [.sl 0 l.length, .i .i64 a] [clkArr l] (plainIs (.i .i64 (cntL l a)))) = (∃ (x : PUnit),
  (∃ (x : Nat), (x ≤ l.length ∧ ∀ (i' : Nat), i' < x → (agF l i' == a) = false) ∧ (0 = (↑x : Int) ∧ True) ∧ True) ∧
    ∀ (x_1 : Nat),
      (x_1 ≤ l.length ∧ ∀ (i' : Nat), i' < x_1 → (agF l i' == a) = false) →
        (decide ((↑x_1 : Int) < (↑l.length : Int)) = true →
            (0 ≤ (↑x_1 : Int) ∧ (↑x_1 : Int) < (↑l.length : Int)) ∧
              x_1 < l.length ∧
                ((agF l x_1 == a) = true → ctF l x_1 = cntL l a) ∧
                  ((agF l x_1 == a) = false →
                    ∃ (x_2 : Nat),
                      (x_2 ≤ l.length ∧ ∀ (i' : Nat), i' < x_2 → (agF l i' == a) = false) ∧
                        ((PLoop.of (lCnt l a 9)).ann x).mu x_2 < ((PLoop.of (lCnt l a 9)).ann x).mu x_1 ∧
                          (l.length = l.length ∧
                              a = a ∧
                                l.length = l.length ∧
                                  (↑l.length : Int) = (↑l.length : Int) ∧
                                    IntKind.i64.wrap ((↑x_1 : Int) + 1) = (↑x_2 : Int) ∧ True) ∧
                            (l.length = l.length ∧
                                (∀ (j : Nat), j < l.length → agF l j = agF l j) ∧
                                  (∀ (j : Nat), j < l.length → ctF l j = ctF l j) ∧ True) ∧
                              True)) ∧
          (decide ((↑x_1 : Int) < (↑l.length : Int)) = false → 0 = cntL l a)) := by kernel_rfl
theorem v28 (l : List Tk) (a : Int) (hL : L40 l) : fnVc (tab [] [(0, .of (lCnt l a 9))]) Try.f28 [.sl 0 l.length, .i .i64 a] [clkArr l] (plainIs (.i .i64 (cntL l a))) := by
  rw [v28_eq]
  refine ⟨(), ⟨0, ⟨by omega, fun i hi => by omega⟩, ⟨rfl, trivial⟩, trivial⟩, fun x hx => ⟨fun hlt => ?_, fun hlt => ?_⟩⟩
  · have hlt : x < l.length := by simpa using hlt
    refine ⟨⟨by omega, by omega⟩, hlt, fun h => cnt_at hlt hx.2 h, fun h => ⟨x + 1, ⟨by omega, lt_step (p := fun i => agF l i == a) hx.2 h⟩, mu_of (by simp only [lCnt]; omega), ?_⟩⟩
    have hw : IntKind.i64.wrap ((x : Int) + 1) = ((x + 1 : Nat) : Int) := wrS hlt hL
    simp [hw]
  · have hlt : ¬ x < l.length := by simpa using hlt
    exact (cnt_none fun i hi => hx.2 i (by omega)).symm
theorem v29_eq (l : List Tk) (a : Int) : (fnVc (tab [] [(0, .of (lCnt l a 5))]) Try.f29 [.sl 0 l.length, .i .i64 a] [clkArr l] (plainIs (.i .i64 (cntL l a)))) = (∃ (x : PUnit),
  (∃ (x : Nat), (x ≤ l.length ∧ ∀ (i' : Nat), i' < x → (agF l i' == a) = false) ∧ (0 = (↑x : Int) ∧ True) ∧ True) ∧
    ∀ (x_1 : Nat),
      (x_1 ≤ l.length ∧ ∀ (i' : Nat), i' < x_1 → (agF l i' == a) = false) →
        (decide ((↑x_1 : Int) < (↑l.length : Int)) = true →
            (0 ≤ (↑x_1 : Int) ∧ (↑x_1 : Int) < (↑l.length : Int)) ∧
              x_1 < l.length ∧
                ((agF l x_1 == a) = true →
                    (0 ≤ (↑x_1 : Int) ∧ (↑x_1 : Int) < (↑l.length : Int)) ∧ x_1 < l.length ∧ ctF l x_1 = cntL l a) ∧
                  ((agF l x_1 == a) = false →
                    ∃ (x_2 : Nat),
                      (x_2 ≤ l.length ∧ ∀ (i' : Nat), i' < x_2 → (agF l i' == a) = false) ∧
                        ((PLoop.of (lCnt l a 5)).ann x).mu x_2 < ((PLoop.of (lCnt l a 5)).ann x).mu x_1 ∧
                          (l.length = l.length ∧ a = a ∧ IntKind.i64.wrap ((↑x_1 : Int) + 1) = (↑x_2 : Int) ∧ True) ∧
                            (l.length = l.length ∧
                                (∀ (j : Nat), j < l.length → agF l j = agF l j) ∧
                                  (∀ (j : Nat), j < l.length → ctF l j = ctF l j) ∧ True) ∧
                              True)) ∧
          (decide ((↑x_1 : Int) < (↑l.length : Int)) = false → 0 = cntL l a)) := by kernel_rfl
theorem v29 (l : List Tk) (a : Int) (hL : L40 l) : fnVc (tab [] [(0, .of (lCnt l a 5))]) Try.f29 [.sl 0 l.length, .i .i64 a] [clkArr l] (plainIs (.i .i64 (cntL l a))) := by
  rw [v29_eq]
  refine ⟨(), ⟨0, ⟨by omega, fun i hi => by omega⟩, ⟨rfl, trivial⟩, trivial⟩, fun x hx => ⟨fun hlt => ?_, fun hlt => ?_⟩⟩
  · have hlt : x < l.length := by simpa using hlt
    refine ⟨⟨by omega, by omega⟩, hlt, fun _ => ⟨⟨by omega, by omega⟩, hlt, cnt_at hlt hx.2 ‹_›⟩, fun h => ⟨x + 1, ⟨by omega, lt_step (p := fun i => agF l i == a) hx.2 h⟩, mu_of (by simp only [lCnt]; omega), ?_⟩⟩
    have hw : IntKind.i64.wrap ((x : Int) + 1) = ((x + 1 : Nat) : Int) := wrS hlt hL
    simp [hw]
  · have hlt : ¬ x < l.length := by simpa using hlt
    exact (cnt_none fun i hi => hx.2 i (by omega)).symm
theorem v14_eq (a b : List Tk) : (fnVc (tab [] [(0, .of (lSame a b))]) Try.f14 [.sl 0 a.length, .sl 1 b.length] [clkArr a, clkArr b] (plainIs (.b (sameL a b)))) = ((((↑a.length : Int) != (↑b.length : Int)) = true → false = sameL a b) ∧
  (((↑a.length : Int) != (↑b.length : Int)) = false →
    ∃ (x : PUnit),
      (∃ (x : Nat), (x ≤ a.length ∧ ∀ (i' : Nat), i' < x → sameAt a b i' = true) ∧ (0 = (↑x : Int) ∧ True) ∧ True) ∧
        ∀ (x_1 : Nat),
          (x_1 ≤ a.length ∧ ∀ (i' : Nat), i' < x_1 → sameAt a b i' = true) →
            (decide ((↑x_1 : Int) < (↑a.length : Int)) = true →
                (0 ≤ (↑x_1 : Int) ∧ (↑x_1 : Int) < (↑a.length : Int)) ∧
                  x_1 < a.length ∧
                    (0 ≤ (↑x_1 : Int) ∧ (↑x_1 : Int) < (↑b.length : Int)) ∧
                      x_1 < b.length ∧
                        ((!(agF a x_1 == agF b x_1 && ctF a x_1 == ctF b x_1)) = true → false = sameL a b) ∧
                          ((!(agF a x_1 == agF b x_1 && ctF a x_1 == ctF b x_1)) = false →
                            ∃ (x_2 : Nat),
                              (x_2 ≤ a.length ∧ ∀ (i' : Nat), i' < x_2 → sameAt a b i' = true) ∧
                                ((PLoop.of (lSame a b)).ann x).mu x_2 < ((PLoop.of (lSame a b)).ann x).mu x_1 ∧
                                  (a.length = a.length ∧
                                      b.length = b.length ∧
                                        IntKind.i64.wrap ((↑x_1 : Int) + 1) = (↑x_2 : Int) ∧
                                          a.length = a.length ∧
                                            (↑a.length : Int) = (↑a.length : Int) ∧
                                              b.length = b.length ∧
                                                (↑b.length : Int) = (↑b.length : Int) ∧ false = false ∧ True) ∧
                                    (a.length = a.length ∧
                                        (∀ (j : Nat), j < a.length → agF a j = agF a j) ∧
                                          (∀ (j : Nat), j < a.length → ctF a j = ctF a j) ∧ True) ∧
                                      (b.length = b.length ∧
                                          (∀ (j : Nat), j < b.length → agF b j = agF b j) ∧
                                            (∀ (j : Nat), j < b.length → ctF b j = ctF b j) ∧ True) ∧
                                        True)) ∧
              (decide ((↑x_1 : Int) < (↑a.length : Int)) = false → true = sameL a b))) := by kernel_rfl
theorem v14 (a b : List Tk) (hL : L40 a) : fnVc (tab [] [(0, .of (lSame a b))]) Try.f14 [.sl 0 a.length, .sl 1 b.length] [clkArr a, clkArr b] (plainIs (.b (sameL a b))) := by
  rw [v14_eq]
  refine ⟨fun h => ?_, fun h => ⟨(), ⟨0, ⟨by omega, fun i hi => by omega⟩, ⟨rfl, trivial⟩, trivial⟩, fun x hx => ⟨fun hlt => ?_, fun hlt => ?_⟩⟩⟩
  · have h : ¬ a.length = b.length := by
      intro e
      rw [e] at h
      simp at h
    simp [sameL, h]
  · have h : a.length = b.length := by
      have := h
      simp at this
      omega
    have hlt : x < a.length := by simpa using hlt
    refine ⟨⟨by omega, by omega⟩, hlt, ⟨by omega, by omega⟩, by omega, fun hh => ?_, fun hh => ⟨x + 1, ⟨by omega, lt_step hx.2 (by simpa [sameAt] using hh)⟩, mu_of (by simp only [lSame]; omega), ?_⟩⟩
    · have : sameAt a b x = false := by
        unfold sameAt
        cases e : (agF a x == agF b x && ctF a x == ctF b x)
        · rfl
        · rw [e] at hh; cases hh
      simp [sameL, allN_no hlt this]
    · have hw : IntKind.i64.wrap ((x : Int) + 1) = ((x + 1 : Nat) : Int) := wrS hlt hL
      simp [hw]
  · have h : a.length = b.length := by
      have := h
      simp at this
      omega
    have hlt : ¬ x < a.length := by simpa using hlt
    have : allN a.length (sameAt a b) = true := allN_iff.2 fun i hi => hx.2 i (by omega)
    simp [sameL, h, this]
    rw [← h]; exact this
theorem fo12 : fnOk Try.prog 12 := ⟨Try.f12, Try.func12, by kernel_rfl, by kernel_rfl⟩
theorem fo13 : fnOk Try.prog 13 := ⟨Try.f13, Try.func13, by kernel_rfl, by kernel_rfl⟩
theorem fo28 : fnOk Try.prog 28 := ⟨Try.f28, Try.func28, by kernel_rfl, by kernel_rfl⟩
theorem fo29 : fnOk Try.prog 29 := ⟨Try.f29, Try.func29, by kernel_rfl, by kernel_rfl⟩
theorem fo14 : fnOk Try.prog 14 := ⟨Try.f14, Try.func14, by kernel_rfl, by kernel_rfl⟩

theorem c12 : CallOk Try.prog [] 12 (fC1 L40 fun l => .b (validL l)) := okC1 Try.func12 fo12 (fun _ => ltB_b _ _) (fun l => [(0, .of (lVal l 7))]) mNil (fun l h => v12 l h)
theorem c13 : CallOk Try.prog [] 13 (fC1 L40 fun l => .b (validL l)) := okC1 Try.func13 fo13 (fun _ => ltB_b _ _) (fun l => [(0, .of (lVal l 3))]) mNil (fun l h => v13 l h)
theorem c28 : CallOk Try.prog [] 28 (fC1i (fun l _ => L40 l) fun l a => .i .i64 (cntL l a)) := okC1i Try.func28 fo28 (fun _ _ => rfl) (fun l a => [(0, .of (lCnt l a 9))]) mNil (fun l a h => v28 l a h)
theorem c29 : CallOk Try.prog [] 29 (fC1i (fun l _ => L40 l) fun l a => .i .i64 (cntL l a)) := okC1i Try.func29 fo29 (fun _ _ => rfl) (fun l a => [(0, .of (lCnt l a 5))]) mNil (fun l a h => v29 l a h)
theorem c14 : CallOk Try.prog [] 14 (fC2 (fun a _ => L40 a) fun a b => .b (sameL a b)) := okC2 Try.func14 fo14 (fun _ _ => ltB_b _ _) (fun a b => [(0, .of (lSame a b))]) mNil (fun a b h => v14 a b h)
end Go.Proofs.Ythdmdlipifpbhaa
