/-
  A part of the proof (Cl3).
-/
import Derived.Test.YthdmdlipifpbhaaCl2
namespace Go.Proofs.Ythdmdlipifpbhaa
open Go Go.Proofs.Ythdmdlipifpbhaa.Sx
set_option maxRecDepth 100000
set_option linter.unusedSimpArgs false
set_option linter.unusedVariables false

theorem drop_cons {a : List Tk} {i : Nat} (h : i < a.length) : a.drop i = ⟨agF a i, ctF a i⟩ :: a.drop (i + 1) := by
  rw [List.drop_eq_getElem_cons h]
  congr 1
  simp only [agF, ctF, nthT_get a i h]
theorem nthT_right {o l : List Tk} {k : Nat} (h : o.length ≤ k) (h2 : k < (o ++ l).length) : nthT (o ++ l) k = nthT l (k - o.length) := by
  have h3 : k - o.length < l.length := by simp at h2; omega
  rw [nthT_get _ _ h2, nthT_get _ _ h3, List.getElem_append_right h]
theorem nthT_drop {a : List Tk} {i k : Nat} (h : i + k < a.length) : nthT (a.drop i) k = nthT a (i + k) := by
  rw [nthT_get _ _ (by simp; omega), nthT_get _ _ h]
  simp
theorem apS (F : Tk → Int) (o a : List Tk) (i : Nat) : ∀ k, k < (o ++ a.drop i).length → (bif Nat.blt k o.length then F (nthT o k) else F (nthT a (i + (k - o.length)))) = F (nthT (o ++ a.drop i) k) := fun k hk => by
  by_cases h : k < o.length
  · have hb : Nat.blt k o.length = true := by rw [Nat.blt_eq]; exact h
    rw [hb, cond_true, nthT_lt h]
  · have hb : Nat.blt k o.length = false := Bool.eq_false_iff.2 fun e => h (by rw [Nat.blt_eq] at e; exact e)
    rw [hb, cond_false, nthT_right (by omega) hk, nthT_drop (by simp at hk; omega)]
theorem apS2 (F : Tk → Int) (o a b : List Tk) (i j : Nat) : ∀ k, k < ((o ++ a.drop i) ++ b.drop j).length → (bif Nat.blt k (o.length + (a.length - i)) then bif Nat.blt k o.length then F (nthT o k) else F (nthT a (i + (k - o.length))) else F (nthT b (j + (k - (o.length + (a.length - i)))))) = F (nthT ((o ++ a.drop i) ++ b.drop j) k) := fun k hk => by
  have e : (o ++ a.drop i).length = o.length + (a.length - i) := by simp
  rw [← apS F (o ++ a.drop i) b j k hk, e]
  by_cases h : k < o.length + (a.length - i)
  · have hb : Nat.blt k (o.length + (a.length - i)) = true := by rw [Nat.blt_eq]; exact h
    rw [hb, cond_true, cond_true]
    exact apS F o a i k (by rw [e]; exact h)
  · have hb : Nat.blt k (o.length + (a.length - i)) = false := Bool.eq_false_iff.2 fun e => h (by rw [Nat.blt_eq] at e; exact e)
    rw [hb, cond_false, cond_false]
theorem joinF_end {f : Nat} {a b : List Tk} (h : a = [] ∨ b = []) : joinF f a b = a ++ b := by
  cases f with
  | zero => rfl
  | succ f =>
    rcases h with rfl | rfl
    · simp [joinF]
    · cases a <;> simp [joinF]
theorem join_step {a b : List Tk} {x : JSt} (hi : x.i < a.length) (hj : x.j < b.length) (hf : (a.length - x.i) + (b.length - x.j) ≤ x.f) :
    joinF x.f (a.drop x.i) (b.drop x.j) = bif agF a x.i == agF b x.j && ctF a x.i == ctF b x.j then ⟨agF a x.i, ctF a x.i⟩ :: joinF (x.f - 1) (a.drop (x.i + 1)) (b.drop (x.j + 1)) else bif decide (agF a x.i < agF b x.j) then ⟨agF a x.i, ctF a x.i⟩ :: joinF (x.f - 1) (a.drop (x.i + 1)) (b.drop x.j) else bif decide (agF a x.i > agF b x.j) then ⟨agF b x.j, ctF b x.j⟩ :: joinF (x.f - 1) (a.drop x.i) (b.drop (x.j + 1)) else ⟨agF a x.i, max2 (ctF a x.i) (ctF b x.j)⟩ :: joinF (x.f - 1) (a.drop (x.i + 1)) (b.drop (x.j + 1)) := by
  obtain ⟨i, j, f, o⟩ := x
  cases f with
  | zero => simp only at hi hj hf; omega
  | succ f =>
    have ea := drop_cons hi
    have eb := drop_cons hj
    simp only at ea eb ⊢
    rw [ea, eb]
    simp only [joinF, Nat.add_sub_cancel]
theorem v32_eq (a b : List Tk) : (fnVc (tab [] [(0, .of (lJoin a b))]) Try.f32 [.sl 0 a.length, .sl 1 b.length] [clkArr a, clkArr b] (resIs (.sl 0 (joinL a b).length) 27 (joinL a b).length (clkCols (joinL a b)))) = (∃ (x : PUnit),
  (∃ (x : JSt),
      (x.i ≤ a.length ∧
          x.j ≤ b.length ∧
            x.o.length ≤ x.i + x.j ∧
              a.length - x.i + (b.length - x.j) ≤ x.f ∧
                x.o ++ joinF x.f (List.drop x.i a) (List.drop x.j b) = joinL a b) ∧
        (0 = x.o.length ∧ 0 = (↑x.i : Int) ∧ 0 = (↑x.j : Int) ∧ True) ∧
          (0 = x.o.length ∧ x.o.length = 0 ∧ x.o.length = 0 ∧ True) ∧ True) ∧
    ∀ (x_1 : JSt),
      x_1.i ≤ a.length ∧
          x_1.j ≤ b.length ∧
            x_1.o.length ≤ x_1.i + x_1.j ∧
              a.length - x_1.i + (b.length - x_1.j) ≤ x_1.f ∧
                x_1.o ++ joinF x_1.f (List.drop x_1.i a) (List.drop x_1.j b) = joinL a b →
        ((decide ((↑x_1.i : Int) < (↑a.length : Int)) && decide ((↑x_1.j : Int) < (↑b.length : Int))) = true →
            (0 ≤ (↑x_1.i : Int) ∧ (↑x_1.i : Int) < (↑a.length : Int)) ∧
              x_1.i < a.length ∧
                (0 ≤ (↑x_1.j : Int) ∧ (↑x_1.j : Int) < (↑b.length : Int)) ∧
                  x_1.j < b.length ∧
                    ((agF a x_1.i == agF b x_1.j && ctF a x_1.i == ctF b x_1.j) = true →
                        (0 ≤ (↑x_1.i : Int) ∧ (↑x_1.i : Int) < (↑a.length : Int)) ∧
                          x_1.i < a.length ∧
                            x_1.o.length = x_1.o.length ∧
                              1 = 1 ∧
                                0 < 1 ∧
                                  (x_1.o.length + 1) * 16 ≤ 140737488355328 ∧
                                    x_1.o.length + 1 ≤ 9223372036854775807 ∧
                                      ∃ (x_2 : JSt),
                                        (x_2.i ≤ a.length ∧
                                            x_2.j ≤ b.length ∧
                                              x_2.o.length ≤ x_2.i + x_2.j ∧
                                                a.length - x_2.i + (b.length - x_2.j) ≤ x_2.f ∧
                                                  x_2.o ++ joinF x_2.f (List.drop x_2.i a) (List.drop x_2.j b) =
                                                    joinL a b) ∧
                                          ((PLoop.of (lJoin a b)).ann x).mu x_2 <
                                              ((PLoop.of (lJoin a b)).ann x).mu x_1 ∧
                                            (a.length = a.length ∧
                                                b.length = b.length ∧
                                                  0 = 0 ∧
                                                    x_1.o.length + 1 = x_2.o.length ∧
                                                      IntKind.i64.wrap ((↑x_1.i : Int) + 1) = (↑x_2.i : Int) ∧
                                                        IntKind.i64.wrap ((↑x_1.j : Int) + 1) = (↑x_2.j : Int) ∧ True) ∧
                                              (a.length = a.length ∧
                                                  (∀ (j : Nat), j < a.length → agF a j = agF a j) ∧
                                                    (∀ (j : Nat), j < a.length → ctF a j = ctF a j) ∧ True) ∧
                                                (b.length = b.length ∧
                                                    (∀ (j : Nat), j < b.length → agF b j = agF b j) ∧
                                                      (∀ (j : Nat), j < b.length → ctF b j = ctF b j) ∧ True) ∧
                                                  (0 = 0 ∧ True ∧ True ∧ True) ∧
                                                    (x_1.o.length + 1 = x_2.o.length ∧
                                                        (∀ (j : Nat),
                                                            j < x_2.o.length →
                                                              (bif j.blt x_1.o.length then agF x_1.o j
                                                                else pickI [agF a x_1.i] (j - x_1.o.length)) =
                                                                agF x_2.o j) ∧
                                                          (∀ (j : Nat),
                                                              j < x_2.o.length →
                                                                (bif j.blt x_1.o.length then ctF x_1.o j
                                                                  else pickI [ctF a x_1.i] (j - x_1.o.length)) =
                                                                  ctF x_2.o j) ∧
                                                            True) ∧
                                                      True) ∧
                      ((agF a x_1.i == agF b x_1.j && ctF a x_1.i == ctF b x_1.j) = false →
                        (0 ≤ (↑x_1.i : Int) ∧ (↑x_1.i : Int) < (↑a.length : Int)) ∧
                          x_1.i < a.length ∧
                            (0 ≤ (↑x_1.j : Int) ∧ (↑x_1.j : Int) < (↑b.length : Int)) ∧
                              x_1.j < b.length ∧
                                (decide (agF a x_1.i < agF b x_1.j) = true →
                                    (0 ≤ (↑x_1.i : Int) ∧ (↑x_1.i : Int) < (↑a.length : Int)) ∧
                                      x_1.i < a.length ∧
                                        x_1.o.length = x_1.o.length ∧
                                          1 = 1 ∧
                                            0 < 1 ∧
                                              (x_1.o.length + 1) * 16 ≤ 140737488355328 ∧
                                                x_1.o.length + 1 ≤ 9223372036854775807 ∧
                                                  ∃ (x_2 : JSt),
                                                    (x_2.i ≤ a.length ∧
                                                        x_2.j ≤ b.length ∧
                                                          x_2.o.length ≤ x_2.i + x_2.j ∧
                                                            a.length - x_2.i + (b.length - x_2.j) ≤ x_2.f ∧
                                                              x_2.o ++
                                                                  joinF x_2.f (List.drop x_2.i a) (List.drop x_2.j b) =
                                                                joinL a b) ∧
                                                      ((PLoop.of (lJoin a b)).ann x).mu x_2 <
                                                          ((PLoop.of (lJoin a b)).ann x).mu x_1 ∧
                                                        (a.length = a.length ∧
                                                            b.length = b.length ∧
                                                              0 = 0 ∧
                                                                x_1.o.length + 1 = x_2.o.length ∧
                                                                  IntKind.i64.wrap ((↑x_1.i : Int) + 1) =
                                                                      (↑x_2.i : Int) ∧
                                                                    (↑x_1.j : Int) = (↑x_2.j : Int) ∧ True) ∧
                                                          (a.length = a.length ∧
                                                              (∀ (j : Nat), j < a.length → agF a j = agF a j) ∧
                                                                (∀ (j : Nat), j < a.length → ctF a j = ctF a j) ∧
                                                                  True) ∧
                                                            (b.length = b.length ∧
                                                                (∀ (j : Nat), j < b.length → agF b j = agF b j) ∧
                                                                  (∀ (j : Nat), j < b.length → ctF b j = ctF b j) ∧
                                                                    True) ∧
                                                              (0 = 0 ∧ True ∧ True ∧ True) ∧
                                                                (x_1.o.length + 1 = x_2.o.length ∧
                                                                    (∀ (j : Nat),
                                                                        j < x_2.o.length →
                                                                          (bif j.blt x_1.o.length then agF x_1.o j
                                                                            else
                                                                              pickI [agF a x_1.i] (j - x_1.o.length)) =
                                                                            agF x_2.o j) ∧
                                                                      (∀ (j : Nat),
                                                                          j < x_2.o.length →
                                                                            (bif j.blt x_1.o.length then ctF x_1.o j
                                                                              else
                                                                                pickI [ctF a x_1.i]
                                                                                  (j - x_1.o.length)) =
                                                                              ctF x_2.o j) ∧
                                                                        True) ∧
                                                                  True) ∧
                                  (decide (agF a x_1.i < agF b x_1.j) = false →
                                    (0 ≤ (↑x_1.i : Int) ∧ (↑x_1.i : Int) < (↑a.length : Int)) ∧
                                      x_1.i < a.length ∧
                                        (0 ≤ (↑x_1.j : Int) ∧ (↑x_1.j : Int) < (↑b.length : Int)) ∧
                                          x_1.j < b.length ∧
                                            (decide (agF a x_1.i > agF b x_1.j) = true →
                                                (0 ≤ (↑x_1.j : Int) ∧ (↑x_1.j : Int) < (↑b.length : Int)) ∧
                                                  x_1.j < b.length ∧
                                                    x_1.o.length = x_1.o.length ∧
                                                      1 = 1 ∧
                                                        0 < 1 ∧
                                                          (x_1.o.length + 1) * 16 ≤ 140737488355328 ∧
                                                            x_1.o.length + 1 ≤ 9223372036854775807 ∧
                                                              ∃ (x_2 : JSt),
                                                                (x_2.i ≤ a.length ∧
                                                                    x_2.j ≤ b.length ∧
                                                                      x_2.o.length ≤ x_2.i + x_2.j ∧
                                                                        a.length - x_2.i + (b.length - x_2.j) ≤ x_2.f ∧
                                                                          x_2.o ++
                                                                              joinF x_2.f (List.drop x_2.i a)
                                                                                (List.drop x_2.j b) =
                                                                            joinL a b) ∧
                                                                  ((PLoop.of (lJoin a b)).ann x).mu x_2 <
                                                                      ((PLoop.of (lJoin a b)).ann x).mu x_1 ∧
                                                                    (a.length = a.length ∧
                                                                        b.length = b.length ∧
                                                                          0 = 0 ∧
                                                                            x_1.o.length + 1 = x_2.o.length ∧
                                                                              (↑x_1.i : Int) = (↑x_2.i : Int) ∧
                                                                                IntKind.i64.wrap ((↑x_1.j : Int) + 1) =
                                                                                    (↑x_2.j : Int) ∧
                                                                                  True) ∧
                                                                      (a.length = a.length ∧
                                                                          (∀ (j : Nat),
                                                                              j < a.length → agF a j = agF a j) ∧
                                                                            (∀ (j : Nat),
                                                                                j < a.length → ctF a j = ctF a j) ∧
                                                                              True) ∧
                                                                        (b.length = b.length ∧
                                                                            (∀ (j : Nat),
                                                                                j < b.length → agF b j = agF b j) ∧
                                                                              (∀ (j : Nat),
                                                                                  j < b.length → ctF b j = ctF b j) ∧
                                                                                True) ∧
                                                                          (0 = 0 ∧ True ∧ True ∧ True) ∧
                                                                            (x_1.o.length + 1 = x_2.o.length ∧
                                                                                (∀ (j : Nat),
                                                                                    j < x_2.o.length →
                                                                                      (bif j.blt x_1.o.length then
                                                                                          agF x_1.o j
                                                                                        else
                                                                                          pickI [agF b x_1.j]
                                                                                            (j - x_1.o.length)) =
                                                                                        agF x_2.o j) ∧
                                                                                  (∀ (j : Nat),
                                                                                      j < x_2.o.length →
                                                                                        (bif j.blt x_1.o.length then
                                                                                            ctF x_1.o j
                                                                                          else
                                                                                            pickI [ctF b x_1.j]
                                                                                              (j - x_1.o.length)) =
                                                                                          ctF x_2.o j) ∧
                                                                                    True) ∧
                                                                              True) ∧
                                              (decide (agF a x_1.i > agF b x_1.j) = false →
                                                (0 ≤ (↑x_1.i : Int) ∧ (↑x_1.i : Int) < (↑a.length : Int)) ∧
                                                  x_1.i < a.length ∧
                                                    (0 ≤ (↑x_1.i : Int) ∧ (↑x_1.i : Int) < (↑a.length : Int)) ∧
                                                      x_1.i < a.length ∧
                                                        (0 ≤ (↑x_1.j : Int) ∧ (↑x_1.j : Int) < (↑b.length : Int)) ∧
                                                          x_1.j < b.length ∧
                                                            x_1.o.length = x_1.o.length ∧
                                                              1 = 1 ∧
                                                                0 < 1 ∧
                                                                  (x_1.o.length + 1) * 16 ≤ 140737488355328 ∧
                                                                    x_1.o.length + 1 ≤ 9223372036854775807 ∧
                                                                      ∃ (x_2 : JSt),
                                                                        (x_2.i ≤ a.length ∧
                                                                            x_2.j ≤ b.length ∧
                                                                              x_2.o.length ≤ x_2.i + x_2.j ∧
                                                                                a.length - x_2.i + (b.length - x_2.j) ≤
                                                                                    x_2.f ∧
                                                                                  x_2.o ++
                                                                                      joinF x_2.f (List.drop x_2.i a)
                                                                                        (List.drop x_2.j b) =
                                                                                    joinL a b) ∧
                                                                          ((PLoop.of (lJoin a b)).ann x).mu x_2 <
                                                                              ((PLoop.of (lJoin a b)).ann x).mu x_1 ∧
                                                                            (a.length = a.length ∧
                                                                                b.length = b.length ∧
                                                                                  0 = 0 ∧
                                                                                    x_1.o.length + 1 = x_2.o.length ∧
                                                                                      IntKind.i64.wrap
                                                                                            ((↑x_1.i : Int) + 1) =
                                                                                          (↑x_2.i : Int) ∧
                                                                                        IntKind.i64.wrap
                                                                                              ((↑x_1.j : Int) + 1) =
                                                                                            (↑x_2.j : Int) ∧
                                                                                          True) ∧
                                                                              (a.length = a.length ∧
                                                                                  (∀ (j : Nat),
                                                                                      j < a.length →
                                                                                        agF a j = agF a j) ∧
                                                                                    (∀ (j : Nat),
                                                                                        j < a.length →
                                                                                          ctF a j = ctF a j) ∧
                                                                                      True) ∧
                                                                                (b.length = b.length ∧
                                                                                    (∀ (j : Nat),
                                                                                        j < b.length →
                                                                                          agF b j = agF b j) ∧
                                                                                      (∀ (j : Nat),
                                                                                          j < b.length →
                                                                                            ctF b j = ctF b j) ∧
                                                                                        True) ∧
                                                                                  (0 = 0 ∧ True ∧ True ∧ True) ∧
                                                                                    (x_1.o.length + 1 = x_2.o.length ∧
                                                                                        (∀ (j : Nat),
                                                                                            j < x_2.o.length →
                                                                                              (bif
                                                                                                    j.blt
                                                                                                      x_1.o.length then
                                                                                                  agF x_1.o j
                                                                                                else
                                                                                                  pickI [agF a x_1.i]
                                                                                                    (j -
                                                                                                      x_1.o.length)) =
                                                                                                agF x_2.o j) ∧
                                                                                          (∀ (j : Nat),
                                                                                              j < x_2.o.length →
                                                                                                (bif
                                                                                                      j.blt
                                                                                                        x_1.o.length then
                                                                                                    ctF x_1.o j
                                                                                                  else
                                                                                                    pickI
                                                                                                      [if
                                                                                                            ctF b
                                                                                                                x_1.j >
                                                                                                              ctF a
                                                                                                                x_1.i then
                                                                                                          ctF b x_1.j
                                                                                                        else
                                                                                                          ctF a x_1.i]
                                                                                                      (j -
                                                                                                        x_1.o.length)) =
                                                                                                  ctF x_2.o j) ∧
                                                                                            True) ∧
                                                                                      True)))) ∧
          ((decide ((↑x_1.i : Int) < (↑a.length : Int)) && decide ((↑x_1.j : Int) < (↑b.length : Int))) = false →
            a.length = a.length ∧
              0 ≤ (↑x_1.i : Int) ∧
                (↑x_1.i : Int) ≤ (↑a.length : Int) ∧
                  x_1.o.length = x_1.o.length ∧
                    x_1.i + (a.length - x_1.i) ≤ a.length ∧
                      (x_1.o.length + (a.length - x_1.i)) * 16 ≤ 140737488355328 ∧
                        x_1.o.length + (a.length - x_1.i) ≤ 9223372036854775807 ∧
                          b.length = b.length ∧
                            0 ≤ (↑x_1.j : Int) ∧
                              (↑x_1.j : Int) ≤ (↑b.length : Int) ∧
                                x_1.o.length + (a.length - x_1.i) = x_1.o.length + (a.length - x_1.i) ∧
                                  x_1.j + (b.length - x_1.j) ≤ b.length ∧
                                    (x_1.o.length + (a.length - x_1.i) + (b.length - x_1.j)) * 16 ≤ 140737488355328 ∧
                                      x_1.o.length + (a.length - x_1.i) + (b.length - x_1.j) ≤ 9223372036854775807 ∧
                                        x_1.o.length + (a.length - x_1.i) + (b.length - x_1.j) = (joinL a b).length ∧
                                          ((∀ (j : Nat),
                                                j < (joinL a b).length →
                                                  (bif j.blt (x_1.o.length + (a.length - x_1.i)) then
                                                      bif j.blt x_1.o.length then agF x_1.o j
                                                      else agF a (x_1.i + (j - x_1.o.length))
                                                    else agF b (x_1.j + (j - (x_1.o.length + (a.length - x_1.i))))) =
                                                    agF (joinL a b) j) ∧
                                              (∀ (j : Nat),
                                                  j < (joinL a b).length →
                                                    (bif j.blt (x_1.o.length + (a.length - x_1.i)) then
                                                        bif j.blt x_1.o.length then ctF x_1.o j
                                                        else ctF a (x_1.i + (j - x_1.o.length))
                                                      else ctF b (x_1.j + (j - (x_1.o.length + (a.length - x_1.i))))) =
                                                      ctF (joinL a b) j) ∧
                                                True) ∧
                                            x_1.o.length + (a.length - x_1.i) + (b.length - x_1.j) = (joinL a b).length)) := by kernel_rfl
theorem v32 (a b : List Tk) (hA : L40 a) (hB : L40 b) : fnVc (tab [] [(0, .of (lJoin a b))]) Try.f32 [.sl 0 a.length, .sl 1 b.length] [clkArr a, clkArr b] (resIs (.sl 0 (joinL a b).length) 27 (joinL a b).length (clkCols (joinL a b))) := by
  rw [v32_eq]
  have hLA : a.length ≤ 1099511627776 := hA
  have hLB : b.length ≤ 1099511627776 := hB
  refine ⟨(), ⟨⟨0, 0, a.length + b.length, []⟩, ⟨Nat.zero_le _, Nat.zero_le _, Nat.zero_le _, by simp, rfl⟩, ⟨rfl, rfl, rfl, trivial⟩, ⟨rfl, rfl, rfl, trivial⟩, trivial⟩, fun x hx => ⟨fun hlt => ?_, fun hlt => ?_⟩⟩
  · simp only [Bool.and_eq_true, decide_eq_true_eq] at hlt
    have hi : x.i < a.length := by omega
    have hj : x.j < b.length := by omega
    have bi : 0 ≤ (x.i : Int) ∧ (x.i : Int) < (a.length : Int) := by omega
    have bj : 0 ≤ (x.j : Int) ∧ (x.j : Int) < (b.length : Int) := by omega
    have ho := hx.2.2.1
    have hff := hx.2.2.2.1
    have hwi : IntKind.i64.wrap ((x.i : Int) + 1) = ((x.i + 1 : Nat) : Int) := wrS hi hLA
    have hwj : IntKind.i64.wrap ((x.j : Int) + 1) = ((x.j + 1 : Nat) : Int) := wrS hj hLB
    refine ⟨bi, hi, bj, hj, fun h1 => ?_, fun h1 => ⟨bi, hi, bj, hj, fun h2 => ?_, fun h2 => ⟨bi, hi, bj, hj, fun h3 => ?_, fun h3 => ?_⟩⟩⟩
    · -- the same
      have e0 := join_step hi hj hx.2.2.2.1
      rw [h1] at e0
      simp only [cond_true, cond_false] at e0
      refine ⟨bi, hi, rfl, rfl, by omega, by omega, by omega, ⟨x.i + 1, x.j + 1, x.f - 1, x.o ++ [⟨agF a x.i, ctF a x.i⟩]⟩, ⟨by simp only; omega, by simp only; omega, by simp; omega, by simp only; omega, ?_⟩, mu_of (by simp only [lJoin]; omega), ?_⟩
      · rw [← hx.2.2.2.2, e0]; simp
      · have a1 := apA x.o (⟨agF a x.i, ctF a x.i⟩ : Tk)
        have a2 := apC x.o (⟨agF a x.i, ctF a x.i⟩ : Tk)
        have e3 : (x.o ++ [(⟨agF a x.i, ctF a x.i⟩ : Tk)]).length = x.o.length + 1 := by simp
        simp only [hwi, hwj, e3, true_and, and_true, implies_true]
        rw [e3] at a1 a2
        exact ⟨a1, a2⟩
    · -- a's agent first
      have e0 := join_step hi hj hx.2.2.2.1
      rw [h1, h2] at e0
      simp only [cond_true, cond_false] at e0
      refine ⟨bi, hi, rfl, rfl, by omega, by omega, by omega, ⟨x.i + 1, x.j, x.f - 1, x.o ++ [⟨agF a x.i, ctF a x.i⟩]⟩, ⟨by simp only; omega, by simp only; omega, by simp; omega, by simp only; omega, ?_⟩, mu_of (by simp only [lJoin]; omega), ?_⟩
      · rw [← hx.2.2.2.2, e0]; simp
      · have a1 := apA x.o (⟨agF a x.i, ctF a x.i⟩ : Tk)
        have a2 := apC x.o (⟨agF a x.i, ctF a x.i⟩ : Tk)
        have e3 : (x.o ++ [(⟨agF a x.i, ctF a x.i⟩ : Tk)]).length = x.o.length + 1 := by simp
        simp only [hwi, e3, true_and, and_true, implies_true]
        rw [e3] at a1 a2
        exact ⟨a1, a2⟩
    · -- b's agent first
      have e0 := join_step hi hj hx.2.2.2.1
      rw [h1, h2, h3] at e0
      simp only [cond_true, cond_false] at e0
      refine ⟨bj, hj, rfl, rfl, by omega, by omega, by omega, ⟨x.i, x.j + 1, x.f - 1, x.o ++ [⟨agF b x.j, ctF b x.j⟩]⟩, ⟨by simp only; omega, by simp only; omega, by simp; omega, by simp only; omega, ?_⟩, mu_of (by simp only [lJoin]; omega), ?_⟩
      · rw [← hx.2.2.2.2, e0]; simp
      · have a1 := apA x.o (⟨agF b x.j, ctF b x.j⟩ : Tk)
        have a2 := apC x.o (⟨agF b x.j, ctF b x.j⟩ : Tk)
        have e3 : (x.o ++ [(⟨agF b x.j, ctF b x.j⟩ : Tk)]).length = x.o.length + 1 := by simp
        simp only [hwj, e3, true_and, and_true, implies_true]
        rw [e3] at a1 a2
        exact ⟨a1, a2⟩
    · -- the same agent
      have e0 := join_step hi hj hx.2.2.2.1
      rw [h1, h2, h3] at e0
      simp only [cond_true, cond_false] at e0
      refine ⟨bi, hi, bi, hi, bj, hj, rfl, rfl, by omega, by omega, by omega, ⟨x.i + 1, x.j + 1, x.f - 1, x.o ++ [⟨agF a x.i, max2 (ctF a x.i) (ctF b x.j)⟩]⟩, ⟨by simp only; omega, by simp only; omega, by simp; omega, by simp only; omega, ?_⟩, mu_of (by simp only [lJoin]; omega), ?_⟩
      · rw [← hx.2.2.2.2, e0]; simp
      · have a1 := apA x.o (⟨agF a x.i, max2 (ctF a x.i) (ctF b x.j)⟩ : Tk)
        have a2 := apC x.o (⟨agF a x.i, max2 (ctF a x.i) (ctF b x.j)⟩ : Tk)
        have e3 : (x.o ++ [(⟨agF a x.i, max2 (ctF a x.i) (ctF b x.j)⟩ : Tk)]).length = x.o.length + 1 := by simp
        simp only [hwi, hwj, e3, true_and, and_true, implies_true]
        rw [e3] at a1 a2
        exact ⟨a1, a2⟩
  · have hend : a.drop x.i = [] ∨ b.drop x.j = [] := by
      rw [Bool.and_eq_false_iff] at hlt
      rcases hlt with h | h
      · exact .inl (List.drop_eq_nil_of_le (by simp at h; omega))
      · exact .inr (List.drop_eq_nil_of_le (by simp at h; omega))
    have ho := hx.2.2.1
    have hxi := hx.1
    have hxj := hx.2.1
    have e1 : joinL a b = (x.o ++ a.drop x.i) ++ b.drop x.j := by
      rw [← hx.2.2.2.2, joinF_end hend, List.append_assoc]
    have e2 : (joinL a b).length = x.o.length + (a.length - x.i) + (b.length - x.j) := by rw [e1]; simp; omega
    have a1 := apS2 Tk.ag x.o a b x.i x.j
    have a2 := apS2 Tk.ct x.o a b x.i x.j
    rw [← e1] at a1 a2
    exact ⟨rfl, by omega, by omega, rfl, by omega, by omega, by omega, rfl, by omega, by omega, rfl, by omega, by omega, by omega, e2.symm, ⟨a1, a2, trivial⟩, e2.symm⟩
theorem fo32 : fnOk Try.prog 32 := ⟨Try.f32, Try.func32, by kernel_rfl, by kernel_rfl⟩

theorem c32 : CallOk Try.prog [] 32 (rC2 (fun a b => L40 a ∧ L40 b) joinL) := okR2 Try.func32 fo32 (fun a b => [(0, .of (lJoin a b))]) mNil (fun a b h => v32 a b h.1 h.2)
end Go.Proofs.Ythdmdlipifpbhaa
