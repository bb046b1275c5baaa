/-
  A part of the proof (Ev2).
-/
import Derived.Test.YtbhopcgbdofcjaaDoorEv1
namespace Go.Proofs.YtbhopcgbdofcjaaDoor
open Go Go.Proofs.YtbhopcgbdofcjaaDoor.Sx
set_option maxRecDepth 100000
set_option linter.unusedSimpArgs false
set_option linter.unusedVariables false
theorem r1 : pickI tMostL ((0 : Int).toNat) = 7 ∧ pickB tOrdL ((0 : Int).toNat) = true ∧ pickI tLowL ((0 : Int).toNat) = -2147483648 ∧ pickI tHighL ((0 : Int).toNat) = 2147483647 ∧ pickB tWroteL ((0 : Int).toNat) = false ∧ pickI tLeastL ((0 : Int).toNat) = -1 ∧ pickI tAccL ((0 : Int).toNat) = 1 ∧ pickB tWriteL ((0 : Int).toNat) = false ∧ IntKind.i64.wrap (1 - 1) = 0 := ⟨rfl, rfl, rfl, rfl, rfl, rfl, rfl, rfl, rfl⟩
theorem r2 : pickI tMostL ((1 : Int).toNat) = 7 ∧ pickB tOrdL ((1 : Int).toNat) = true ∧ pickI tLowL ((1 : Int).toNat) = 0 ∧ pickI tHighL ((1 : Int).toNat) = 0 ∧ pickB tWroteL ((1 : Int).toNat) = true ∧ pickI tLeastL ((1 : Int).toNat) = -2 ∧ pickI tAccL ((1 : Int).toNat) = 1 ∧ pickB tWriteL ((1 : Int).toNat) = true ∧ IntKind.i64.wrap (2 - 1) = 1 := ⟨rfl, rfl, rfl, rfl, rfl, rfl, rfl, rfl, rfl⟩
theorem r3 : pickI tMostL ((2 : Int).toNat) = 7 ∧ pickB tOrdL ((2 : Int).toNat) = true ∧ pickI tLowL ((2 : Int).toNat) = 0 ∧ pickI tHighL ((2 : Int).toNat) = 0 ∧ pickB tWroteL ((2 : Int).toNat) = true ∧ pickI tLeastL ((2 : Int).toNat) = 0 ∧ pickI tAccL ((2 : Int).toNat) = 4 ∧ pickB tWriteL ((2 : Int).toNat) = true ∧ IntKind.i64.wrap (3 - 1) = 2 := ⟨rfl, rfl, rfl, rfl, rfl, rfl, rfl, rfl, rfl⟩
theorem r4 : pickI tMostL ((3 : Int).toNat) = 7 ∧ pickB tOrdL ((3 : Int).toNat) = false ∧ pickI tLowL ((3 : Int).toNat) = 0 ∧ pickI tHighL ((3 : Int).toNat) = 0 ∧ pickB tWroteL ((3 : Int).toNat) = true ∧ pickI tLeastL ((3 : Int).toNat) = 0 ∧ pickI tAccL ((3 : Int).toNat) = 1 ∧ pickB tWriteL ((3 : Int).toNat) = true ∧ IntKind.i64.wrap (4 - 1) = 3 := ⟨rfl, rfl, rfl, rfl, rfl, rfl, rfl, rfl, rfl⟩
theorem r5 : pickI tMostL ((4 : Int).toNat) = 7 ∧ pickB tOrdL ((4 : Int).toNat) = true ∧ pickI tLowL ((4 : Int).toNat) = -2147483648 ∧ pickI tHighL ((4 : Int).toNat) = 2147483647 ∧ pickB tWroteL ((4 : Int).toNat) = true ∧ pickI tLeastL ((4 : Int).toNat) = -2 ∧ pickI tAccL ((4 : Int).toNat) = 1 ∧ pickB tWriteL ((4 : Int).toNat) = true ∧ IntKind.i64.wrap (5 - 1) = 4 := ⟨rfl, rfl, rfl, rfl, rfl, rfl, rfl, rfl, rfl⟩
theorem r6 : pickI tMostL ((5 : Int).toNat) = 7 ∧ pickB tOrdL ((5 : Int).toNat) = true ∧ pickI tLowL ((5 : Int).toNat) = -2147483648 ∧ pickI tHighL ((5 : Int).toNat) = 2147483647 ∧ pickB tWroteL ((5 : Int).toNat) = false ∧ pickI tLeastL ((5 : Int).toNat) = -2 ∧ pickI tAccL ((5 : Int).toNat) = 1 ∧ pickB tWriteL ((5 : Int).toNat) = false ∧ IntKind.i64.wrap (6 - 1) = 5 := ⟨rfl, rfl, rfl, rfl, rfl, rfl, rfl, rfl, rfl⟩
theorem r7 : pickI tMostL ((6 : Int).toNat) = 0 ∧ pickB tOrdL ((6 : Int).toNat) = false ∧ pickI tLowL ((6 : Int).toNat) = 0 ∧ pickI tHighL ((6 : Int).toNat) = 0 ∧ pickB tWroteL ((6 : Int).toNat) = false ∧ pickI tLeastL ((6 : Int).toNat) = -2 ∧ pickI tAccL ((6 : Int).toNat) = 0 ∧ pickB tWriteL ((6 : Int).toNat) = false ∧ IntKind.i64.wrap (7 - 1) = 6 := ⟨rfl, rfl, rfl, rfl, rfl, rfl, rfl, rfl, rfl⟩
theorem r8 : pickI tMostL ((7 : Int).toNat) = 7 ∧ pickB tOrdL ((7 : Int).toNat) = true ∧ pickI tLowL ((7 : Int).toNat) = -2147483648 ∧ pickI tHighL ((7 : Int).toNat) = 2147483647 ∧ pickB tWroteL ((7 : Int).toNat) = false ∧ pickI tLeastL ((7 : Int).toNat) = -1 ∧ pickI tAccL ((7 : Int).toNat) = 1 ∧ pickB tWriteL ((7 : Int).toNat) = false ∧ IntKind.i64.wrap (8 - 1) = 7 := ⟨rfl, rfl, rfl, rfl, rfl, rfl, rfl, rfl, rfl⟩
theorem r9 : pickI tMostL ((8 : Int).toNat) = 3 ∧ pickB tOrdL ((8 : Int).toNat) = false ∧ pickI tLowL ((8 : Int).toNat) = 0 ∧ pickI tHighL ((8 : Int).toNat) = 0 ∧ pickB tWroteL ((8 : Int).toNat) = false ∧ pickI tLeastL ((8 : Int).toNat) = -2 ∧ pickI tAccL ((8 : Int).toNat) = 2 ∧ pickB tWriteL ((8 : Int).toNat) = true ∧ IntKind.i64.wrap (9 - 1) = 8 := ⟨rfl, rfl, rfl, rfl, rfl, rfl, rfl, rfl, rfl⟩
theorem r10 : pickI tMostL ((9 : Int).toNat) = 3 ∧ pickB tOrdL ((9 : Int).toNat) = false ∧ pickI tLowL ((9 : Int).toNat) = 0 ∧ pickI tHighL ((9 : Int).toNat) = 0 ∧ pickB tWroteL ((9 : Int).toNat) = false ∧ pickI tLeastL ((9 : Int).toNat) = -2 ∧ pickI tAccL ((9 : Int).toNat) = 2 ∧ pickB tWriteL ((9 : Int).toNat) = true ∧ IntKind.i64.wrap (10 - 1) = 9 := ⟨rfl, rfl, rfl, rfl, rfl, rfl, rfl, rfl, rfl⟩
theorem r11 : pickI tMostL ((10 : Int).toNat) = 3 ∧ pickB tOrdL ((10 : Int).toNat) = false ∧ pickI tLowL ((10 : Int).toNat) = 0 ∧ pickI tHighL ((10 : Int).toNat) = 1 ∧ pickB tWroteL ((10 : Int).toNat) = false ∧ pickI tLeastL ((10 : Int).toNat) = -2 ∧ pickI tAccL ((10 : Int).toNat) = 2 ∧ pickB tWriteL ((10 : Int).toNat) = true ∧ IntKind.i64.wrap (11 - 1) = 10 := ⟨rfl, rfl, rfl, rfl, rfl, rfl, rfl, rfl, rfl⟩
theorem r12 : pickI tMostL ((11 : Int).toNat) = 3 ∧ pickB tOrdL ((11 : Int).toNat) = false ∧ pickI tLowL ((11 : Int).toNat) = 0 ∧ pickI tHighL ((11 : Int).toNat) = 0 ∧ pickB tWroteL ((11 : Int).toNat) = false ∧ pickI tLeastL ((11 : Int).toNat) = -2 ∧ pickI tAccL ((11 : Int).toNat) = 3 ∧ pickB tWriteL ((11 : Int).toNat) = true ∧ IntKind.i64.wrap (12 - 1) = 11 := ⟨rfl, rfl, rfl, rfl, rfl, rfl, rfl, rfl, rfl⟩
theorem r13 : pickI tMostL ((12 : Int).toNat) = 3 ∧ pickB tOrdL ((12 : Int).toNat) = false ∧ pickI tLowL ((12 : Int).toNat) = 0 ∧ pickI tHighL ((12 : Int).toNat) = 0 ∧ pickB tWroteL ((12 : Int).toNat) = false ∧ pickI tLeastL ((12 : Int).toNat) = -2 ∧ pickI tAccL ((12 : Int).toNat) = 3 ∧ pickB tWriteL ((12 : Int).toNat) = true ∧ IntKind.i64.wrap (13 - 1) = 12 := ⟨rfl, rfl, rfl, rfl, rfl, rfl, rfl, rfl, rfl⟩
theorem r14 : pickI tMostL ((13 : Int).toNat) = 3 ∧ pickB tOrdL ((13 : Int).toNat) = false ∧ pickI tLowL ((13 : Int).toNat) = 0 ∧ pickI tHighL ((13 : Int).toNat) = 1 ∧ pickB tWroteL ((13 : Int).toNat) = false ∧ pickI tLeastL ((13 : Int).toNat) = -2 ∧ pickI tAccL ((13 : Int).toNat) = 3 ∧ pickB tWriteL ((13 : Int).toNat) = true ∧ IntKind.i64.wrap (14 - 1) = 13 := ⟨rfl, rfl, rfl, rfl, rfl, rfl, rfl, rfl, rfl⟩
theorem r15 : pickI tMostL ((14 : Int).toNat) = 3 ∧ pickB tOrdL ((14 : Int).toNat) = false ∧ pickI tLowL ((14 : Int).toNat) = 0 ∧ pickI tHighL ((14 : Int).toNat) = -1 ∧ pickB tWroteL ((14 : Int).toNat) = false ∧ pickI tLeastL ((14 : Int).toNat) = -2 ∧ pickI tAccL ((14 : Int).toNat) = 3 ∧ pickB tWriteL ((14 : Int).toNat) = true ∧ IntKind.i64.wrap (15 - 1) = 14 := ⟨rfl, rfl, rfl, rfl, rfl, rfl, rfl, rfl, rfl⟩
theorem r16 : pickI tMostL ((15 : Int).toNat) = -1 ∧ pickB tOrdL ((15 : Int).toNat) = false ∧ pickI tLowL ((15 : Int).toNat) = 0 ∧ pickI tHighL ((15 : Int).toNat) = 0 ∧ pickB tWroteL ((15 : Int).toNat) = false ∧ pickI tLeastL ((15 : Int).toNat) = -2 ∧ pickI tAccL ((15 : Int).toNat) = 0 ∧ pickB tWriteL ((15 : Int).toNat) = false ∧ IntKind.i64.wrap (16 - 1) = 15 := ⟨rfl, rfl, rfl, rfl, rfl, rfl, rfl, rfl, rfl⟩
theorem r17 : pickI tMostL ((16 : Int).toNat) = -1 ∧ pickB tOrdL ((16 : Int).toNat) = false ∧ pickI tLowL ((16 : Int).toNat) = 0 ∧ pickI tHighL ((16 : Int).toNat) = 0 ∧ pickB tWroteL ((16 : Int).toNat) = false ∧ pickI tLeastL ((16 : Int).toNat) = -2 ∧ pickI tAccL ((16 : Int).toNat) = 0 ∧ pickB tWriteL ((16 : Int).toNat) = false ∧ IntKind.i64.wrap (17 - 1) = 16 := ⟨rfl, rfl, rfl, rfl, rfl, rfl, rfl, rfl, rfl⟩
theorem kinds {k : Int} (h1 : 1 ≤ k) (h2 : k ≤ 17) : k = 1 ∨ k = 2 ∨ k = 3 ∨ k = 4 ∨ k = 5 ∨ k = 6 ∨ k = 7 ∨ k = 8 ∨ k = 9 ∨ k = 10 ∨ k = 11 ∨ k = 12 ∨ k = 13 ∨ k = 14 ∨ k = 15 ∨ k = 16 ∨ k = 17 := by omega
theorem v17_eq (e : Ev) : (fnVc (tabG cT []) Tryd.f17 [evSV e] [tbl] (plainIs (.b (validE e)))) = (((decide (e.k < 1) || decide (e.k > 17) || decide (e.ix < 0) || !decide (e.ag < 0) == (e.k == 4)) = true →
    false = validE e) ∧
  ((decide (e.k < 1) || decide (e.k > 17) || decide (e.ix < 0) || !decide (e.ag < 0) == (e.k == 4)) = false →
    (0 ≤ IntKind.i64.wrap (e.k - 1) ∧ IntKind.i64.wrap (e.k - 1) < ↑17) ∧
      (IntKind.i64.wrap (e.k - 1)).toNat < 17 ∧
        ((decide (e.ob < 0) ||
                    pickI tMostL (IntKind.i64.wrap (e.k - 1)).toNat != -1 &&
                      decide (e.ob > pickI tMostL (IntKind.i64.wrap (e.k - 1)).toNat) ||
                  decide (e.rd < pickI tLowL (IntKind.i64.wrap (e.k - 1)).toNat) ||
                pickI tHighL (IntKind.i64.wrap (e.k - 1)).toNat != -1 &&
                  decide (e.rd > pickI tHighL (IntKind.i64.wrap (e.k - 1)).toNat)) =
              true →
            false = validE e) ∧
          ((decide (e.ob < 0) ||
                    pickI tMostL (IntKind.i64.wrap (e.k - 1)).toNat != -1 &&
                      decide (e.ob > pickI tMostL (IntKind.i64.wrap (e.k - 1)).toNat) ||
                  decide (e.rd < pickI tLowL (IntKind.i64.wrap (e.k - 1)).toNat) ||
                pickI tHighL (IntKind.i64.wrap (e.k - 1)).toNat != -1 &&
                  decide (e.rd > pickI tHighL (IntKind.i64.wrap (e.k - 1)).toNat)) =
              false →
            ((pickB tOrdL (IntKind.i64.wrap (e.k - 1)).toNat && (decide (e.od < 0) || decide (e.od > 2)) ||
                    !pickB tOrdL (IntKind.i64.wrap (e.k - 1)).toNat && e.od != 0) =
                  true →
                false = validE e) ∧
              ((pickB tOrdL (IntKind.i64.wrap (e.k - 1)).toNat && (decide (e.od < 0) || decide (e.od > 2)) ||
                    !pickB tOrdL (IntKind.i64.wrap (e.k - 1)).toNat && e.od != 0) =
                  false →
                ((pickB tWroteL (IntKind.i64.wrap (e.k - 1)).toNat &&
                          (decide (e.wr < -2147483648) || decide (e.wr > 2147483647)) ||
                        !pickB tWroteL (IntKind.i64.wrap (e.k - 1)).toNat && e.wr != 0) =
                      true →
                    false = validE e) ∧
                  ((pickB tWroteL (IntKind.i64.wrap (e.k - 1)).toNat &&
                          (decide (e.wr < -2147483648) || decide (e.wr > 2147483647)) ||
                        !pickB tWroteL (IntKind.i64.wrap (e.k - 1)).toNat && e.wr != 0) =
                      false →
                    ((pickI tLeastL (IntKind.i64.wrap (e.k - 1)).toNat == -2 && e.en != -1 ||
                            decide (e.en < pickI tLeastL (IntKind.i64.wrap (e.k - 1)).toNat)) =
                          true →
                        false = validE e) ∧
                      ((pickI tLeastL (IntKind.i64.wrap (e.k - 1)).toNat == -2 && e.en != -1 ||
                            decide (e.en < pickI tLeastL (IntKind.i64.wrap (e.k - 1)).toNat)) =
                          false →
                        ((e.k == 12) = true → (decide (e.mu ≥ 0) && decide (e.mu < 4)) = validE e) ∧
                          ((e.k == 12) = false → (e.mu == -1) = validE e))))))) := by kernel_rfl
theorem v17 (e : Ev) : fnVc (tabG cT []) Tryd.f17 [evSV e] [tbl] (plainIs (.b (validE e))) := by
  rw [v17_eq]
  obtain ⟨ag, ix, k, ob, mu, en, od, rd, wr⟩ := e
  dsimp only
  refine ⟨fun h => ?_, fun h => ?_⟩
  · simp only [validE]
    grind
  · have hk : 1 ≤ k ∧ k ≤ 17 := by grind
    rcases kinds hk.1 hk.2 with rfl | rfl | rfl | rfl | rfl | rfl | rfl | rfl | rfl | rfl | rfl | rfl | rfl | rfl | rfl | rfl | rfl
    · obtain ⟨a1, a2, a3, a4, a5, a6, a7, a8, a9⟩ := r1
      simp only [a9, a1, a2, a3, a4, a5, a6, validE, objE, resE, entE, within, isVal, ordK, readK, wroteK] at h ⊢
      refine ⟨by decide, by decide, ?_⟩
      grind
    · obtain ⟨a1, a2, a3, a4, a5, a6, a7, a8, a9⟩ := r2
      simp only [a9, a1, a2, a3, a4, a5, a6, validE, objE, resE, entE, within, isVal, ordK, readK, wroteK] at h ⊢
      refine ⟨by decide, by decide, ?_⟩
      grind
    · obtain ⟨a1, a2, a3, a4, a5, a6, a7, a8, a9⟩ := r3
      simp only [a9, a1, a2, a3, a4, a5, a6, validE, objE, resE, entE, within, isVal, ordK, readK, wroteK] at h ⊢
      refine ⟨by decide, by decide, ?_⟩
      grind
    · obtain ⟨a1, a2, a3, a4, a5, a6, a7, a8, a9⟩ := r4
      simp only [a9, a1, a2, a3, a4, a5, a6, validE, objE, resE, entE, within, isVal, ordK, readK, wroteK] at h ⊢
      refine ⟨by decide, by decide, ?_⟩
      grind
    · obtain ⟨a1, a2, a3, a4, a5, a6, a7, a8, a9⟩ := r5
      simp only [a9, a1, a2, a3, a4, a5, a6, validE, objE, resE, entE, within, isVal, ordK, readK, wroteK] at h ⊢
      refine ⟨by decide, by decide, ?_⟩
      grind
    · obtain ⟨a1, a2, a3, a4, a5, a6, a7, a8, a9⟩ := r6
      simp only [a9, a1, a2, a3, a4, a5, a6, validE, objE, resE, entE, within, isVal, ordK, readK, wroteK] at h ⊢
      refine ⟨by decide, by decide, ?_⟩
      grind
    · obtain ⟨a1, a2, a3, a4, a5, a6, a7, a8, a9⟩ := r7
      simp only [a9, a1, a2, a3, a4, a5, a6, validE, objE, resE, entE, within, isVal, ordK, readK, wroteK] at h ⊢
      refine ⟨by decide, by decide, ?_⟩
      grind
    · obtain ⟨a1, a2, a3, a4, a5, a6, a7, a8, a9⟩ := r8
      simp only [a9, a1, a2, a3, a4, a5, a6, validE, objE, resE, entE, within, isVal, ordK, readK, wroteK] at h ⊢
      refine ⟨by decide, by decide, ?_⟩
      grind
    · obtain ⟨a1, a2, a3, a4, a5, a6, a7, a8, a9⟩ := r9
      simp only [a9, a1, a2, a3, a4, a5, a6, validE, objE, resE, entE, within, isVal, ordK, readK, wroteK] at h ⊢
      refine ⟨by decide, by decide, ?_⟩
      grind
    · obtain ⟨a1, a2, a3, a4, a5, a6, a7, a8, a9⟩ := r10
      simp only [a9, a1, a2, a3, a4, a5, a6, validE, objE, resE, entE, within, isVal, ordK, readK, wroteK] at h ⊢
      refine ⟨by decide, by decide, ?_⟩
      grind
    · obtain ⟨a1, a2, a3, a4, a5, a6, a7, a8, a9⟩ := r11
      simp only [a9, a1, a2, a3, a4, a5, a6, validE, objE, resE, entE, within, isVal, ordK, readK, wroteK] at h ⊢
      refine ⟨by decide, by decide, ?_⟩
      grind
    · obtain ⟨a1, a2, a3, a4, a5, a6, a7, a8, a9⟩ := r12
      simp only [a9, a1, a2, a3, a4, a5, a6, validE, objE, resE, entE, within, isVal, ordK, readK, wroteK] at h ⊢
      refine ⟨by decide, by decide, ?_⟩
      grind
    · obtain ⟨a1, a2, a3, a4, a5, a6, a7, a8, a9⟩ := r13
      simp only [a9, a1, a2, a3, a4, a5, a6, validE, objE, resE, entE, within, isVal, ordK, readK, wroteK] at h ⊢
      refine ⟨by decide, by decide, ?_⟩
      grind
    · obtain ⟨a1, a2, a3, a4, a5, a6, a7, a8, a9⟩ := r14
      simp only [a9, a1, a2, a3, a4, a5, a6, validE, objE, resE, entE, within, isVal, ordK, readK, wroteK] at h ⊢
      refine ⟨by decide, by decide, ?_⟩
      grind
    · obtain ⟨a1, a2, a3, a4, a5, a6, a7, a8, a9⟩ := r15
      simp only [a9, a1, a2, a3, a4, a5, a6, validE, objE, resE, entE, within, isVal, ordK, readK, wroteK] at h ⊢
      refine ⟨by decide, by decide, ?_⟩
      grind
    · obtain ⟨a1, a2, a3, a4, a5, a6, a7, a8, a9⟩ := r16
      simp only [a9, a1, a2, a3, a4, a5, a6, validE, objE, resE, entE, within, isVal, ordK, readK, wroteK] at h ⊢
      refine ⟨by decide, by decide, ?_⟩
      grind
    · obtain ⟨a1, a2, a3, a4, a5, a6, a7, a8, a9⟩ := r17
      simp only [a9, a1, a2, a3, a4, a5, a6, validE, objE, resE, entE, within, isVal, ordK, readK, wroteK] at h ⊢
      refine ⟨by decide, by decide, ?_⟩
      grind

end Go.Proofs.YtbhopcgbdofcjaaDoor
