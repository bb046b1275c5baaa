/-
  A part of the proof (Ev5).
-/
import Derived.Test.YtbhopcgbdofcjaaDoorEv4
namespace Go.Proofs.YtbhopcgbdofcjaaDoor
open Go Go.Proofs.YtbhopcgbdofcjaaDoor.Sx
set_option maxRecDepth 100000
set_option linter.unusedSimpArgs false
set_option linter.unusedVariables false
theorem v35_eq (e : Ev) : (fnVc (tabG cV []) Tryd.f35 [evSV e] [tbl] (arrIs 39 (acc e).length (colsA (acc e)))) = ((0 ≤ IntKind.i64.wrap (e.k - 1) ∧ IntKind.i64.wrap (e.k - 1) < (↑17 : Int)) ∧
  (IntKind.i64.wrap (e.k - 1)).toNat < 17 ∧
    ((pickI tAccL (IntKind.i64.wrap (e.k - 1)).toNat == 4 ||
            !pickB tWriteL (IntKind.i64.wrap (e.k - 1)).toNat && pickI tAccL (IntKind.i64.wrap (e.k - 1)).toNat == 1 &&
              decide (e.en ≥ 0)) =
          true →
        1 = 1 ∧
          1 = (acc e).length ∧
            (∀ (j : Nat), j < 1 → pickI [4] j = cK (acc e) j) ∧
              (∀ (j : Nat), j < 1 → pickI [threadI e.ag] j = cI (acc e) j) ∧
                (∀ (j : Nat), j < 1 → pickI [e.en] j = cS (acc e) j) ∧
                  (∀ (j : Nat), j < 1 → pickB [pickB tWriteL (IntKind.i64.wrap (e.k - 1)).toNat] j = cW (acc e) j) ∧
                    True) ∧
      ((pickI tAccL (IntKind.i64.wrap (e.k - 1)).toNat == 4 ||
            !pickB tWriteL (IntKind.i64.wrap (e.k - 1)).toNat && pickI tAccL (IntKind.i64.wrap (e.k - 1)).toNat == 1 &&
              decide (e.en ≥ 0)) =
          false →
        ((pickI tAccL (IntKind.i64.wrap (e.k - 1)).toNat == 0) = true →
            0 = 0 ∧ 0 = (acc e).length ∧ 0 = 0 ∧ 0 = 0 ∧ 0 = 0 ∧ 0 = 0 ∧ True) ∧
          ((pickI tAccL (IntKind.i64.wrap (e.k - 1)).toNat == 0) = false →
            ((e.k == 12) = true →
                0 = 0 ∧
                  1 = 1 ∧
                    0 < 1 ∧
                      (0 + 1) * 32 ≤ 140737488355328 ∧
                        0 + 1 ≤ 9223372036854775807 ∧
                          0 + 1 = 0 + 1 ∧
                            1 = 1 ∧
                              0 < 1 ∧
                                (0 + 1 + 1) * 32 ≤ 140737488355328 ∧
                                  0 + 1 + 1 ≤ 9223372036854775807 ∧
                                    ((e.k == 4) = true →
                                        0 + 1 + 1 = 0 + 1 + 1 ∧
                                          1 = 1 ∧
                                            0 < 1 ∧
                                              (0 + 1 + 1 + 1) * 32 ≤ 140737488355328 ∧
                                                0 + 1 + 1 + 1 ≤ 9223372036854775807 ∧
                                                  0 + 1 + 1 + 1 = 0 + 1 + 1 + 1 ∧
                                                    0 + 1 + 1 + 1 = (acc e).length ∧
                                                      (∀ (j : Nat),
                                                          j < 0 + 1 + 1 + 1 →
                                                            (bif j.blt (0 + 1 + 1) then
                                                                bif j.blt (0 + 1) then pickI [2] j
                                                                else
                                                                  pickI [pickI tAccL (IntKind.i64.wrap (e.k - 1)).toNat]
                                                                    (j - (0 + 1))
                                                              else pickI [4] (j - (0 + 1 + 1))) =
                                                              cK (acc e) j) ∧
                                                        (∀ (j : Nat),
                                                            j < 0 + 1 + 1 + 1 →
                                                              (bif j.blt (0 + 1 + 1) then
                                                                  bif j.blt (0 + 1) then pickI [e.mu] j
                                                                  else pickI [e.ob] (j - (0 + 1))
                                                                else pickI [threadI e.ag] (j - (0 + 1 + 1))) =
                                                                cI (acc e) j) ∧
                                                          (∀ (j : Nat),
                                                              j < 0 + 1 + 1 + 1 →
                                                                (bif j.blt (0 + 1 + 1) then
                                                                    bif j.blt (0 + 1) then pickI [0] j
                                                                    else pickI [0] (j - (0 + 1))
                                                                  else pickI [e.en] (j - (0 + 1 + 1))) =
                                                                  cS (acc e) j) ∧
                                                            (∀ (j : Nat),
                                                                j < 0 + 1 + 1 + 1 →
                                                                  (bif j.blt (0 + 1 + 1) then
                                                                      bif j.blt (0 + 1) then pickB [true] j
                                                                      else
                                                                        pickB
                                                                          [pickB tWriteL
                                                                              (IntKind.i64.wrap (e.k - 1)).toNat]
                                                                          (j - (0 + 1))
                                                                    else
                                                                      pickB
                                                                        [pickB tWriteL
                                                                            (IntKind.i64.wrap (e.k - 1)).toNat]
                                                                        (j - (0 + 1 + 1))) =
                                                                    cW (acc e) j) ∧
                                                              True) ∧
                                      ((e.k == 4) = false →
                                        0 + 1 + 1 = 0 + 1 + 1 ∧
                                          0 + 1 + 1 = (acc e).length ∧
                                            (∀ (j : Nat),
                                                j < 0 + 1 + 1 →
                                                  (bif j.blt (0 + 1) then pickI [2] j
                                                    else
                                                      pickI [pickI tAccL (IntKind.i64.wrap (e.k - 1)).toNat]
                                                        (j - (0 + 1))) =
                                                    cK (acc e) j) ∧
                                              (∀ (j : Nat),
                                                  j < 0 + 1 + 1 →
                                                    (bif j.blt (0 + 1) then pickI [e.mu] j
                                                      else pickI [e.ob] (j - (0 + 1))) =
                                                      cI (acc e) j) ∧
                                                (∀ (j : Nat),
                                                    j < 0 + 1 + 1 →
                                                      (bif j.blt (0 + 1) then pickI [0] j
                                                        else pickI [0] (j - (0 + 1))) =
                                                        cS (acc e) j) ∧
                                                  (∀ (j : Nat),
                                                      j < 0 + 1 + 1 →
                                                        (bif j.blt (0 + 1) then pickB [true] j
                                                          else
                                                            pickB [pickB tWriteL (IntKind.i64.wrap (e.k - 1)).toNat]
                                                              (j - (0 + 1))) =
                                                          cW (acc e) j) ∧
                                                    True)) ∧
              ((e.k == 12) = false →
                0 = 0 ∧
                  1 = 1 ∧
                    0 < 1 ∧
                      (0 + 1) * 32 ≤ 140737488355328 ∧
                        0 + 1 ≤ 9223372036854775807 ∧
                          ((e.k == 4) = true →
                              0 + 1 = 0 + 1 ∧
                                1 = 1 ∧
                                  0 < 1 ∧
                                    (0 + 1 + 1) * 32 ≤ 140737488355328 ∧
                                      0 + 1 + 1 ≤ 9223372036854775807 ∧
                                        0 + 1 + 1 = 0 + 1 + 1 ∧
                                          0 + 1 + 1 = (acc e).length ∧
                                            (∀ (j : Nat),
                                                j < 0 + 1 + 1 →
                                                  (bif j.blt (0 + 1) then
                                                      pickI [pickI tAccL (IntKind.i64.wrap (e.k - 1)).toNat] j
                                                    else pickI [4] (j - (0 + 1))) =
                                                    cK (acc e) j) ∧
                                              (∀ (j : Nat),
                                                  j < 0 + 1 + 1 →
                                                    (bif j.blt (0 + 1) then pickI [e.ob] j
                                                      else pickI [threadI e.ag] (j - (0 + 1))) =
                                                      cI (acc e) j) ∧
                                                (∀ (j : Nat),
                                                    j < 0 + 1 + 1 →
                                                      (bif j.blt (0 + 1) then pickI [0] j
                                                        else pickI [e.en] (j - (0 + 1))) =
                                                        cS (acc e) j) ∧
                                                  (∀ (j : Nat),
                                                      j < 0 + 1 + 1 →
                                                        (bif j.blt (0 + 1) then
                                                            pickB [pickB tWriteL (IntKind.i64.wrap (e.k - 1)).toNat] j
                                                          else
                                                            pickB [pickB tWriteL (IntKind.i64.wrap (e.k - 1)).toNat]
                                                              (j - (0 + 1))) =
                                                          cW (acc e) j) ∧
                                                    True) ∧
                            ((e.k == 4) = false →
                              0 + 1 = 0 + 1 ∧
                                0 + 1 = (acc e).length ∧
                                  (∀ (j : Nat),
                                      j < 0 + 1 →
                                        pickI [pickI tAccL (IntKind.i64.wrap (e.k - 1)).toNat] j = cK (acc e) j) ∧
                                    (∀ (j : Nat), j < 0 + 1 → pickI [e.ob] j = cI (acc e) j) ∧
                                      (∀ (j : Nat), j < 0 + 1 → pickI [0] j = cS (acc e) j) ∧
                                        (∀ (j : Nat),
                                            j < 0 + 1 →
                                              pickB [pickB tWriteL (IntKind.i64.wrap (e.k - 1)).toNat] j =
                                                cW (acc e) j) ∧
                                          True))))) := by kernel_rfl
theorem v35 (e : Ev) (hv : validE e = true) : fnVc (tabG cV []) Tryd.f35 [evSV e] [tbl] (arrIs 39 (acc e).length (colsA (acc e))) := by
  rw [v35_eq]
  have hk : 1 ≤ e.k ∧ e.k ≤ 17 := by simp only [validE] at hv; grind
  obtain ⟨ag, ix, k, ob, mu, en, od, rd, wr⟩ := e
  dsimp only at hk
  rcases kinds hk.1 hk.2 with rfl | rfl | rfl | rfl | rfl | rfl | rfl | rfl | rfl | rfl | rfl | rfl | rfl | rfl | rfl | rfl | rfl
  · obtain ⟨a1, a2, a3, a4, a5, a6, a7, a8, a9⟩ := r1
    simp only [a9, a1, a2, a3, a4, a5, a6, a7, a8, validE, objE, resE, entE, within, isVal, ordK, readK, wroteK] at hv ⊢
    simp [acc, own, lt0, lt1, lt2, colsA, pickI, pickB, cK, cI, cS, cW, nthA, Nat.beq, Nat.blt, Nat.ble] at hv ⊢
    by_cases h0 : 0 ≤ en <;> simp [h0, nthA, Nat.beq] <;> try omega
  · obtain ⟨a1, a2, a3, a4, a5, a6, a7, a8, a9⟩ := r2
    simp only [a9, a1, a2, a3, a4, a5, a6, a7, a8, validE, objE, resE, entE, within, isVal, ordK, readK, wroteK] at hv ⊢
    simp [acc, own, lt0, lt1, lt2, colsA, pickI, pickB, cK, cI, cS, cW, nthA, Nat.beq, Nat.blt, Nat.ble] at hv ⊢
  · obtain ⟨a1, a2, a3, a4, a5, a6, a7, a8, a9⟩ := r3
    simp only [a9, a1, a2, a3, a4, a5, a6, a7, a8, validE, objE, resE, entE, within, isVal, ordK, readK, wroteK] at hv ⊢
    simp [acc, own, lt0, lt1, lt2, colsA, pickI, pickB, cK, cI, cS, cW, nthA, Nat.beq, Nat.blt, Nat.ble] at hv ⊢
  · obtain ⟨a1, a2, a3, a4, a5, a6, a7, a8, a9⟩ := r4
    simp only [a9, a1, a2, a3, a4, a5, a6, a7, a8, validE, objE, resE, entE, within, isVal, ordK, readK, wroteK] at hv ⊢
    simp [acc, own, lt0, lt1, lt2, colsA, pickI, pickB, cK, cI, cS, cW, nthA, Nat.beq, Nat.blt, Nat.ble] at hv ⊢
  · obtain ⟨a1, a2, a3, a4, a5, a6, a7, a8, a9⟩ := r5
    simp only [a9, a1, a2, a3, a4, a5, a6, a7, a8, validE, objE, resE, entE, within, isVal, ordK, readK, wroteK] at hv ⊢
    simp [acc, own, lt0, lt1, lt2, colsA, pickI, pickB, cK, cI, cS, cW, nthA, Nat.beq, Nat.blt, Nat.ble] at hv ⊢
  · obtain ⟨a1, a2, a3, a4, a5, a6, a7, a8, a9⟩ := r6
    simp only [a9, a1, a2, a3, a4, a5, a6, a7, a8, validE, objE, resE, entE, within, isVal, ordK, readK, wroteK] at hv ⊢
    simp [acc, own, lt0, lt1, lt2, colsA, pickI, pickB, cK, cI, cS, cW, nthA, Nat.beq, Nat.blt, Nat.ble] at hv ⊢
    omega
  · obtain ⟨a1, a2, a3, a4, a5, a6, a7, a8, a9⟩ := r7
    simp only [a9, a1, a2, a3, a4, a5, a6, a7, a8, validE, objE, resE, entE, within, isVal, ordK, readK, wroteK] at hv ⊢
    simp [acc, own, lt0, lt1, lt2, colsA, pickI, pickB, cK, cI, cS, cW, nthA, Nat.beq, Nat.blt, Nat.ble] at hv ⊢
  · obtain ⟨a1, a2, a3, a4, a5, a6, a7, a8, a9⟩ := r8
    simp only [a9, a1, a2, a3, a4, a5, a6, a7, a8, validE, objE, resE, entE, within, isVal, ordK, readK, wroteK] at hv ⊢
    simp [acc, own, lt0, lt1, lt2, colsA, pickI, pickB, cK, cI, cS, cW, nthA, Nat.beq, Nat.blt, Nat.ble] at hv ⊢
    by_cases h0 : 0 ≤ en <;> simp [h0, nthA, Nat.beq] <;> try omega
  · obtain ⟨a1, a2, a3, a4, a5, a6, a7, a8, a9⟩ := r9
    simp only [a9, a1, a2, a3, a4, a5, a6, a7, a8, validE, objE, resE, entE, within, isVal, ordK, readK, wroteK] at hv ⊢
    simp [acc, own, lt0, lt1, lt2, colsA, pickI, pickB, cK, cI, cS, cW, nthA, Nat.beq, Nat.blt, Nat.ble] at hv ⊢
  · obtain ⟨a1, a2, a3, a4, a5, a6, a7, a8, a9⟩ := r10
    simp only [a9, a1, a2, a3, a4, a5, a6, a7, a8, validE, objE, resE, entE, within, isVal, ordK, readK, wroteK] at hv ⊢
    simp [acc, own, lt0, lt1, lt2, colsA, pickI, pickB, cK, cI, cS, cW, nthA, Nat.beq, Nat.blt, Nat.ble] at hv ⊢
  · obtain ⟨a1, a2, a3, a4, a5, a6, a7, a8, a9⟩ := r11
    simp only [a9, a1, a2, a3, a4, a5, a6, a7, a8, validE, objE, resE, entE, within, isVal, ordK, readK, wroteK] at hv ⊢
    simp [acc, own, lt0, lt1, lt2, colsA, pickI, pickB, cK, cI, cS, cW, nthA, Nat.beq, Nat.blt, Nat.ble] at hv ⊢
  · obtain ⟨a1, a2, a3, a4, a5, a6, a7, a8, a9⟩ := r12
    simp only [a9, a1, a2, a3, a4, a5, a6, a7, a8, validE, objE, resE, entE, within, isVal, ordK, readK, wroteK] at hv ⊢
    simp [acc, own, lt0, lt1, lt2, colsA, pickI, pickB, cK, cI, cS, cW, nthA, Nat.beq, Nat.blt, Nat.ble] at hv ⊢
  · obtain ⟨a1, a2, a3, a4, a5, a6, a7, a8, a9⟩ := r13
    simp only [a9, a1, a2, a3, a4, a5, a6, a7, a8, validE, objE, resE, entE, within, isVal, ordK, readK, wroteK] at hv ⊢
    simp [acc, own, lt0, lt1, lt2, colsA, pickI, pickB, cK, cI, cS, cW, nthA, Nat.beq, Nat.blt, Nat.ble] at hv ⊢
  · obtain ⟨a1, a2, a3, a4, a5, a6, a7, a8, a9⟩ := r14
    simp only [a9, a1, a2, a3, a4, a5, a6, a7, a8, validE, objE, resE, entE, within, isVal, ordK, readK, wroteK] at hv ⊢
    simp [acc, own, lt0, lt1, lt2, colsA, pickI, pickB, cK, cI, cS, cW, nthA, Nat.beq, Nat.blt, Nat.ble] at hv ⊢
  · obtain ⟨a1, a2, a3, a4, a5, a6, a7, a8, a9⟩ := r15
    simp only [a9, a1, a2, a3, a4, a5, a6, a7, a8, validE, objE, resE, entE, within, isVal, ordK, readK, wroteK] at hv ⊢
    simp [acc, own, lt0, lt1, lt2, colsA, pickI, pickB, cK, cI, cS, cW, nthA, Nat.beq, Nat.blt, Nat.ble] at hv ⊢
  · obtain ⟨a1, a2, a3, a4, a5, a6, a7, a8, a9⟩ := r16
    simp only [a9, a1, a2, a3, a4, a5, a6, a7, a8, validE, objE, resE, entE, within, isVal, ordK, readK, wroteK] at hv ⊢
    simp [acc, own, lt0, lt1, lt2, colsA, pickI, pickB, cK, cI, cS, cW, nthA, Nat.beq, Nat.blt, Nat.ble] at hv ⊢
  · obtain ⟨a1, a2, a3, a4, a5, a6, a7, a8, a9⟩ := r17
    simp only [a9, a1, a2, a3, a4, a5, a6, a7, a8, validE, objE, resE, entE, within, isVal, ordK, readK, wroteK] at hv ⊢
    simp [acc, own, lt0, lt1, lt2, colsA, pickI, pickB, cK, cI, cS, cW, nthA, Nat.beq, Nat.blt, Nat.ble] at hv ⊢

theorem v25_eq (e : Ev) : (fnVc (tabG cA []) Tryd.f25 [evSV e] [tbl] (arrIs 39 (accV e).length (colsA (accV e)))) = (nth
      (app
        (app
          (app [tbl]
            [MBlk.cells
                [SV.i IntKind.i64 e.ag, SV.i IntKind.i64 e.ix, SV.i IntKind.i64 e.k, SV.i IntKind.i64 e.ob,
                  SV.i IntKind.i64 e.mu, SV.i IntKind.i64 e.en, SV.i IntKind.i64 e.od, SV.i IntKind.i64 e.rd,
                  SV.i IntKind.i64 e.wr]])
          [MBlk.oarr 39 0 (copies 4 Col.any)])
        [])
      0 =
    some tbl ∧
  True ∧
    ((!validE
              { ag := e.ag, ix := e.ix, k := e.k, ob := e.ob, mu := e.mu, en := e.en, od := e.od, rd := e.rd,
                wr := e.wr }) =
          true →
        0 = 0 ∧ 0 = (accV e).length ∧ 0 = 0 ∧ 0 = 0 ∧ 0 = 0 ∧ 0 = 0 ∧ True) ∧
      ((!validE
              { ag := e.ag, ix := e.ix, k := e.k, ob := e.ob, mu := e.mu, en := e.en, od := e.od, rd := e.rd,
                wr := e.wr }) =
          false →
        ((e.k == 1) = true →
            (decide (e.en ≥ 0) = true →
                1 = 1 ∧
                  1 = (accV e).length ∧
                    (∀ (j : Nat), j < 1 → pickI [4] j = cK (accV e) j) ∧
                      (∀ (j : Nat), j < 1 → pickI [threadI e.ag] j = cI (accV e) j) ∧
                        (∀ (j : Nat), j < 1 → pickI [e.en] j = cS (accV e) j) ∧
                          (∀ (j : Nat), j < 1 → pickB [e.k == 3 || e.k == 4] j = cW (accV e) j) ∧ True) ∧
              (decide (e.en ≥ 0) = false →
                1 = 1 ∧
                  1 = (accV e).length ∧
                    (∀ (j : Nat), j < 1 → pickI [1] j = cK (accV e) j) ∧
                      (∀ (j : Nat), j < 1 → pickI [e.ob] j = cI (accV e) j) ∧
                        (∀ (j : Nat), j < 1 → pickI [0] j = cS (accV e) j) ∧
                          (∀ (j : Nat), j < 1 → pickB [e.k == 2 || e.k == 5 || e.k == 4] j = cW (accV e) j) ∧ True)) ∧
          ((e.k == 1) = false →
            ((e.k == 8) = true →
                (decide (e.en ≥ 0) = true →
                    1 = 1 ∧
                      1 = (accV e).length ∧
                        (∀ (j : Nat), j < 1 → pickI [4] j = cK (accV e) j) ∧
                          (∀ (j : Nat), j < 1 → pickI [threadI e.ag] j = cI (accV e) j) ∧
                            (∀ (j : Nat), j < 1 → pickI [e.en] j = cS (accV e) j) ∧
                              (∀ (j : Nat), j < 1 → pickB [e.k == 3 || e.k == 4] j = cW (accV e) j) ∧ True) ∧
                  (decide (e.en ≥ 0) = false →
                    1 = 1 ∧
                      1 = (accV e).length ∧
                        (∀ (j : Nat), j < 1 → pickI [1] j = cK (accV e) j) ∧
                          (∀ (j : Nat), j < 1 → pickI [e.ob] j = cI (accV e) j) ∧
                            (∀ (j : Nat), j < 1 → pickI [0] j = cS (accV e) j) ∧
                              (∀ (j : Nat), j < 1 → pickB [e.k == 2 || e.k == 5 || e.k == 4] j = cW (accV e) j) ∧
                                True)) ∧
              ((e.k == 8) = false →
                ((e.k == 2) = true →
                    1 = 1 ∧
                      1 = (accV e).length ∧
                        (∀ (j : Nat), j < 1 → pickI [1] j = cK (accV e) j) ∧
                          (∀ (j : Nat), j < 1 → pickI [e.ob] j = cI (accV e) j) ∧
                            (∀ (j : Nat), j < 1 → pickI [0] j = cS (accV e) j) ∧
                              (∀ (j : Nat), j < 1 → pickB [e.k == 2 || e.k == 5 || e.k == 4] j = cW (accV e) j) ∧
                                True) ∧
                  ((e.k == 2) = false →
                    ((e.k == 5) = true →
                        1 = 1 ∧
                          1 = (accV e).length ∧
                            (∀ (j : Nat), j < 1 → pickI [1] j = cK (accV e) j) ∧
                              (∀ (j : Nat), j < 1 → pickI [e.ob] j = cI (accV e) j) ∧
                                (∀ (j : Nat), j < 1 → pickI [0] j = cS (accV e) j) ∧
                                  (∀ (j : Nat), j < 1 → pickB [e.k == 2 || e.k == 5 || e.k == 4] j = cW (accV e) j) ∧
                                    True) ∧
                      ((e.k == 5) = false →
                        ((e.k == 6) = true →
                            1 = 1 ∧
                              1 = (accV e).length ∧
                                (∀ (j : Nat), j < 1 → pickI [1] j = cK (accV e) j) ∧
                                  (∀ (j : Nat), j < 1 → pickI [e.ob] j = cI (accV e) j) ∧
                                    (∀ (j : Nat), j < 1 → pickI [0] j = cS (accV e) j) ∧
                                      (∀ (j : Nat),
                                          j < 1 → pickB [e.k == 2 || e.k == 5 || e.k == 4] j = cW (accV e) j) ∧
                                        True) ∧
                          ((e.k == 6) = false →
                            ((e.k == 3) = true →
                                1 = 1 ∧
                                  1 = (accV e).length ∧
                                    (∀ (j : Nat), j < 1 → pickI [4] j = cK (accV e) j) ∧
                                      (∀ (j : Nat), j < 1 → pickI [threadI e.ag] j = cI (accV e) j) ∧
                                        (∀ (j : Nat), j < 1 → pickI [e.en] j = cS (accV e) j) ∧
                                          (∀ (j : Nat), j < 1 → pickB [e.k == 3 || e.k == 4] j = cW (accV e) j) ∧
                                            True) ∧
                              ((e.k == 3) = false →
                                ((e.k == 4) = true →
                                    2 = 2 ∧
                                      2 = (accV e).length ∧
                                        (∀ (j : Nat), j < 2 → pickI [1, 4] j = cK (accV e) j) ∧
                                          (∀ (j : Nat), j < 2 → pickI [e.ob, threadI e.ag] j = cI (accV e) j) ∧
                                            (∀ (j : Nat), j < 2 → pickI [0, e.en] j = cS (accV e) j) ∧
                                              (∀ (j : Nat),
                                                  j < 2 →
                                                    pickB [e.k == 2 || e.k == 5 || e.k == 4, e.k == 3 || e.k == 4] j =
                                                      cW (accV e) j) ∧
                                                True) ∧
                                  ((e.k == 4) = false →
                                    ((e.k == 9) = true →
                                        1 = 1 ∧
                                          1 = (accV e).length ∧
                                            (∀ (j : Nat), j < 1 → pickI [2] j = cK (accV e) j) ∧
                                              (∀ (j : Nat), j < 1 → pickI [e.ob] j = cI (accV e) j) ∧
                                                (∀ (j : Nat), j < 1 → pickI [0] j = cS (accV e) j) ∧
                                                  (∀ (j : Nat), j < 1 → pickB [true] j = cW (accV e) j) ∧ True) ∧
                                      ((e.k == 9) = false →
                                        ((e.k == 10) = true →
                                            1 = 1 ∧
                                              1 = (accV e).length ∧
                                                (∀ (j : Nat), j < 1 → pickI [2] j = cK (accV e) j) ∧
                                                  (∀ (j : Nat), j < 1 → pickI [e.ob] j = cI (accV e) j) ∧
                                                    (∀ (j : Nat), j < 1 → pickI [0] j = cS (accV e) j) ∧
                                                      (∀ (j : Nat), j < 1 → pickB [true] j = cW (accV e) j) ∧ True) ∧
                                          ((e.k == 10) = false →
                                            ((e.k == 11) = true →
                                                1 = 1 ∧
                                                  1 = (accV e).length ∧
                                                    (∀ (j : Nat), j < 1 → pickI [2] j = cK (accV e) j) ∧
                                                      (∀ (j : Nat), j < 1 → pickI [e.ob] j = cI (accV e) j) ∧
                                                        (∀ (j : Nat), j < 1 → pickI [0] j = cS (accV e) j) ∧
                                                          (∀ (j : Nat), j < 1 → pickB [true] j = cW (accV e) j) ∧
                                                            True) ∧
                                              ((e.k == 11) = false →
                                                ((e.k == 12) = true →
                                                    2 = 2 ∧
                                                      2 = (accV e).length ∧
                                                        (∀ (j : Nat), j < 2 → pickI [2, 3] j = cK (accV e) j) ∧
                                                          (∀ (j : Nat), j < 2 → pickI [e.mu, e.ob] j = cI (accV e) j) ∧
                                                            (∀ (j : Nat), j < 2 → pickI [0, 0] j = cS (accV e) j) ∧
                                                              (∀ (j : Nat),
                                                                  j < 2 → pickB [true, true] j = cW (accV e) j) ∧
                                                                True) ∧
                                                  ((e.k == 12) = false →
                                                    ((e.k == 13) = true →
                                                        1 = 1 ∧
                                                          1 = (accV e).length ∧
                                                            (∀ (j : Nat), j < 1 → pickI [3] j = cK (accV e) j) ∧
                                                              (∀ (j : Nat), j < 1 → pickI [e.ob] j = cI (accV e) j) ∧
                                                                (∀ (j : Nat), j < 1 → pickI [0] j = cS (accV e) j) ∧
                                                                  (∀ (j : Nat),
                                                                      j < 1 → pickB [true] j = cW (accV e) j) ∧
                                                                    True) ∧
                                                      ((e.k == 13) = false →
                                                        ((e.k == 14) = true →
                                                            1 = 1 ∧
                                                              1 = (accV e).length ∧
                                                                (∀ (j : Nat), j < 1 → pickI [3] j = cK (accV e) j) ∧
                                                                  (∀ (j : Nat),
                                                                      j < 1 → pickI [e.ob] j = cI (accV e) j) ∧
                                                                    (∀ (j : Nat), j < 1 → pickI [0] j = cS (accV e) j) ∧
                                                                      (∀ (j : Nat),
                                                                          j < 1 → pickB [true] j = cW (accV e) j) ∧
                                                                        True) ∧
                                                          ((e.k == 14) = false →
                                                            ((e.k == 15) = true →
                                                                1 = 1 ∧
                                                                  1 = (accV e).length ∧
                                                                    (∀ (j : Nat), j < 1 → pickI [3] j = cK (accV e) j) ∧
                                                                      (∀ (j : Nat),
                                                                          j < 1 → pickI [e.ob] j = cI (accV e) j) ∧
                                                                        (∀ (j : Nat),
                                                                            j < 1 → pickI [0] j = cS (accV e) j) ∧
                                                                          (∀ (j : Nat),
                                                                              j < 1 → pickB [true] j = cW (accV e) j) ∧
                                                                            True) ∧
                                                              ((e.k == 15) = false →
                                                                0 = 0 ∧
                                                                  0 = (accV e).length ∧
                                                                    0 = 0 ∧ 0 = 0 ∧ 0 = 0 ∧ 0 = 0 ∧ True)))))))))))))))) := by kernel_rfl
theorem v25 (e : Ev)  : fnVc (tabG cA []) Tryd.f25 [evSV e] [tbl] (arrIs 39 (accV e).length (colsA (accV e))) := by
  rw [v25_eq]
  rcases hv : validE e with _ | _
  · simp [hv, accV, app, nth]
  · have hk : 1 ≤ e.k ∧ e.k ≤ 17 := by simp only [validE] at hv; grind
    obtain ⟨ag, ix, k, ob, mu, en, od, rd, wr⟩ := e
    dsimp only at hk
    rcases kinds hk.1 hk.2 with rfl | rfl | rfl | rfl | rfl | rfl | rfl | rfl | rfl | rfl | rfl | rfl | rfl | rfl | rfl | rfl | rfl
    · simp [hv, accV, app, nth, acc, own, lt0, lt1, lt2, colsA, pickI, pickB, cK, cI, cS, cW, nthA, Nat.beq, Nat.blt, Nat.ble]
      try (by_cases h0 : 0 ≤ en <;> simp [h0, nthA, Nat.beq] <;> try omega)
    · simp [hv, accV, app, nth, acc, own, lt0, lt1, lt2, colsA, pickI, pickB, cK, cI, cS, cW, nthA, Nat.beq, Nat.blt, Nat.ble]
    · simp [hv, accV, app, nth, acc, own, lt0, lt1, lt2, colsA, pickI, pickB, cK, cI, cS, cW, nthA, Nat.beq, Nat.blt, Nat.ble]
    · simp [hv, accV, app, nth, acc, own, lt0, lt1, lt2, colsA, pickI, pickB, cK, cI, cS, cW, nthA, Nat.beq, Nat.blt, Nat.ble]
    · simp [hv, accV, app, nth, acc, own, lt0, lt1, lt2, colsA, pickI, pickB, cK, cI, cS, cW, nthA, Nat.beq, Nat.blt, Nat.ble]
    · simp [hv, accV, app, nth, acc, own, lt0, lt1, lt2, colsA, pickI, pickB, cK, cI, cS, cW, nthA, Nat.beq, Nat.blt, Nat.ble]
    · simp [hv, accV, app, nth, acc, own, lt0, lt1, lt2, colsA, pickI, pickB, cK, cI, cS, cW, nthA, Nat.beq, Nat.blt, Nat.ble]
    · simp [hv, accV, app, nth, acc, own, lt0, lt1, lt2, colsA, pickI, pickB, cK, cI, cS, cW, nthA, Nat.beq, Nat.blt, Nat.ble]
      try (by_cases h0 : 0 ≤ en <;> simp [h0, nthA, Nat.beq] <;> try omega)
    · simp [hv, accV, app, nth, acc, own, lt0, lt1, lt2, colsA, pickI, pickB, cK, cI, cS, cW, nthA, Nat.beq, Nat.blt, Nat.ble]
    · simp [hv, accV, app, nth, acc, own, lt0, lt1, lt2, colsA, pickI, pickB, cK, cI, cS, cW, nthA, Nat.beq, Nat.blt, Nat.ble]
    · simp [hv, accV, app, nth, acc, own, lt0, lt1, lt2, colsA, pickI, pickB, cK, cI, cS, cW, nthA, Nat.beq, Nat.blt, Nat.ble]
    · simp [hv, accV, app, nth, acc, own, lt0, lt1, lt2, colsA, pickI, pickB, cK, cI, cS, cW, nthA, Nat.beq, Nat.blt, Nat.ble]
    · simp [hv, accV, app, nth, acc, own, lt0, lt1, lt2, colsA, pickI, pickB, cK, cI, cS, cW, nthA, Nat.beq, Nat.blt, Nat.ble]
    · simp [hv, accV, app, nth, acc, own, lt0, lt1, lt2, colsA, pickI, pickB, cK, cI, cS, cW, nthA, Nat.beq, Nat.blt, Nat.ble]
    · simp [hv, accV, app, nth, acc, own, lt0, lt1, lt2, colsA, pickI, pickB, cK, cI, cS, cW, nthA, Nat.beq, Nat.blt, Nat.ble]
    · simp [hv, accV, app, nth, acc, own, lt0, lt1, lt2, colsA, pickI, pickB, cK, cI, cS, cW, nthA, Nat.beq, Nat.blt, Nat.ble]
    · simp [hv, accV, app, nth, acc, own, lt0, lt1, lt2, colsA, pickI, pickB, cK, cI, cS, cW, nthA, Nat.beq, Nat.blt, Nat.ble]

end Go.Proofs.YtbhopcgbdofcjaaDoor
