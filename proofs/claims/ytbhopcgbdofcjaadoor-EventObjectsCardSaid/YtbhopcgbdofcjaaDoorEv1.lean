/-
  A part of the proof (Ev1).
-/
import Derived.Test.YtbhopcgbdofcjaaDoorEvBase
namespace Go.Proofs.YtbhopcgbdofcjaaDoor
open Go Go.Proofs.YtbhopcgbdofcjaaDoor.Sx
set_option maxRecDepth 100000
set_option linter.unusedSimpArgs false
set_option linter.unusedVariables false
def cT : Calling := [(9, fI1 fun n => .i .i64 (threadI n)), (10, fI1 fun n => .i .i64 (threadI n)), (11, fI1 fun n => .i .i64 (flusherI n)), (12, fI1 fun n => .i .i64 (flusherI n)), (13, fI1 fun n => .b (decide (n < 0))), (14, fI1 fun n => .b (decide (n < 0))),
  (42, fI2 fun n k => .b (within n k)), (40, fI1 fun n => .b (isVal n)), (39, fI1 fun n => .b (ordK n)), (43, fI1 fun n => .b (readK n)), (41, fI1 fun n => .b (wroteK n))]
theorem v9_eq (n : Int) : (fnVc (tabA [] []) Tryd.f9 [.i .i64 n] [] (plainIs (.i .i64 (threadI n)))) = ((decide (n < 0) = true → IntKind.i64.wrap (0 - IntKind.i64.wrap (n + 1)) = threadI n) ∧
  (decide (n < 0) = false → n = threadI n)) := by kernel_rfl
theorem v9 (n : Int) : fnVc (tabA [] []) Tryd.f9 [.i .i64 n] [] (plainIs (.i .i64 (threadI n))) := by
  rw [v9_eq]
  simp only [threadI, w64]; grind
theorem v10_eq (n : Int) : (fnVc (tabA [] []) Tryd.f10 [.i .i64 n] [] (plainIs (.i .i64 (threadI n)))) = ((decide (n ≥ 0) = true → n = threadI n) ∧
  (decide (n ≥ 0) = false → IntKind.i64.wrap (0 - IntKind.i64.wrap (n + 1)) = threadI n)) := by kernel_rfl
theorem v10 (n : Int) : fnVc (tabA [] []) Tryd.f10 [.i .i64 n] [] (plainIs (.i .i64 (threadI n))) := by
  rw [v10_eq]
  simp only [threadI, w64]; grind
theorem v11_eq (n : Int) : (fnVc (tabA [] []) Tryd.f11 [.i .i64 n] [] (plainIs (.i .i64 (flusherI n)))) = ((decide (n < 0) = true → 0 = flusherI n) ∧
  (decide (n < 0) = false → IntKind.i64.wrap (IntKind.i64.wrap (0 - n) - 1) = flusherI n)) := by kernel_rfl
theorem v11 (n : Int) : fnVc (tabA [] []) Tryd.f11 [.i .i64 n] [] (plainIs (.i .i64 (flusherI n))) := by
  rw [v11_eq]
  simp only [flusherI, w64]; grind
theorem v12_eq (n : Int) : (fnVc (tabA [] []) Tryd.f12 [.i .i64 n] [] (plainIs (.i .i64 (flusherI n)))) = ((decide (n < 0) = true → 0 = flusherI n) ∧
  (decide (n < 0) = false → IntKind.i64.wrap (IntKind.i64.wrap (0 - n) - 1) = flusherI n)) := by kernel_rfl
theorem v12 (n : Int) : fnVc (tabA [] []) Tryd.f12 [.i .i64 n] [] (plainIs (.i .i64 (flusherI n))) := by
  rw [v12_eq]
  simp only [flusherI, w64]; grind
theorem v13_eq (n : Int) : (fnVc (tabA [] []) Tryd.f13 [.i .i64 n] [] (plainIs (.b (decide (n < 0))))) = (decide (n < 0) = decide (n < 0)) := by kernel_rfl
theorem v13 (n : Int) : fnVc (tabA [] []) Tryd.f13 [.i .i64 n] [] (plainIs (.b (decide (n < 0)))) := by
  rw [v13_eq]
  
theorem v14_eq (n : Int) : (fnVc (tabA [] []) Tryd.f14 [.i .i64 n] [] (plainIs (.b (decide (n < 0))))) = (decide (n < 0) = decide (n < 0)) := by kernel_rfl
theorem v14 (n : Int) : fnVc (tabA [] []) Tryd.f14 [.i .i64 n] [] (plainIs (.b (decide (n < 0)))) := by
  rw [v14_eq]
  
theorem v42_eq (n m : Int) : (fnVc (tabA [] []) Tryd.f42 [.i .i64 n, .i .i64 m] [] (plainIs (.b (within n m)))) = ((decide (n ≥ 0) && decide (n < m)) = within n m) := by kernel_rfl
theorem v42 (n m : Int) : fnVc (tabA [] []) Tryd.f42 [.i .i64 n, .i .i64 m] [] (plainIs (.b (within n m))) := by
  rw [v42_eq]
  rfl
theorem v40_eq (n : Int) : (fnVc (tabA [] []) Tryd.f40 [.i .i64 n] [] (plainIs (.b (isVal n)))) = ((decide (n ≥ -2147483648) && decide (n ≤ 2147483647)) = isVal n) := by kernel_rfl
theorem v40 (n : Int) : fnVc (tabA [] []) Tryd.f40 [.i .i64 n] [] (plainIs (.b (isVal n))) := by
  rw [v40_eq]
  rfl
theorem v39_eq (n : Int) : (fnVc (tabA [] []) Tryd.f39 [.i .i64 n] [] (plainIs (.b (ordK n)))) = ((n == 1 || n == 2 || n == 3 || n == 5 || n == 6 || n == 8) = ordK n) := by kernel_rfl
theorem v39 (n : Int) : fnVc (tabA [] []) Tryd.f39 [.i .i64 n] [] (plainIs (.b (ordK n))) := by
  rw [v39_eq]
  simp only [ordK]
theorem v43_eq (n : Int) : (fnVc (tabA [] []) Tryd.f43 [.i .i64 n] [] (plainIs (.b (readK n)))) = ((n == 1 || n == 8 || n == 5 || n == 6) = readK n) := by kernel_rfl
theorem v43 (n : Int) : fnVc (tabA [] []) Tryd.f43 [.i .i64 n] [] (plainIs (.b (readK n))) := by
  rw [v43_eq]
  simp only [readK]
theorem v41_eq (n : Int) : (fnVc (tabA [] []) Tryd.f41 [.i .i64 n] [] (plainIs (.b (wroteK n)))) = ((n == 2 || n == 3 || n == 4 || n == 5) = wroteK n) := by kernel_rfl
theorem v41 (n : Int) : fnVc (tabA [] []) Tryd.f41 [.i .i64 n] [] (plainIs (.b (wroteK n))) := by
  rw [v41_eq]
  simp only [wroteK]
theorem v36_eq (e : Ev) : (fnVc (tabG cT []) Tryd.f36 [evSV e] [tbl] (plainIs (.b (objE e)))) = (((e.k == 7) = true → (e.ob == 0) = objE e) ∧
  ((e.k == 7) = false →
    ((e.k == 9) = true → within e.ob 4 = objE e) ∧
      ((e.k == 9) = false →
        ((e.k == 10) = true → within e.ob 4 = objE e) ∧
          ((e.k == 10) = false →
            ((e.k == 11) = true → within e.ob 4 = objE e) ∧
              ((e.k == 11) = false →
                ((e.k == 12) = true → within e.ob 4 = objE e) ∧
                  ((e.k == 12) = false →
                    ((e.k == 13) = true → within e.ob 4 = objE e) ∧
                      ((e.k == 13) = false →
                        ((e.k == 14) = true → within e.ob 4 = objE e) ∧
                          ((e.k == 14) = false →
                            ((e.k == 15) = true → within e.ob 4 = objE e) ∧
                              ((e.k == 15) = false →
                                ((e.k == 16) = true → decide (e.ob ≥ 0) = objE e) ∧
                                  ((e.k == 16) = false →
                                    ((e.k == 17) = true → decide (e.ob ≥ 0) = objE e) ∧
                                      ((e.k == 17) = false → within e.ob 8 = objE e))))))))))) := by kernel_rfl
theorem v36 (e : Ev) : fnVc (tabG cT []) Tryd.f36 [evSV e] [tbl] (plainIs (.b (objE e))) := by
  rw [v36_eq]
  simp only [objE]; grind
theorem v37_eq (e : Ev) : (fnVc (tabG cT []) Tryd.f37 [evSV e] [tbl] (plainIs (.b (resE e)))) = (((e.k == 11) = true → within e.rd 2 = resE e) ∧
  ((e.k == 11) = false →
    ((e.k == 14) = true → within e.rd 2 = resE e) ∧
      ((e.k == 14) = false →
        ((e.k == 15) = true → decide (e.rd ≥ 0) = resE e) ∧
          ((e.k == 15) = false → (isVal e.rd && (readK e.k || e.rd == 0)) = resE e)))) := by kernel_rfl
theorem v37 (e : Ev) : fnVc (tabG cT []) Tryd.f37 [evSV e] [tbl] (plainIs (.b (resE e))) := by
  rw [v37_eq]
  simp only [resE]; grind
theorem v38_eq (e : Ev) : (fnVc (tabG cT []) Tryd.f38 [evSV e] [tbl] (plainIs (.b (entE e)))) = (((e.k == 1) = true → decide (e.en ≥ -1) = entE e) ∧
  ((e.k == 1) = false →
    ((e.k == 8) = true → decide (e.en ≥ -1) = entE e) ∧
      ((e.k == 8) = false →
        ((e.k == 3) = true → decide (e.en ≥ 0) = entE e) ∧
          ((e.k == 3) = false →
            ((e.k == 4) = true → decide (e.en ≥ 0) = entE e) ∧ ((e.k == 4) = false → (e.en == -1) = entE e))))) := by kernel_rfl
theorem v38 (e : Ev) : fnVc (tabG cT []) Tryd.f38 [evSV e] [tbl] (plainIs (.b (entE e))) := by
  rw [v38_eq]
  simp only [entE]; grind
end Go.Proofs.YtbhopcgbdofcjaaDoor
