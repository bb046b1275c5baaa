/-
  A part of the proof (Ev3).
-/
import Derived.Test.YtbhopcgbdofcjaaDoorEv2
namespace Go.Proofs.YtbhopcgbdofcjaaDoor
open Go Go.Proofs.YtbhopcgbdofcjaaDoor.Sx
set_option maxRecDepth 100000
set_option linter.unusedSimpArgs false
set_option linter.unusedVariables false
def cR : Calling := cT ++ [(36, fE1 (fun _ => True) fun e => .b (objE e)), (37, fE1 (fun _ => True) fun e => .b (resE e)), (38, fE1 (fun _ => True) fun e => .b (entE e))]
def cV : Calling := cT ++ [(17, fE1 (fun _ => True) fun e => .b (validE e)), (23, fE1 (fun _ => True) fun e => .b (validE e))]
theorem v23_eq (e : Ev) : (fnVc (tabG cR []) Tryd.f23 [evSV e] [tbl] (plainIs (.b (validE e)))) = (((decide (e.k < 1) || decide (e.k > 17) || !decide (e.ag < 0) == (e.k == 4) || decide (e.ix < 0)) = false →
    nth
        (app
          (app
            (app
              (app
                (app
                  (app
                    (app
                      (app
                        (app
                          (app
                            (app
                              (app
                                (app
                                  (app
                                    (app
                                      (app
                                        (app
                                          (app
                                            (app
                                              (app
                                                (app
                                                  (app
                                                    (app
                                                      (app
                                                        (app
                                                          (app [tbl]
                                                            [MBlk.cells
                                                                [SV.i IntKind.i64 e.ag, SV.i IntKind.i64 e.ix,
                                                                  SV.i IntKind.i64 e.k, SV.i IntKind.i64 e.ob,
                                                                  SV.i IntKind.i64 e.mu, SV.i IntKind.i64 e.en,
                                                                  SV.i IntKind.i64 e.od, SV.i IntKind.i64 e.rd,
                                                                  SV.i IntKind.i64 e.wr]])
                                                          [])
                                                        [])
                                                      [])
                                                    [])
                                                  [])
                                                [])
                                              [])
                                            [])
                                          [])
                                        [])
                                      [])
                                    [])
                                  [])
                                [])
                              [])
                            [])
                          [])
                        [])
                      [])
                    [])
                  [])
                [])
              [])
            [])
          [])
        0 =
      some tbl) ∧
  ((decide (e.k < 1) || decide (e.k > 17) || !decide (e.ag < 0) == (e.k == 4) || decide (e.ix < 0)) = false → True) ∧
    ((decide (e.k < 1) || decide (e.k > 17) || !decide (e.ag < 0) == (e.k == 4) || decide (e.ix < 0) ||
            !objE
                { ag := e.ag, ix := e.ix, k := e.k, ob := e.ob, mu := e.mu, en := e.en, od := e.od, rd := e.rd,
                  wr := e.wr }) =
          false →
        nth
            (app
              (app
                (app
                  (app
                    (app
                      (app
                        (app
                          (app
                            (app
                              (app
                                (app
                                  (app
                                    (app
                                      (app
                                        (app
                                          (app
                                            (app
                                              (app
                                                (app
                                                  (app
                                                    (app
                                                      (app
                                                        (app
                                                          (app
                                                            (app
                                                              (app
                                                                (app
                                                                  (app
                                                                    (app
                                                                      (app
                                                                        (app [tbl]
                                                                          [MBlk.cells
                                                                              [SV.i IntKind.i64 e.ag,
                                                                                SV.i IntKind.i64 e.ix,
                                                                                SV.i IntKind.i64 e.k,
                                                                                SV.i IntKind.i64 e.ob,
                                                                                SV.i IntKind.i64 e.mu,
                                                                                SV.i IntKind.i64 e.en,
                                                                                SV.i IntKind.i64 e.od,
                                                                                SV.i IntKind.i64 e.rd,
                                                                                SV.i IntKind.i64 e.wr]])
                                                                        [])
                                                                      [])
                                                                    [])
                                                                  [])
                                                                [])
                                                              [])
                                                            [])
                                                          [])
                                                        [])
                                                      [])
                                                    [])
                                                  [])
                                                [])
                                              [])
                                            [])
                                          [])
                                        [])
                                      [])
                                    [])
                                  [])
                                [])
                              [])
                            [])
                          [])
                        [])
                      [])
                    [])
                  [])
                [])
              [])
            0 =
          some tbl) ∧
      ((decide (e.k < 1) || decide (e.k > 17) || !decide (e.ag < 0) == (e.k == 4) || decide (e.ix < 0) ||
              !objE
                  { ag := e.ag, ix := e.ix, k := e.k, ob := e.ob, mu := e.mu, en := e.en, od := e.od, rd := e.rd,
                    wr := e.wr }) =
            false →
          True) ∧
        ((decide (e.k < 1) || decide (e.k > 17) || !decide (e.ag < 0) == (e.k == 4) || decide (e.ix < 0) ||
                  !objE
                      { ag := e.ag, ix := e.ix, k := e.k, ob := e.ob, mu := e.mu, en := e.en, od := e.od, rd := e.rd,
                        wr := e.wr } ||
                !resE
                    { ag := e.ag, ix := e.ix, k := e.k, ob := e.ob, mu := e.mu, en := e.en, od := e.od, rd := e.rd,
                      wr := e.wr }) =
              false →
            nth
                (app
                  (app
                    (app
                      (app
                        (app
                          (app
                            (app
                              (app
                                (app
                                  (app
                                    (app
                                      (app
                                        (app
                                          (app
                                            (app
                                              (app
                                                (app
                                                  (app
                                                    (app
                                                      (app
                                                        (app
                                                          (app
                                                            (app
                                                              (app
                                                                (app
                                                                  (app
                                                                    (app
                                                                      (app
                                                                        (app
                                                                          (app
                                                                            (app
                                                                              (app
                                                                                (app
                                                                                  (app
                                                                                    (app
                                                                                      (app [tbl]
                                                                                        [MBlk.cells
                                                                                            [SV.i IntKind.i64 e.ag,
                                                                                              SV.i IntKind.i64 e.ix,
                                                                                              SV.i IntKind.i64 e.k,
                                                                                              SV.i IntKind.i64 e.ob,
                                                                                              SV.i IntKind.i64 e.mu,
                                                                                              SV.i IntKind.i64 e.en,
                                                                                              SV.i IntKind.i64 e.od,
                                                                                              SV.i IntKind.i64 e.rd,
                                                                                              SV.i IntKind.i64 e.wr]])
                                                                                      [])
                                                                                    [])
                                                                                  [])
                                                                                [])
                                                                              [])
                                                                            [])
                                                                          [])
                                                                        [])
                                                                      [])
                                                                    [])
                                                                  [])
                                                                [])
                                                              [])
                                                            [])
                                                          [])
                                                        [])
                                                      [])
                                                    [])
                                                  [])
                                                [])
                                              [])
                                            [])
                                          [])
                                        [])
                                      [])
                                    [])
                                  [])
                                [])
                              [])
                            [])
                          [])
                        [])
                      [])
                    [])
                  [])
                0 =
              some tbl) ∧
          ((decide (e.k < 1) || decide (e.k > 17) || !decide (e.ag < 0) == (e.k == 4) || decide (e.ix < 0) ||
                    !objE
                        { ag := e.ag, ix := e.ix, k := e.k, ob := e.ob, mu := e.mu, en := e.en, od := e.od, rd := e.rd,
                          wr := e.wr } ||
                  !resE
                      { ag := e.ag, ix := e.ix, k := e.k, ob := e.ob, mu := e.mu, en := e.en, od := e.od, rd := e.rd,
                        wr := e.wr }) =
                false →
              True) ∧
            ((decide (e.k < 1) || decide (e.k > 17) || !decide (e.ag < 0) == (e.k == 4) || decide (e.ix < 0) ||
                        !objE
                            { ag := e.ag, ix := e.ix, k := e.k, ob := e.ob, mu := e.mu, en := e.en, od := e.od,
                              rd := e.rd, wr := e.wr } ||
                      !resE
                          { ag := e.ag, ix := e.ix, k := e.k, ob := e.ob, mu := e.mu, en := e.en, od := e.od,
                            rd := e.rd, wr := e.wr } ||
                    !entE
                        { ag := e.ag, ix := e.ix, k := e.k, ob := e.ob, mu := e.mu, en := e.en, od := e.od, rd := e.rd,
                          wr := e.wr }) =
                  true →
                false = validE e) ∧
              ((decide (e.k < 1) || decide (e.k > 17) || !decide (e.ag < 0) == (e.k == 4) || decide (e.ix < 0) ||
                        !objE
                            { ag := e.ag, ix := e.ix, k := e.k, ob := e.ob, mu := e.mu, en := e.en, od := e.od,
                              rd := e.rd, wr := e.wr } ||
                      !resE
                          { ag := e.ag, ix := e.ix, k := e.k, ob := e.ob, mu := e.mu, en := e.en, od := e.od,
                            rd := e.rd, wr := e.wr } ||
                    !entE
                        { ag := e.ag, ix := e.ix, k := e.k, ob := e.ob, mu := e.mu, en := e.en, od := e.od, rd := e.rd,
                          wr := e.wr }) =
                  false →
                ((decide (e.od < 0) || decide (e.od > 2) || !ordK e.k && e.od != 0 || !isVal e.wr ||
                        !wroteK e.k && e.wr != 0) =
                      true →
                    false = validE e) ∧
                  ((decide (e.od < 0) || decide (e.od > 2) || !ordK e.k && e.od != 0 || !isVal e.wr ||
                        !wroteK e.k && e.wr != 0) =
                      false →
                    ((e.k == 12) = true → within e.mu 4 = validE e) ∧ ((e.k == 12) = false → (e.mu == -1) = validE e)))) := by kernel_rfl
theorem v23 (e : Ev) : fnVc (tabG cR []) Tryd.f23 [evSV e] [tbl] (plainIs (.b (validE e))) := by
  rw [v23_eq]
  simp only [app, nth, List.cons_append, List.nil_append, List.append_nil, implies_true, true_and, and_true, if_true]
  obtain ⟨ag, ix, k, ob, mu, en, od, rd, wr⟩ := e
  simp only [validE] <;> grind
theorem v26_eq (e : Ev) : (fnVc (tabG cV []) Tryd.f26 [evSV e] [tbl] (plainIs (.b (readE e)))) = (nth
      (app
        (app
          (app [tbl]
            [MBlk.cells
                [SV.i IntKind.i64 e.ag, SV.i IntKind.i64 e.ix, SV.i IntKind.i64 e.k, SV.i IntKind.i64 e.ob,
                  SV.i IntKind.i64 e.mu, SV.i IntKind.i64 e.en, SV.i IntKind.i64 e.od, SV.i IntKind.i64 e.rd,
                  SV.i IntKind.i64 e.wr]])
          [])
        [])
      0 =
    some tbl ∧
  True ∧
    ((!validE
              { ag := e.ag, ix := e.ix, k := e.k, ob := e.ob, mu := e.mu, en := e.en, od := e.od, rd := e.rd,
                wr := e.wr }) =
          true →
        false = readE e) ∧
      ((!validE
              { ag := e.ag, ix := e.ix, k := e.k, ob := e.ob, mu := e.mu, en := e.en, od := e.od, rd := e.rd,
                wr := e.wr }) =
          false →
        ((e.k == 1) = true → true = readE e) ∧
          ((e.k == 1) = false →
            ((e.k == 8) = true → true = readE e) ∧
              ((e.k == 8) = false →
                ((e.k == 5) = true → true = readE e) ∧
                  ((e.k == 5) = false →
                    ((e.k == 6) = true → true = readE e) ∧ ((e.k == 6) = false → false = readE e)))))) := by kernel_rfl
theorem v26 (e : Ev) : fnVc (tabG cV []) Tryd.f26 [evSV e] [tbl] (plainIs (.b (readE e))) := by
  rw [v26_eq]
  simp only [app, nth, List.cons_append, List.nil_append, List.append_nil, implies_true, true_and, and_true, if_true]
  simp only [readE, readK] <;> grind
theorem v27_eq (e : Ev) : (fnVc (tabG cV []) Tryd.f27 [evSV e] [tbl] (plainIs (.b (readE e)))) = (nth
      (app
        (app
          (app [tbl]
            [MBlk.cells
                [SV.i IntKind.i64 e.ag, SV.i IntKind.i64 e.ix, SV.i IntKind.i64 e.k, SV.i IntKind.i64 e.ob,
                  SV.i IntKind.i64 e.mu, SV.i IntKind.i64 e.en, SV.i IntKind.i64 e.od, SV.i IntKind.i64 e.rd,
                  SV.i IntKind.i64 e.wr]])
          [])
        [])
      0 =
    some tbl ∧
  True ∧
    (validE
          { ag := e.ag, ix := e.ix, k := e.k, ob := e.ob, mu := e.mu, en := e.en, od := e.od, rd := e.rd,
            wr := e.wr } &&
        readK e.k) =
      readE e) := by kernel_rfl
theorem v27 (e : Ev) : fnVc (tabG cV []) Tryd.f27 [evSV e] [tbl] (plainIs (.b (readE e))) := by
  rw [v27_eq]
  simp only [app, nth, List.cons_append, List.nil_append, List.append_nil, implies_true, true_and, and_true, if_true]
  simp only [readE]
theorem v22_eq (e : Ev) : (fnVc (tabG cV []) Tryd.f22 [evSV e] [tbl] (plainIs (.b (writeE e)))) = (nth
      (app
        (app
          (app [tbl]
            [MBlk.cells
                [SV.i IntKind.i64 e.ag, SV.i IntKind.i64 e.ix, SV.i IntKind.i64 e.k, SV.i IntKind.i64 e.ob,
                  SV.i IntKind.i64 e.mu, SV.i IntKind.i64 e.en, SV.i IntKind.i64 e.od, SV.i IntKind.i64 e.rd,
                  SV.i IntKind.i64 e.wr]])
          [])
        [])
      0 =
    some tbl ∧
  True ∧
    ((!validE
              { ag := e.ag, ix := e.ix, k := e.k, ob := e.ob, mu := e.mu, en := e.en, od := e.od, rd := e.rd,
                wr := e.wr }) =
          true →
        false = writeE e) ∧
      ((!validE
              { ag := e.ag, ix := e.ix, k := e.k, ob := e.ob, mu := e.mu, en := e.en, od := e.od, rd := e.rd,
                wr := e.wr }) =
          false →
        ((e.k == 2) = true → true = writeE e) ∧
          ((e.k == 2) = false →
            ((e.k == 5) = true → true = writeE e) ∧
              ((e.k == 5) = false → ((e.k == 4) = true → true = writeE e) ∧ ((e.k == 4) = false → false = writeE e))))) := by kernel_rfl
theorem v22 (e : Ev) : fnVc (tabG cV []) Tryd.f22 [evSV e] [tbl] (plainIs (.b (writeE e))) := by
  rw [v22_eq]
  simp only [app, nth, List.cons_append, List.nil_append, List.append_nil, implies_true, true_and, and_true, if_true]
  simp only [writeE] <;> grind
theorem v28_eq (e : Ev) : (fnVc (tabG cV []) Tryd.f28 [evSV e] [tbl] (plainIs (.b (writeE e)))) = (nth
      (app
        (app
          (app [tbl]
            [MBlk.cells
                [SV.i IntKind.i64 e.ag, SV.i IntKind.i64 e.ix, SV.i IntKind.i64 e.k, SV.i IntKind.i64 e.ob,
                  SV.i IntKind.i64 e.mu, SV.i IntKind.i64 e.en, SV.i IntKind.i64 e.od, SV.i IntKind.i64 e.rd,
                  SV.i IntKind.i64 e.wr]])
          [])
        [])
      0 =
    some tbl ∧
  True ∧
    (validE
          { ag := e.ag, ix := e.ix, k := e.k, ob := e.ob, mu := e.mu, en := e.en, od := e.od, rd := e.rd,
            wr := e.wr } &&
        (e.k == 2 || e.k == 5 || e.k == 4)) =
      writeE e) := by kernel_rfl
theorem v28 (e : Ev) : fnVc (tabG cV []) Tryd.f28 [evSV e] [tbl] (plainIs (.b (writeE e))) := by
  rw [v28_eq]
  simp only [app, nth, List.cons_append, List.nil_append, List.append_nil, implies_true, true_and, and_true, if_true]
  simp only [writeE] <;> grind
theorem v29_eq (e d : Ev) : (fnVc (tabG cV []) Tryd.f29 [evSV e, evSV d] [tbl] (plainIs (.b (creE e d)))) = (((e.k != 16 && e.k != 17) = true → false = creE e d) ∧
  ((e.k != 16 && e.k != 17) = false → (e.ob == threadI d.ag || e.k == 16 && d.k == 17 && e.ob == d.ob) = creE e d)) := by kernel_rfl
theorem v29 (e d : Ev) : fnVc (tabG cV []) Tryd.f29 [evSV e, evSV d] [tbl] (plainIs (.b (creE e d))) := by
  rw [v29_eq]
  simp only [creE] <;> grind
theorem v32_eq (e d : Ev) : (fnVc (tabG cV []) Tryd.f32 [evSV e, evSV d] [tbl] (plainIs (.b (creE e d)))) = (((e.k != 16 && e.k != 17) = true → false = creE e d) ∧
  ((e.k != 16 && e.k != 17) = false → (e.ob == threadI d.ag || e.k == 16 && d.k == 17 && e.ob == d.ob) = creE e d)) := by kernel_rfl
theorem v32 (e d : Ev) : fnVc (tabG cV []) Tryd.f32 [evSV e, evSV d] [tbl] (plainIs (.b (creE e d))) := by
  rw [v32_eq]
  simp only [creE] <;> grind
theorem v30_eq (e d : Ev) : (fnVc (tabG cV []) Tryd.f30 [evSV e, evSV d] [tbl] (plainIs (.b (draE e d)))) = (((decide (e.ag < 0) || d.ag != flusherI e.ag) = true → false = draE e d) ∧
  ((decide (e.ag < 0) || d.ag != flusherI e.ag) = false →
    ((e.k == 1) = true → false = draE e d) ∧
      ((e.k == 1) = false →
        ((e.k == 2) = true → false = draE e d) ∧
          ((e.k == 2) = false →
            ((e.k == 3) = true → false = draE e d) ∧
              ((e.k == 3) = false → ((e.k == 8) = true → false = draE e d) ∧ ((e.k == 8) = false → true = draE e d)))))) := by kernel_rfl
theorem v30 (e d : Ev) : fnVc (tabG cV []) Tryd.f30 [evSV e, evSV d] [tbl] (plainIs (.b (draE e d))) := by
  rw [v30_eq]
  simp only [draE] <;> grind
theorem v33_eq (e d : Ev) : (fnVc (tabG cV []) Tryd.f33 [evSV e, evSV d] [tbl] (plainIs (.b (draR e d)))) = (((e.k == 1 || e.k == 2 || e.k == 3 || e.k == 4 || e.k == 8) = true → false = draR e d) ∧
  ((e.k == 1 || e.k == 2 || e.k == 3 || e.k == 4 || e.k == 8) = false →
    (decide (e.ag ≥ 0) && d.ag == flusherI e.ag) = draR e d)) := by kernel_rfl
theorem v33 (e d : Ev) : fnVc (tabG cV []) Tryd.f33 [evSV e, evSV d] [tbl] (plainIs (.b (draR e d))) := by
  rw [v33_eq]
  simp only [draR] <;> grind
end Go.Proofs.YtbhopcgbdofcjaaDoor
