/-
  A part of the proof (Ev7).
-/
import Derived.Test.YtbhopcgbdofcjaaDoorEv6
namespace Go.Proofs.YtbhopcgbdofcjaaDoor
open Go Go.Proofs.YtbhopcgbdofcjaaDoor.Sx
set_option maxRecDepth 100000
set_option linter.unusedSimpArgs false
set_option linter.unusedVariables false
def cC : Calling := cA ++ [(44, fIx fun n p => .b (decide (findI n p ≥ 0))), (21, fA (fun _ => True) accV), (25, fA (fun _ => True) accV)]
/-- Access number j of l with the mark w against the accesses of m. -/
def hitW (l m : List Ac) (i : Nat) (w : Bool) : Bool := (cW l i || w) && decide (findI m.length (eqA (cK m) (cI m) (cS m) (cW m) (cK l i) (cI l i) (cS l i) w) ≥ 0)
def lC0 (l m : List Ac) : LAnn := { X := Nat, inv := fun i => i ≤ l.length ∧ ∀ i', i' < i → hitW l m i' false = false ∧ hitW l m i' true = false, slots := fun i => [(16, .i .i64 i)], mem := fun _ => [], mu := fun i => l.length - i }
def lC2 (l m : List Ac) : PLoop := { Y := Nat, ann := fun i => { X := Nat, inv := fun j => j ≤ 2 ∧ (0 < j → hitW l m i false = false) ∧ (1 < j → hitW l m i true = false), slots := fun j => [(22, .i .i64 j)], mem := fun _ => [], mu := fun j => 2 - j } }
def hitR (l m : List Ac) (i j : Nat) : Bool := cK l i == cK m j && cI l i == cI m j && cS l i == cS m j && (cW l i || cW m j)
def lR0 (l m : List Ac) : LAnn := { X := Nat, inv := fun i => i ≤ l.length ∧ ∀ i', i' < i → ∀ j, j < m.length → hitR l m i' j = false, slots := fun i => [(7, .i .i64 i), (8, .dead)], mem := fun _ => [], mu := fun i => l.length - i }
def lR2 (l m : List Ac) : PLoop := { Y := Nat, ann := fun i => { X := Nat, inv := fun k => k ≤ m.length ∧ (∀ j, j < k → hitR l m i j = false), slots := fun k => [(8, .i .i64 k)], mem := fun _ => [], mu := fun k => m.length - k } }
def cD : Calling := cV ++ [(29, fE2 (fun _ _ => True) fun e d => .b (creE e d)), (32, fE2 (fun _ _ => True) fun e d => .b (creE e d)), (30, fE2 (fun _ _ => True) fun e d => .b (draE e d)), (33, fE2 (fun _ _ => True) fun e d => .b (draR e d)),
  (31, fE2 (fun e d => validE e = true ∧ validE d = true) fun e d => .b (conf (acc e) (acc d))), (34, fE2 (fun e d => validE e = true ∧ validE d = true) fun e d => .b (conf (acc e) (acc d)))]
theorem acc_len (e : Ev) : (acc e).length ≤ 2 := by
  unfold acc
  cases (e.k == 1 || e.k == 8) <;> simp only [cond_true, cond_false]
  · cases e.k == 6 <;> simp only [cond_true, cond_false]
    · cases e.k == 2 || e.k == 5 <;> simp only [cond_true, cond_false]
      · cases e.k == 3 <;> simp only [cond_true, cond_false]
        · cases e.k == 4 <;> simp only [cond_true, cond_false]
          · cases e.k == 9 || e.k == 10 || e.k == 11 <;> simp only [cond_true, cond_false]
            · cases e.k == 12 <;> simp only [cond_true, cond_false]
              · cases e.k == 13 || e.k == 14 || e.k == 15 <;> simp
              · simp
            · simp
          · simp
        · simp
      · simp
    · simp
  · cases decide (e.en ≥ 0) <;> simp
theorem accV_len (e : Ev) : (accV e).length ≤ 2 := by
  unfold accV
  cases validE e
  · simp
  · exact acc_len e
theorem nthA_get : ∀ (l : List Ac) (i : Nat) (h : i < l.length), nthA l i = l[i] := by
  intro l
  induction l with
  | nil => intro i h; simp at h
  | cons x r ih =>
    intro i h
    cases i with
    | zero => rfl
    | succ i => exact ih i (by simpa using h)
theorem conf_iff {l m : List Ac} : conf l m = true ↔ ∃ i, i < l.length ∧ ∃ j, j < m.length ∧ hit (nthA l i) (nthA m j) = true := by
  unfold conf
  simp only [List.any_eq_true]
  constructor
  · rintro ⟨x, hx, y, hy, h⟩
    obtain ⟨i, hi, rfl⟩ := List.getElem_of_mem hx
    obtain ⟨j, hj, rfl⟩ := List.getElem_of_mem hy
    exact ⟨i, hi, j, hj, by rw [nthA_get l i hi, nthA_get m j hj]; exact h⟩
  · rintro ⟨i, hi, j, hj, h⟩
    rw [nthA_get l i hi, nthA_get m j hj] at h
    exact ⟨_, List.getElem_mem hi, _, List.getElem_mem hj, h⟩
theorem findI_iff {n : Nat} {p : Nat → Bool} : decide (findI n p ≥ 0) = true ↔ ∃ j, j < n ∧ p j = true := by
  constructor
  · intro h
    refine Classical.byContradiction fun hn => ?_
    have : findI n p = -1 := findF_none n 0 fun i _ hi => Bool.eq_false_iff.2 fun hp => hn ⟨i, by omega, hp⟩
    rw [this] at h
    simp at h
  · rintro ⟨j, hj, hp⟩
    -- the first one
    have : ∀ (f s : Nat), s ≤ j → j < s + f → findF p f s ≥ 0 := by
      intro f
      induction f with
      | zero => intro s h1 h2; omega
      | succ f ih =>
        intro s h1 h2
        simp only [findF]
        cases hps : p s
        · rw [cond_false]
          refine ih (s + 1) ?_ (by omega)
          refine Classical.byContradiction fun hn => ?_
          have : s = j := by omega
          rw [this, hp] at hps
          cases hps
        · rw [cond_true]; omega
    have h0 := this n 0 (by omega) (by omega)
    exact decide_eq_true h0
theorem hitW_conf {l m : List Ac} {i : Nat} {w : Bool} (hi : i < l.length) (h : hitW l m i w = true) : conf l m = true := by
  simp only [hitW, Bool.and_eq_true, findI_iff] at h
  obtain ⟨h1, j, hj, h2⟩ := h
  refine conf_iff.2 ⟨i, hi, j, hj, ?_⟩
  simp only [eqA, Bool.and_eq_true, beq_iff_eq] at h2
  obtain ⟨e1, e2, e3, e4⟩ := h2
  simp only [hit, Bool.and_eq_true, beq_iff_eq, Bool.or_eq_true]
  refine ⟨⟨⟨e1, e2⟩, e3⟩, ?_⟩
  rw [e4] at h1
  simpa [cW] using h1
theorem hitW_none {l m : List Ac} (h : ∀ i, i < l.length → hitW l m i false = false ∧ hitW l m i true = false) : conf l m = false := by
  refine Bool.eq_false_iff.2 fun hc => ?_
  obtain ⟨i, hi, j, hj, hh⟩ := conf_iff.1 hc
  simp only [hit, Bool.and_eq_true, beq_iff_eq, Bool.or_eq_true] at hh
  obtain ⟨⟨⟨e1, e2⟩, e3⟩, e4⟩ := hh
  have : hitW l m i (nthA m j).w = true := by
    simp only [hitW, Bool.and_eq_true, findI_iff]
    refine ⟨by simp only [cW, Bool.or_eq_true]; exact e4, j, hj, ?_⟩
    simp only [eqA, Bool.and_eq_true, beq_iff_eq]
    exact ⟨e1, e2, e3, rfl⟩
  cases hw : (nthA m j).w
  · rw [hw, (h i hi).1] at this; cases this
  · rw [hw, (h i hi).2] at this; cases this
theorem hitR_conf {l m : List Ac} {i j : Nat} (hi : i < l.length) (hj : j < m.length) (h : hitR l m i j = true) : conf l m = true := conf_iff.2 ⟨i, hi, j, hj, h⟩
theorem hitR_none {l m : List Ac} (h : ∀ i, i < l.length → ∀ j, j < m.length → hitR l m i j = false) : conf l m = false := by
  refine Bool.eq_false_iff.2 fun hc => ?_
  obtain ⟨i, hi, j, hj, hh⟩ := conf_iff.1 hc
  have := h i hi j hj
  rw [show hitR l m i j = hit (nthA l i) (nthA m j) from rfl, hh] at this
  cases this
theorem v31_eq (e d : Ev) : (fnVc (tabG cC [(0, .of (lC0 (acc e) (acc d))), (2, lC2 (acc e) (acc d))]) Tryd.f31 [evSV e, evSV d] [tbl] (plainIs (.b (conf (acc e) (acc d))))) = (some tbl = some tbl ∧
  validE d = true ∧
    some tbl = some tbl ∧
      validE e = true ∧
        ∃ (x : PUnit),
          (∃ (x : Nat),
              (x ≤ (acc e).length ∧
                  ∀ (i' : Nat), i' < x → hitW (acc e) (acc d) i' false = false ∧ hitW (acc e) (acc d) i' true = false) ∧
                (0 = (↑x : Int) ∧ True) ∧ True) ∧
            ∀ (x_1 : Nat),
              (x_1 ≤ (acc e).length ∧
                  ∀ (i' : Nat),
                    i' < x_1 → hitW (acc e) (acc d) i' false = false ∧ hitW (acc e) (acc d) i' true = false) →
                (decide ((↑x_1 : Int) < (↑(acc e).length : Int)) = true →
                    (0 ≤ (↑x_1 : Int) ∧ (↑x_1 : Int) < (↑(acc e).length : Int)) ∧
                      x_1 < (acc e).length ∧
                        ∃ (x_2 : Nat),
                          (∃ (x : Nat),
                              (x ≤ 2 ∧
                                  (0 < x → hitW (acc e) (acc d) x_2 false = false) ∧
                                    (1 < x → hitW (acc e) (acc d) x_2 true = false)) ∧
                                (0 = (↑x : Int) ∧ True) ∧ True) ∧
                            ∀ (x_3 : Nat),
                              x_3 ≤ 2 ∧
                                  (0 < x_3 → hitW (acc e) (acc d) x_2 false = false) ∧
                                    (1 < x_3 → hitW (acc e) (acc d) x_2 true = false) →
                                (decide ((↑x_3 : Int) < (↑2 : Int)) = true →
                                    (0 ≤ (↑x_3 : Int) ∧ (↑x_3 : Int) < (↑2 : Int)) ∧
                                      x_3 < 2 ∧
                                        ((cW (acc e) x_1 || pickB [false, true] x_3) = true →
                                            (acc d).length = (acc d).length) ∧
                                          ((cW (acc e) x_1 || pickB [false, true] x_3) = true →
                                              (acc d).length ≤ 9223372036854775807) ∧
                                            (((cW (acc e) x_1 || pickB [false, true] x_3) &&
                                                    decide
                                                      (findI (acc d).length
                                                          (eqA (cK (acc d)) (cI (acc d)) (cS (acc d)) (cW (acc d))
                                                            (cK (acc e) x_1) (cI (acc e) x_1) (cS (acc e) x_1)
                                                            (pickB [false, true] x_3)) ≥
                                                        0)) =
                                                  true →
                                                true = conf (acc e) (acc d)) ∧
                                              (((cW (acc e) x_1 || pickB [false, true] x_3) &&
                                                    decide
                                                      (findI (acc d).length
                                                          (eqA (cK (acc d)) (cI (acc d)) (cS (acc d)) (cW (acc d))
                                                            (cK (acc e) x_1) (cI (acc e) x_1) (cS (acc e) x_1)
                                                            (pickB [false, true] x_3)) ≥
                                                        0)) =
                                                  false →
                                                ∃ (x : Nat),
                                                  (x ≤ 2 ∧
                                                      (0 < x → hitW (acc e) (acc d) x_2 false = false) ∧
                                                        (1 < x → hitW (acc e) (acc d) x_2 true = false)) ∧
                                                    ((lC2 (acc e) (acc d)).ann x_2).mu x <
                                                        ((lC2 (acc e) (acc d)).ann x_2).mu x_3 ∧
                                                      ((e.ag = e.ag ∧
                                                            e.ix = e.ix ∧
                                                              e.k = e.k ∧
                                                                e.ob = e.ob ∧
                                                                  e.mu = e.mu ∧
                                                                    e.en = e.en ∧
                                                                      e.od = e.od ∧ e.rd = e.rd ∧ e.wr = e.wr) ∧
                                                          (d.ag = d.ag ∧
                                                              d.ix = d.ix ∧
                                                                d.k = d.k ∧
                                                                  d.ob = d.ob ∧
                                                                    d.mu = d.mu ∧
                                                                      d.en = d.en ∧
                                                                        d.od = d.od ∧ d.rd = d.rd ∧ d.wr = d.wr) ∧
                                                            True ∧
                                                              True ∧
                                                                (acc d).length = (acc d).length ∧
                                                                  True ∧
                                                                    (d.ag = d.ag ∧
                                                                        d.ix = d.ix ∧
                                                                          d.k = d.k ∧
                                                                            d.ob = d.ob ∧
                                                                              d.mu = d.mu ∧
                                                                                d.en = d.en ∧
                                                                                  d.od = d.od ∧
                                                                                    d.rd = d.rd ∧ d.wr = d.wr) ∧
                                                                      (acc d).length = (acc d).length ∧
                                                                        (e.ag = e.ag ∧
                                                                            e.ix = e.ix ∧
                                                                              e.k = e.k ∧
                                                                                e.ob = e.ob ∧
                                                                                  e.mu = e.mu ∧
                                                                                    e.en = e.en ∧
                                                                                      e.od = e.od ∧
                                                                                        e.rd = e.rd ∧ e.wr = e.wr) ∧
                                                                          (acc e).length = (acc e).length ∧
                                                                            (↑(acc e).length : Int) =
                                                                                (↑(acc e).length : Int) ∧
                                                                              (↑x_1 : Int) = (↑x_1 : Int) ∧
                                                                                true = true ∧
                                                                                  x_1 = x_1 ∧
                                                                                    (cK (acc e) x_1 = cK (acc e) x_1 ∧
                                                                                        cI (acc e) x_1 =
                                                                                            cI (acc e) x_1 ∧
                                                                                          cS (acc e) x_1 =
                                                                                              cS (acc e) x_1 ∧
                                                                                            cW (acc e) x_1 =
                                                                                              cW (acc e) x_1) ∧
                                                                                      2 = 2 ∧
                                                                                        (↑2 : Int) = (↑2 : Int) ∧
                                                                                          IntKind.i64.wrap
                                                                                                ((↑x_3 : Int) + 1) =
                                                                                              (↑x : Int) ∧
                                                                                            True) ∧
                                                        (17 = 17 ∧
                                                            (∀ (j : Nat), j < 17 → pickI tMostL j = pickI tMostL j) ∧
                                                              (∀ (j : Nat), j < 17 → pickB tOrdL j = pickB tOrdL j) ∧
                                                                (∀ (j : Nat), j < 17 → pickI tLowL j = pickI tLowL j) ∧
                                                                  (∀ (j : Nat),
                                                                      j < 17 → pickI tHighL j = pickI tHighL j) ∧
                                                                    (∀ (j : Nat),
                                                                        j < 17 → pickB tWroteL j = pickB tWroteL j) ∧
                                                                      (∀ (j : Nat),
                                                                          j < 17 → pickI tLeastL j = pickI tLeastL j) ∧
                                                                        (∀ (j : Nat),
                                                                            j < 17 → pickI tAccL j = pickI tAccL j) ∧
                                                                          (∀ (j : Nat),
                                                                              j < 17 →
                                                                                pickB tWriteL j = pickB tWriteL j) ∧
                                                                            True) ∧
                                                          (e.ag = e.ag ∧
                                                              e.ix = e.ix ∧
                                                                e.k = e.k ∧
                                                                  e.ob = e.ob ∧
                                                                    e.mu = e.mu ∧
                                                                      e.en = e.en ∧
                                                                        e.od = e.od ∧ e.rd = e.rd ∧ e.wr = e.wr) ∧
                                                            (d.ag = d.ag ∧
                                                                d.ix = d.ix ∧
                                                                  d.k = d.k ∧
                                                                    d.ob = d.ob ∧
                                                                      d.mu = d.mu ∧
                                                                        d.en = d.en ∧
                                                                          d.od = d.od ∧ d.rd = d.rd ∧ d.wr = d.wr) ∧
                                                              ((acc d).length = (acc d).length ∧
                                                                  (∀ (j : Nat),
                                                                      j < (acc d).length →
                                                                        cK (acc d) j = cK (acc d) j) ∧
                                                                    (∀ (j : Nat),
                                                                        j < (acc d).length →
                                                                          cI (acc d) j = cI (acc d) j) ∧
                                                                      (∀ (j : Nat),
                                                                          j < (acc d).length →
                                                                            cS (acc d) j = cS (acc d) j) ∧
                                                                        (∀ (j : Nat),
                                                                            j < (acc d).length →
                                                                              cW (acc d) j = cW (acc d) j) ∧
                                                                          True) ∧
                                                                ((acc e).length = (acc e).length ∧
                                                                    (∀ (j : Nat),
                                                                        j < (acc e).length →
                                                                          cK (acc e) j = cK (acc e) j) ∧
                                                                      (∀ (j : Nat),
                                                                          j < (acc e).length →
                                                                            cI (acc e) j = cI (acc e) j) ∧
                                                                        (∀ (j : Nat),
                                                                            j < (acc e).length →
                                                                              cS (acc e) j = cS (acc e) j) ∧
                                                                          (∀ (j : Nat),
                                                                              j < (acc e).length →
                                                                                cW (acc e) j = cW (acc e) j) ∧
                                                                            True) ∧
                                                                  (cK (acc e) x_1 = cK (acc e) x_1 ∧
                                                                      cI (acc e) x_1 = cI (acc e) x_1 ∧
                                                                        cS (acc e) x_1 = cS (acc e) x_1 ∧
                                                                          cW (acc e) x_1 = cW (acc e) x_1) ∧
                                                                    (2 = 2 ∧
                                                                        (∀ (j : Nat),
                                                                            j < 2 →
                                                                              pickB [false, true] j =
                                                                                pickB [false, true] j) ∧
                                                                          True) ∧
                                                                      True)) ∧
                                  (decide ((↑x_3 : Int) < (↑2 : Int)) = false →
                                    ∃ (x_4 : Nat),
                                      (x_4 ≤ (acc e).length ∧
                                          ∀ (i' : Nat),
                                            i' < x_4 →
                                              hitW (acc e) (acc d) i' false = false ∧
                                                hitW (acc e) (acc d) i' true = false) ∧
                                        ((PLoop.of (lC0 (acc e) (acc d))).ann x).mu x_4 <
                                            ((PLoop.of (lC0 (acc e) (acc d))).ann x).mu x_1 ∧
                                          ((e.ag = e.ag ∧
                                                e.ix = e.ix ∧
                                                  e.k = e.k ∧
                                                    e.ob = e.ob ∧
                                                      e.mu = e.mu ∧
                                                        e.en = e.en ∧ e.od = e.od ∧ e.rd = e.rd ∧ e.wr = e.wr) ∧
                                              (d.ag = d.ag ∧
                                                  d.ix = d.ix ∧
                                                    d.k = d.k ∧
                                                      d.ob = d.ob ∧
                                                        d.mu = d.mu ∧
                                                          d.en = d.en ∧ d.od = d.od ∧ d.rd = d.rd ∧ d.wr = d.wr) ∧
                                                True ∧
                                                  True ∧
                                                    (acc d).length = (acc d).length ∧
                                                      (d.ag = d.ag ∧
                                                          d.ix = d.ix ∧
                                                            d.k = d.k ∧
                                                              d.ob = d.ob ∧
                                                                d.mu = d.mu ∧
                                                                  d.en = d.en ∧
                                                                    d.od = d.od ∧ d.rd = d.rd ∧ d.wr = d.wr) ∧
                                                        (acc d).length = (acc d).length ∧
                                                          (e.ag = e.ag ∧
                                                              e.ix = e.ix ∧
                                                                e.k = e.k ∧
                                                                  e.ob = e.ob ∧
                                                                    e.mu = e.mu ∧
                                                                      e.en = e.en ∧
                                                                        e.od = e.od ∧ e.rd = e.rd ∧ e.wr = e.wr) ∧
                                                            (acc e).length = (acc e).length ∧
                                                              (↑(acc e).length : Int) = (↑(acc e).length : Int) ∧
                                                                IntKind.i64.wrap ((↑x_1 : Int) + 1) = (↑x_4 : Int) ∧
                                                                  True) ∧
                                            (17 = 17 ∧
                                                (∀ (j : Nat), j < 17 → pickI tMostL j = pickI tMostL j) ∧
                                                  (∀ (j : Nat), j < 17 → pickB tOrdL j = pickB tOrdL j) ∧
                                                    (∀ (j : Nat), j < 17 → pickI tLowL j = pickI tLowL j) ∧
                                                      (∀ (j : Nat), j < 17 → pickI tHighL j = pickI tHighL j) ∧
                                                        (∀ (j : Nat), j < 17 → pickB tWroteL j = pickB tWroteL j) ∧
                                                          (∀ (j : Nat), j < 17 → pickI tLeastL j = pickI tLeastL j) ∧
                                                            (∀ (j : Nat), j < 17 → pickI tAccL j = pickI tAccL j) ∧
                                                              (∀ (j : Nat),
                                                                  j < 17 → pickB tWriteL j = pickB tWriteL j) ∧
                                                                True) ∧
                                              (e.ag = e.ag ∧
                                                  e.ix = e.ix ∧
                                                    e.k = e.k ∧
                                                      e.ob = e.ob ∧
                                                        e.mu = e.mu ∧
                                                          e.en = e.en ∧ e.od = e.od ∧ e.rd = e.rd ∧ e.wr = e.wr) ∧
                                                (d.ag = d.ag ∧
                                                    d.ix = d.ix ∧
                                                      d.k = d.k ∧
                                                        d.ob = d.ob ∧
                                                          d.mu = d.mu ∧
                                                            d.en = d.en ∧ d.od = d.od ∧ d.rd = d.rd ∧ d.wr = d.wr) ∧
                                                  ((acc d).length = (acc d).length ∧
                                                      (∀ (j : Nat), j < (acc d).length → cK (acc d) j = cK (acc d) j) ∧
                                                        (∀ (j : Nat),
                                                            j < (acc d).length → cI (acc d) j = cI (acc d) j) ∧
                                                          (∀ (j : Nat),
                                                              j < (acc d).length → cS (acc d) j = cS (acc d) j) ∧
                                                            (∀ (j : Nat),
                                                                j < (acc d).length → cW (acc d) j = cW (acc d) j) ∧
                                                              True) ∧
                                                    ((acc e).length = (acc e).length ∧
                                                        (∀ (j : Nat),
                                                            j < (acc e).length → cK (acc e) j = cK (acc e) j) ∧
                                                          (∀ (j : Nat),
                                                              j < (acc e).length → cI (acc e) j = cI (acc e) j) ∧
                                                            (∀ (j : Nat),
                                                                j < (acc e).length → cS (acc e) j = cS (acc e) j) ∧
                                                              (∀ (j : Nat),
                                                                  j < (acc e).length → cW (acc e) j = cW (acc e) j) ∧
                                                                True) ∧
                                                      True)) ∧
                  (decide ((↑x_1 : Int) < (↑(acc e).length : Int)) = false → false = conf (acc e) (acc d))) := by kernel_rfl
theorem v31 (e d : Ev) (he : validE e = true) (hd : validE d = true) : fnVc (tabG cC [(0, .of (lC0 (acc e) (acc d))), (2, lC2 (acc e) (acc d))]) Tryd.f31 [evSV e, evSV d] [tbl] (plainIs (.b (conf (acc e) (acc d)))) := by
  rw [v31_eq]
  have hl1 := acc_len e
  have hl2 := acc_len d
  refine ⟨rfl, hd, rfl, he, (), ⟨0, ⟨by omega, fun i hi => by omega⟩, ⟨rfl, trivial⟩, trivial⟩, fun x hx => ⟨fun hlt => ?_, fun hlt => ?_⟩⟩
  · have hlt : x < (acc e).length := by simpa using hlt
    refine ⟨by omega, hlt, x, ⟨0, ⟨by omega, fun h => by omega, fun h => by omega⟩, ⟨rfl, trivial⟩, trivial⟩, fun j hp => ⟨fun hj => ?_, fun hj => ?_⟩⟩
    · obtain ⟨h2, h4, h5⟩ := hp
      have hj : j < 2 := by simp at hj; omega
      refine ⟨by simp; omega, hj, fun _ => rfl, fun _ => by omega, fun hh => (hitW_conf (w := pickB [false, true] j) hlt hh).symm, fun hh => ?_⟩
      have hh : hitW (acc e) (acc d) x (pickB [false, true] j) = false := hh
      refine ⟨j + 1, ⟨by omega, fun _ => ?_, fun hj1 => ?_⟩, by simp only [lC2]; omega, ?_⟩
      · by_cases e0 : j = 0
        · subst e0; exact hh
        · exact h4 (by omega)
      · have e1 : j = 1 := by omega
        subst e1; exact hh
      · have hw : IntKind.i64.wrap ((j : Int) + 1) = ((j + 1 : Nat) : Int) := wrS (n := 2) hj (by omega)
        simp [hw]
    · obtain ⟨h2, h4, h5⟩ := hp
      have hj : 2 ≤ j := by simp at hj; omega
      refine ⟨x + 1, ⟨by omega, fun i' hi' => ?_⟩, by simp only [PLoop.of, lC0]; omega, ?_⟩
      · by_cases e0 : i' = x
        · subst e0; exact ⟨h4 (by omega), h5 (by omega)⟩
        · exact hx.2 i' (by omega)
      · have hw : IntKind.i64.wrap ((x : Int) + 1) = ((x + 1 : Nat) : Int) := wrS (n := 2) (by omega) (by omega)
        simp [hw]
  · have hlt : ¬ x < (acc e).length := by simpa using hlt
    rw [hitW_none fun i hi => hx.2 i (by omega)]
theorem v34_eq (e d : Ev) : (fnVc (tabG cC [(0, .of (lR0 (accV e) (accV d))), (2, lR2 (accV e) (accV d))]) Tryd.f34 [evSV e, evSV d] [tbl] (plainIs (.b (conf (accV e) (accV d))))) = (some tbl = some tbl ∧
  True ∧
    some tbl = some tbl ∧
      True ∧
        ∃ (x : PUnit),
          (∃ (x : Nat),
              (x ≤ (accV e).length ∧
                  ∀ (i' : Nat), i' < x → ∀ (j : Nat), j < (accV d).length → hitR (accV e) (accV d) i' j = false) ∧
                (0 = (↑x : Int) ∧ True ∧ True) ∧ True) ∧
            ∀ (x_1 : Nat),
              (x_1 ≤ (accV e).length ∧
                  ∀ (i' : Nat), i' < x_1 → ∀ (j : Nat), j < (accV d).length → hitR (accV e) (accV d) i' j = false) →
                (decide ((↑x_1 : Int) < (↑(accV e).length : Int)) = true →
                    ∃ (x_2 : Nat),
                      (∃ (x : Nat),
                          (x ≤ (accV d).length ∧ ∀ (j : Nat), j < x → hitR (accV e) (accV d) x_2 j = false) ∧
                            (0 = (↑x : Int) ∧ True) ∧ True) ∧
                        ∀ (x_3 : Nat),
                          (x_3 ≤ (accV d).length ∧ ∀ (j : Nat), j < x_3 → hitR (accV e) (accV d) x_2 j = false) →
                            (decide ((↑x_3 : Int) < (↑(accV d).length : Int)) = true →
                                (0 ≤ (↑x_1 : Int) ∧ (↑x_1 : Int) < (↑(accV e).length : Int)) ∧
                                  x_1 < (accV e).length ∧
                                    (0 ≤ (↑x_3 : Int) ∧ (↑x_3 : Int) < (↑(accV d).length : Int)) ∧
                                      x_3 < (accV d).length ∧
                                        ((cK (accV e) x_1 == cK (accV d) x_3) = true →
                                            0 ≤ (↑x_1 : Int) ∧ (↑x_1 : Int) < (↑(accV e).length : Int)) ∧
                                          ((cK (accV e) x_1 == cK (accV d) x_3) = true → x_1 < (accV e).length) ∧
                                            ((cK (accV e) x_1 == cK (accV d) x_3) = true →
                                                0 ≤ (↑x_3 : Int) ∧ (↑x_3 : Int) < (↑(accV d).length : Int)) ∧
                                              ((cK (accV e) x_1 == cK (accV d) x_3) = true → x_3 < (accV d).length) ∧
                                                ((cK (accV e) x_1 == cK (accV d) x_3 &&
                                                        cI (accV e) x_1 == cI (accV d) x_3) =
                                                      true →
                                                    0 ≤ (↑x_1 : Int) ∧ (↑x_1 : Int) < (↑(accV e).length : Int)) ∧
                                                  ((cK (accV e) x_1 == cK (accV d) x_3 &&
                                                          cI (accV e) x_1 == cI (accV d) x_3) =
                                                        true →
                                                      x_1 < (accV e).length) ∧
                                                    ((cK (accV e) x_1 == cK (accV d) x_3 &&
                                                            cI (accV e) x_1 == cI (accV d) x_3) =
                                                          true →
                                                        0 ≤ (↑x_3 : Int) ∧ (↑x_3 : Int) < (↑(accV d).length : Int)) ∧
                                                      ((cK (accV e) x_1 == cK (accV d) x_3 &&
                                                              cI (accV e) x_1 == cI (accV d) x_3) =
                                                            true →
                                                          x_3 < (accV d).length) ∧
                                                        ((cK (accV e) x_1 == cK (accV d) x_3 &&
                                                                  cI (accV e) x_1 == cI (accV d) x_3 &&
                                                                cS (accV e) x_1 == cS (accV d) x_3) =
                                                              true →
                                                            0 ≤ (↑x_1 : Int) ∧
                                                              (↑x_1 : Int) < (↑(accV e).length : Int)) ∧
                                                          ((cK (accV e) x_1 == cK (accV d) x_3 &&
                                                                    cI (accV e) x_1 == cI (accV d) x_3 &&
                                                                  cS (accV e) x_1 == cS (accV d) x_3) =
                                                                true →
                                                              x_1 < (accV e).length) ∧
                                                            (cW (accV e) x_1 = false →
                                                                (cK (accV e) x_1 == cK (accV d) x_3 &&
                                                                        cI (accV e) x_1 == cI (accV d) x_3 &&
                                                                      cS (accV e) x_1 == cS (accV d) x_3) =
                                                                    true →
                                                                  0 ≤ (↑x_3 : Int) ∧
                                                                    (↑x_3 : Int) < (↑(accV d).length : Int)) ∧
                                                              (cW (accV e) x_1 = false →
                                                                  (cK (accV e) x_1 == cK (accV d) x_3 &&
                                                                          cI (accV e) x_1 == cI (accV d) x_3 &&
                                                                        cS (accV e) x_1 == cS (accV d) x_3) =
                                                                      true →
                                                                    x_3 < (accV d).length) ∧
                                                                ((cK (accV e) x_1 == cK (accV d) x_3 &&
                                                                            cI (accV e) x_1 == cI (accV d) x_3 &&
                                                                          cS (accV e) x_1 == cS (accV d) x_3 &&
                                                                        (cW (accV e) x_1 || cW (accV d) x_3)) =
                                                                      true →
                                                                    true = conf (accV e) (accV d)) ∧
                                                                  ((cK (accV e) x_1 == cK (accV d) x_3 &&
                                                                            cI (accV e) x_1 == cI (accV d) x_3 &&
                                                                          cS (accV e) x_1 == cS (accV d) x_3 &&
                                                                        (cW (accV e) x_1 || cW (accV d) x_3)) =
                                                                      false →
                                                                    ∃ (x : Nat),
                                                                      (x ≤ (accV d).length ∧
                                                                          ∀ (j : Nat),
                                                                            j < x →
                                                                              hitR (accV e) (accV d) x_2 j = false) ∧
                                                                        ((lR2 (accV e) (accV d)).ann x_2).mu x <
                                                                            ((lR2 (accV e) (accV d)).ann x_2).mu x_3 ∧
                                                                          ((e.ag = e.ag ∧
                                                                                e.ix = e.ix ∧
                                                                                  e.k = e.k ∧
                                                                                    e.ob = e.ob ∧
                                                                                      e.mu = e.mu ∧
                                                                                        e.en = e.en ∧
                                                                                          e.od = e.od ∧
                                                                                            e.rd = e.rd ∧ e.wr = e.wr) ∧
                                                                              (d.ag = d.ag ∧
                                                                                  d.ix = d.ix ∧
                                                                                    d.k = d.k ∧
                                                                                      d.ob = d.ob ∧
                                                                                        d.mu = d.mu ∧
                                                                                          d.en = d.en ∧
                                                                                            d.od = d.od ∧
                                                                                              d.rd = d.rd ∧
                                                                                                d.wr = d.wr) ∧
                                                                                True ∧
                                                                                  True ∧
                                                                                    (accV e).length = (accV e).length ∧
                                                                                      (accV d).length =
                                                                                          (accV d).length ∧
                                                                                        (↑x_1 : Int) = (↑x_1 : Int) ∧
                                                                                          IntKind.i64.wrap
                                                                                                ((↑x_3 : Int) + 1) =
                                                                                              (↑x : Int) ∧
                                                                                            (e.ag = e.ag ∧
                                                                                                e.ix = e.ix ∧
                                                                                                  e.k = e.k ∧
                                                                                                    e.ob = e.ob ∧
                                                                                                      e.mu = e.mu ∧
                                                                                                        e.en = e.en ∧
                                                                                                          e.od = e.od ∧
                                                                                                            e.rd =
                                                                                                                e.rd ∧
                                                                                                              e.wr =
                                                                                                                e.wr) ∧
                                                                                              (accV e).length =
                                                                                                  (accV e).length ∧
                                                                                                (d.ag = d.ag ∧
                                                                                                    d.ix = d.ix ∧
                                                                                                      d.k = d.k ∧
                                                                                                        d.ob = d.ob ∧
                                                                                                          d.mu = d.mu ∧
                                                                                                            d.en =
                                                                                                                d.en ∧
                                                                                                              d.od =
                                                                                                                  d.od ∧
                                                                                                                d.rd =
                                                                                                                    d.rd ∧
                                                                                                                  d.wr =
                                                                                                                    d.wr) ∧
                                                                                                  (accV d).length =
                                                                                                      (accV d).length ∧
                                                                                                    (↑x_1 : Int) =
                                                                                                        (↑x_1 : Int) ∧
                                                                                                      (accV e).length =
                                                                                                          (accV
                                                                                                              e).length ∧
                                                                                                        (↑(accV
                                                                                                                    e).length :
                                                                                                              Int) =
                                                                                                            (↑(accV
                                                                                                                    e).length :
                                                                                                              Int) ∧
                                                                                                          true = true ∧
                                                                                                            True) ∧
                                                                            (17 = 17 ∧
                                                                                (∀ (j : Nat),
                                                                                    j < 17 →
                                                                                      pickI tMostL j = pickI tMostL j) ∧
                                                                                  (∀ (j : Nat),
                                                                                      j < 17 →
                                                                                        pickB tOrdL j = pickB tOrdL j) ∧
                                                                                    (∀ (j : Nat),
                                                                                        j < 17 →
                                                                                          pickI tLowL j =
                                                                                            pickI tLowL j) ∧
                                                                                      (∀ (j : Nat),
                                                                                          j < 17 →
                                                                                            pickI tHighL j =
                                                                                              pickI tHighL j) ∧
                                                                                        (∀ (j : Nat),
                                                                                            j < 17 →
                                                                                              pickB tWroteL j =
                                                                                                pickB tWroteL j) ∧
                                                                                          (∀ (j : Nat),
                                                                                              j < 17 →
                                                                                                pickI tLeastL j =
                                                                                                  pickI tLeastL j) ∧
                                                                                            (∀ (j : Nat),
                                                                                                j < 17 →
                                                                                                  pickI tAccL j =
                                                                                                    pickI tAccL j) ∧
                                                                                              (∀ (j : Nat),
                                                                                                  j < 17 →
                                                                                                    pickB tWriteL j =
                                                                                                      pickB tWriteL j) ∧
                                                                                                True) ∧
                                                                              (e.ag = e.ag ∧
                                                                                  e.ix = e.ix ∧
                                                                                    e.k = e.k ∧
                                                                                      e.ob = e.ob ∧
                                                                                        e.mu = e.mu ∧
                                                                                          e.en = e.en ∧
                                                                                            e.od = e.od ∧
                                                                                              e.rd = e.rd ∧
                                                                                                e.wr = e.wr) ∧
                                                                                (d.ag = d.ag ∧
                                                                                    d.ix = d.ix ∧
                                                                                      d.k = d.k ∧
                                                                                        d.ob = d.ob ∧
                                                                                          d.mu = d.mu ∧
                                                                                            d.en = d.en ∧
                                                                                              d.od = d.od ∧
                                                                                                d.rd = d.rd ∧
                                                                                                  d.wr = d.wr) ∧
                                                                                  ((accV e).length = (accV e).length ∧
                                                                                      (∀ (j : Nat),
                                                                                          j < (accV e).length →
                                                                                            cK (accV e) j =
                                                                                              cK (accV e) j) ∧
                                                                                        (∀ (j : Nat),
                                                                                            j < (accV e).length →
                                                                                              cI (accV e) j =
                                                                                                cI (accV e) j) ∧
                                                                                          (∀ (j : Nat),
                                                                                              j < (accV e).length →
                                                                                                cS (accV e) j =
                                                                                                  cS (accV e) j) ∧
                                                                                            (∀ (j : Nat),
                                                                                                j < (accV e).length →
                                                                                                  cW (accV e) j =
                                                                                                    cW (accV e) j) ∧
                                                                                              True) ∧
                                                                                    ((accV d).length = (accV d).length ∧
                                                                                        (∀ (j : Nat),
                                                                                            j < (accV d).length →
                                                                                              cK (accV d) j =
                                                                                                cK (accV d) j) ∧
                                                                                          (∀ (j : Nat),
                                                                                              j < (accV d).length →
                                                                                                cI (accV d) j =
                                                                                                  cI (accV d) j) ∧
                                                                                            (∀ (j : Nat),
                                                                                                j < (accV d).length →
                                                                                                  cS (accV d) j =
                                                                                                    cS (accV d) j) ∧
                                                                                              (∀ (j : Nat),
                                                                                                  j < (accV d).length →
                                                                                                    cW (accV d) j =
                                                                                                      cW (accV d) j) ∧
                                                                                                True) ∧
                                                                                      True)) ∧
                              (decide ((↑x_3 : Int) < (↑(accV d).length : Int)) = false →
                                ∃ (x_4 : Nat),
                                  (x_4 ≤ (accV e).length ∧
                                      ∀ (i' : Nat),
                                        i' < x_4 →
                                          ∀ (j : Nat), j < (accV d).length → hitR (accV e) (accV d) i' j = false) ∧
                                    ((PLoop.of (lR0 (accV e) (accV d))).ann x).mu x_4 <
                                        ((PLoop.of (lR0 (accV e) (accV d))).ann x).mu x_1 ∧
                                      ((e.ag = e.ag ∧
                                            e.ix = e.ix ∧
                                              e.k = e.k ∧
                                                e.ob = e.ob ∧
                                                  e.mu = e.mu ∧ e.en = e.en ∧ e.od = e.od ∧ e.rd = e.rd ∧ e.wr = e.wr) ∧
                                          (d.ag = d.ag ∧
                                              d.ix = d.ix ∧
                                                d.k = d.k ∧
                                                  d.ob = d.ob ∧
                                                    d.mu = d.mu ∧
                                                      d.en = d.en ∧ d.od = d.od ∧ d.rd = d.rd ∧ d.wr = d.wr) ∧
                                            True ∧
                                              True ∧
                                                (accV e).length = (accV e).length ∧
                                                  (accV d).length = (accV d).length ∧
                                                    IntKind.i64.wrap ((↑x_1 : Int) + 1) = (↑x_4 : Int) ∧
                                                      (e.ag = e.ag ∧
                                                          e.ix = e.ix ∧
                                                            e.k = e.k ∧
                                                              e.ob = e.ob ∧
                                                                e.mu = e.mu ∧
                                                                  e.en = e.en ∧
                                                                    e.od = e.od ∧ e.rd = e.rd ∧ e.wr = e.wr) ∧
                                                        (accV e).length = (accV e).length ∧
                                                          (d.ag = d.ag ∧
                                                              d.ix = d.ix ∧
                                                                d.k = d.k ∧
                                                                  d.ob = d.ob ∧
                                                                    d.mu = d.mu ∧
                                                                      d.en = d.en ∧
                                                                        d.od = d.od ∧ d.rd = d.rd ∧ d.wr = d.wr) ∧
                                                            (accV d).length = (accV d).length ∧ True) ∧
                                        (17 = 17 ∧
                                            (∀ (j : Nat), j < 17 → pickI tMostL j = pickI tMostL j) ∧
                                              (∀ (j : Nat), j < 17 → pickB tOrdL j = pickB tOrdL j) ∧
                                                (∀ (j : Nat), j < 17 → pickI tLowL j = pickI tLowL j) ∧
                                                  (∀ (j : Nat), j < 17 → pickI tHighL j = pickI tHighL j) ∧
                                                    (∀ (j : Nat), j < 17 → pickB tWroteL j = pickB tWroteL j) ∧
                                                      (∀ (j : Nat), j < 17 → pickI tLeastL j = pickI tLeastL j) ∧
                                                        (∀ (j : Nat), j < 17 → pickI tAccL j = pickI tAccL j) ∧
                                                          (∀ (j : Nat), j < 17 → pickB tWriteL j = pickB tWriteL j) ∧
                                                            True) ∧
                                          (e.ag = e.ag ∧
                                              e.ix = e.ix ∧
                                                e.k = e.k ∧
                                                  e.ob = e.ob ∧
                                                    e.mu = e.mu ∧
                                                      e.en = e.en ∧ e.od = e.od ∧ e.rd = e.rd ∧ e.wr = e.wr) ∧
                                            (d.ag = d.ag ∧
                                                d.ix = d.ix ∧
                                                  d.k = d.k ∧
                                                    d.ob = d.ob ∧
                                                      d.mu = d.mu ∧
                                                        d.en = d.en ∧ d.od = d.od ∧ d.rd = d.rd ∧ d.wr = d.wr) ∧
                                              ((accV e).length = (accV e).length ∧
                                                  (∀ (j : Nat), j < (accV e).length → cK (accV e) j = cK (accV e) j) ∧
                                                    (∀ (j : Nat), j < (accV e).length → cI (accV e) j = cI (accV e) j) ∧
                                                      (∀ (j : Nat),
                                                          j < (accV e).length → cS (accV e) j = cS (accV e) j) ∧
                                                        (∀ (j : Nat),
                                                            j < (accV e).length → cW (accV e) j = cW (accV e) j) ∧
                                                          True) ∧
                                                ((accV d).length = (accV d).length ∧
                                                    (∀ (j : Nat), j < (accV d).length → cK (accV d) j = cK (accV d) j) ∧
                                                      (∀ (j : Nat),
                                                          j < (accV d).length → cI (accV d) j = cI (accV d) j) ∧
                                                        (∀ (j : Nat),
                                                            j < (accV d).length → cS (accV d) j = cS (accV d) j) ∧
                                                          (∀ (j : Nat),
                                                              j < (accV d).length → cW (accV d) j = cW (accV d) j) ∧
                                                            True) ∧
                                                  True)) ∧
                  (decide ((↑x_1 : Int) < (↑(accV e).length : Int)) = false → false = conf (accV e) (accV d))) := by kernel_rfl
theorem v34 (e d : Ev)  : fnVc (tabG cC [(0, .of (lR0 (accV e) (accV d))), (2, lR2 (accV e) (accV d))]) Tryd.f34 [evSV e, evSV d] [tbl] (plainIs (.b (conf (accV e) (accV d)))) := by
  rw [v34_eq]
  have hl1 := accV_len e
  have hl2 := accV_len d
  refine ⟨rfl, trivial, rfl, trivial, (), ⟨0, ⟨by omega, fun i hi => by omega⟩, ⟨rfl, trivial, trivial⟩, trivial⟩, fun x hx => ⟨fun hlt => ?_, fun hlt => ?_⟩⟩
  · have hlt : x < (accV e).length := by simpa using hlt
    refine ⟨x, ⟨0, ⟨by omega, fun h => by omega⟩, ⟨rfl, trivial⟩, trivial⟩, fun j hp => ⟨fun hj => ?_, fun hj => ?_⟩⟩
    · have hj : j < (accV d).length := by simpa using hj
      have b1 : 0 ≤ (x : Int) ∧ (x : Int) < ((accV e).length : Int) := by omega
      have b2 : 0 ≤ (j : Int) ∧ (j : Int) < ((accV d).length : Int) := by omega
      refine ⟨b1, hlt, b2, hj, fun _ => b1, fun _ => hlt, fun _ => b2, fun _ => hj, fun _ => b1, fun _ => hlt, fun _ => b2, fun _ => hj, fun _ => b1, fun _ => hlt, fun _ _ => b2, fun _ _ => hj, fun hh => (hitR_conf hlt hj hh).symm, fun hh => ?_⟩
      have hh : hitR (accV e) (accV d) x j = false := hh
      refine ⟨j + 1, ⟨by omega, fun j' hj' => ?_⟩, by simp only [lR2]; omega, ?_⟩
      · by_cases e0 : j' = j
        · subst e0; exact hh
        · exact hp.2 j' (by omega)
      · have hw : IntKind.i64.wrap ((j : Int) + 1) = ((j + 1 : Nat) : Int) := wrS (n := 2) (by omega) (by omega)
        simp [hw]
    · have hj : ¬ j < (accV d).length := by simpa using hj
      refine ⟨x + 1, ⟨by omega, fun i' hi' j' hj' => ?_⟩, by simp only [PLoop.of, lR0]; omega, ?_⟩
      · by_cases e0 : i' = x
        · subst e0; exact hp.2 j' (by omega)
        · exact hx.2 i' (by omega) j' hj'
      · have hw : IntKind.i64.wrap ((x : Int) + 1) = ((x + 1 : Nat) : Int) := wrS (n := 2) (by omega) (by omega)
        simp [hw]
  · have hlt : ¬ x < (accV e).length := by simpa using hlt
    rw [hitR_none fun i hi j hj => hx.2 i (by omega) j hj]
end Go.Proofs.YtbhopcgbdofcjaaDoor
