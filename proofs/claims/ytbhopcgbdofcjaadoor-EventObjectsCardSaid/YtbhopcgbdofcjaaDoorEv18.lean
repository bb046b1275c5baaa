/-
  A part of the proof (Ev18).
-/
import Derived.Test.YtbhopcgbdofcjaaDoorEv16
namespace Go.Proofs.YtbhopcgbdofcjaaDoor
open Go Go.Proofs.YtbhopcgbdofcjaaDoor.Sx
set_option maxRecDepth 100000
set_option linter.unusedSimpArgs false
set_option linter.unusedVariables false
def foundI (l : List Ac) (ob : Int) (w : Bool) : Nat → Bool
  | 0 => !w
  | i + 1 => foundI l ob w i || (cK l i == 1 && (cI l i == ob && (cS l i == 0 && cW l i == true)))
def comR (l m : List Ac) (i : Nat) : Nat → Bool
  | 0 => false
  | k + 1 => comR l m i k || (cK l i == cK m k && cI l i == cI m k && cS l i == cS m k)
def comI (l m : List Ac) : Nat → Bool
  | 0 => false
  | i + 1 => comI l m i || comR l m i m.length
def lO0 (l m : List Ac) (ob : Int) (w : Bool) : LAnn := { X := Nat, inv := fun i => i ≤ l.length, slots := fun i => [(7, .b (foundI l ob w i)), (8, .b (comI l m i)), (9, .i .i64 i), (10, .dead)], mem := fun _ => [], mu := fun i => l.length - i }
def lO2 (l m : List Ac) : PLoop := { Y := Nat, ann := fun i => { X := Nat, inv := fun k => k ≤ m.length, slots := fun k => [(8, .b (comI l m i || comR l m i k)), (10, .i .i64 k)], mem := fun _ => [], mu := fun k => m.length - k } }
def cO : Calling := cE ++ [(8, fAw), (21, fA (fun _ => True) accV), (22, fE1 (fun _ => True) fun e => .b (writeE e))]

theorem mcO : ∀ p ∈ cO, CallOk Tryd.prog GL p.1 p.2 := mApp mcE fun p hp => by
  simp only [List.mem_cons, List.not_mem_nil, or_false] at hp
  rcases hp with rfl | rfl | rfl
  · exact c8
  · exact c21
  · exact c22
theorem foundI_mono {l : List Ac} {ob : Int} {w : Bool} {i : Nat} (h : foundI l ob w i = true) : ∀ j, i ≤ j → foundI l ob w j = true := by
  intro j hj
  induction j with
  | zero => obtain rfl : i = 0 := by omega
            exact h
  | succ j ih =>
    by_cases e : i = j + 1
    · subst e; exact h
    · simp only [foundI, ih (by omega), Bool.true_or]
theorem found_all (e : Ev) : foundI (accV e) e.ob (writeE e) (accV e).length = true := by
  by_cases h : writeE e = true
  · have hw := h
    simp only [writeE, Bool.and_eq_true] at h
    obtain ⟨hv, hk⟩ := h
    simp only [accV, hv, cond_true, hw]
    have hk : e.k = 2 ∨ e.k = 5 ∨ e.k = 4 := by simpa [or_assoc] using hk
    have h1 : foundI (acc e) e.ob true 1 = true ∧ 1 ≤ (acc e).length := by
      unfold acc
      rcases hk with hk | hk | hk <;> simp [hk, foundI, cK, cI, cS, cW, nthA, Nat.beq]
    exact foundI_mono h1.1 _ h1.2
  · have : writeE e = false := by simpa using h
    rw [this]
    exact foundI_mono (i := 0) rfl _ (by omega)
theorem comR_of {l m : List Ac} {i : Nat} : ∀ {n k : Nat}, k < n → (cK l i == cK m k && cI l i == cI m k && cS l i == cS m k) = true → comR l m i n = true := by
  intro n
  induction n with
  | zero => intro k h; omega
  | succ n ih =>
    intro k h hk
    simp only [comR]
    by_cases e : k = n
    · subst e; rw [hk, Bool.or_true]
    · rw [ih (by omega) hk, Bool.true_or]
theorem comI_of {l m : List Ac} {k : Nat} (hk : k < m.length) : ∀ {n i : Nat}, i < n → (cK l i == cK m k && cI l i == cI m k && cS l i == cS m k) = true → comI l m n = true := by
  intro n
  induction n with
  | zero => intro i h; omega
  | succ n ih =>
    intro i h hh
    simp only [comI]
    by_cases e : i = n
    · subst e; rw [comR_of hk hh, Bool.or_true]
    · rw [ih (by omega) hh, Bool.true_or]
theorem conf_com {l m : List Ac} (h : conf l m = true) : comI l m l.length = true := by
  simp only [conf, List.any_eq_true] at h
  obtain ⟨x, hx, y, hy, hh⟩ := h
  obtain ⟨i, hi, rfl⟩ := List.getElem_of_mem hx
  obtain ⟨k, hk, rfl⟩ := List.getElem_of_mem hy
  refine comI_of hk hi ?_
  simp only [hit, Bool.and_eq_true] at hh
  simp only [cK, cI, cS, nthA_get l i hi, nthA_get m k hk, Bool.and_eq_true]
  exact hh.1
theorem free_dep {e d : Ev} (he : e.ag ≤ 9223372036854775807) (hd : d.ag ≤ 9223372036854775807) (ht : (threadI e.ag != threadI d.ag) = true) (hk : (!(e.k == 16 || e.k == 17 || d.k == 16 || d.k == 17)) = true) (hc : comI (accV e) (accV d) (accV e).length = false) : depE e d = false := by
  have ht : threadI e.ag ≠ threadI d.ag := by simpa using ht
  by_cases hv : validE e = true ∧ validE d = true
  · obtain ⟨hv1, hv2⟩ := hv
    have hcf : conf (acc e) (acc d) = false := by
      cases h : conf (acc e) (acc d)
      · rfl
      · have h1 : accV e = acc e := by simp [accV, hv1]
        have h2 : accV d = acc d := by simp [accV, hv2]
        rw [h1, h2, conf_com h] at hc
        cases hc
    have hk' : (e.k == 16 || e.k == 17) = false ∧ (d.k == 16 || d.k == 17) = false := by
      cases h1 : e.k == 16 <;> cases h2 : e.k == 17 <;> cases h3 : d.k == 16 <;> cases h4 : d.k == 17 <;> simp_all
    have hc1 : creE e d = false := by unfold creE; rw [hk'.1]; rfl
    have hc2 : creE d e = false := by unfold creE; rw [hk'.2]; rfl
    have hdr : ∀ {a b : Ev}, a.ag ≤ 9223372036854775807 → threadI a.ag ≠ threadI b.ag → draE a b = false := by
      intro a b ha hne
      unfold draE
      by_cases h : 0 ≤ a.ag
      · have : (b.ag == flusherI a.ag) = false := by
          rw [flush_pos h ha]
          rw [thread_pos h] at hne
          cases hb : b.ag == -a.ag - 1
          · rfl
          · have hb : b.ag = -a.ag - 1 := by simpa using hb
            exact absurd (by rw [thread_neg (n := b.ag) (by omega) (by omega)]; omega) hne
        simp [this]
      · have : decide (0 ≤ a.ag) = false := by simp; omega
        simp [this]
    have hag : (e.ag == d.ag) = false := by
      cases h : e.ag == d.ag
      · rfl
      · have h : e.ag = d.ag := by simpa using h
        exact absurd (by rw [h]) ht
    unfold depE
    rw [hag, hc1, hc2, hdr he ht, hdr hd (Ne.symm ht), hcf, hv1, hv2]
    rfl
  · unfold depE
    cases h1 : validE e
    · rfl
    · cases h2 : validE d
      · rfl
      · exact absurd ⟨h1, h2⟩ hv
theorem last6 {e d : Ev} (he : e.ag ≤ 9223372036854775807) (hd : d.ag ≤ 9223372036854775807) : (foundI (accV e) e.ob (writeE e) (accV e).length && (!(threadI e.ag != threadI d.ag && !(e.k == 16 || e.k == 17 || d.k == 16 || d.k == 17) && !comI (accV e) (accV d) (accV e).length) || !depE e d) && (((accV e).length : Int) == 0 || validE e) && decide (((accV e).length : Int) ≤ 2)) = true := by
  have hl := accV_len e
  rw [found_all, Bool.true_and]
  have h1 : (((accV e).length : Int) == 0 || validE e) = true := by
    cases h : validE e
    · simp [accV, h]
    · simp
  have h2 : decide (((accV e).length : Int) ≤ 2) = true := by simp; omega
  rw [h1, h2, Bool.and_true, Bool.and_true]
  cases h : (threadI e.ag != threadI d.ag && !(e.k == 16 || e.k == 17 || d.k == 16 || d.k == 17) && !comI (accV e) (accV d) (accV e).length)
  · rfl
  · simp only [Bool.and_eq_true] at h
    obtain ⟨⟨ha, hb⟩, hc⟩ := h
    rw [free_dep he hd ha hb (by simpa using hc)]
    rfl
theorem v6_eq (e d : Ev) : (fnVc (tabG cO [(0, .of (lO0 (accV e) (accV d) e.ob (writeE e))), (2, lO2 (accV e) (accV d))]) Tryd.f6 [evSV e, evSV d] [tbl] (plainIs .tt)) = (some tbl = some tbl ∧
  True ∧
    some tbl = some tbl ∧
      True ∧
        some tbl = some tbl ∧
          True ∧
            ∃ (x : PUnit),
              (∃ (x : Nat),
                  x ≤ (accV e).length ∧
                    ((!writeE e) = foundI (accV e) e.ob (writeE e) x ∧
                        false = comI (accV e) (accV d) x ∧ 0 = (↑x : Int) ∧ True ∧ True) ∧
                      True) ∧
                ∀ (x_1 : Nat),
                  x_1 ≤ (accV e).length →
                    (decide ((↑x_1 : Int) < (↑(accV e).length : Int)) = true →
                        (foundI (accV e) e.ob (writeE e) x_1 = false →
                            0 ≤ (↑x_1 : Int) ∧ (↑x_1 : Int) < (↑(accV e).length : Int)) ∧
                          (foundI (accV e) e.ob (writeE e) x_1 = false → x_1 < (accV e).length) ∧
                            ∃ (x_2 : Nat),
                              (∃ (x : Nat),
                                  x ≤ (accV d).length ∧
                                    (comI (accV e) (accV d) x_1 =
                                          (comI (accV e) (accV d) x_2 || comR (accV e) (accV d) x_2 x) ∧
                                        0 = (↑x : Int) ∧ True) ∧
                                      True) ∧
                                ∀ (x_3 : Nat),
                                  x_3 ≤ (accV d).length →
                                    (decide ((↑x_3 : Int) < (↑(accV d).length : Int)) = true →
                                        ((comI (accV e) (accV d) x_2 || comR (accV e) (accV d) x_2 x_3) = false →
                                            0 ≤ (↑x_1 : Int) ∧ (↑x_1 : Int) < (↑(accV e).length : Int)) ∧
                                          ((comI (accV e) (accV d) x_2 || comR (accV e) (accV d) x_2 x_3) = false →
                                              x_1 < (accV e).length) ∧
                                            ((comI (accV e) (accV d) x_2 || comR (accV e) (accV d) x_2 x_3) = false →
                                                0 ≤ (↑x_3 : Int) ∧ (↑x_3 : Int) < (↑(accV d).length : Int)) ∧
                                              ((comI (accV e) (accV d) x_2 || comR (accV e) (accV d) x_2 x_3) = false →
                                                  x_3 < (accV d).length) ∧
                                                ((cK (accV e) x_1 == cK (accV d) x_3) = true →
                                                    (comI (accV e) (accV d) x_2 || comR (accV e) (accV d) x_2 x_3) =
                                                        false →
                                                      0 ≤ (↑x_1 : Int) ∧ (↑x_1 : Int) < (↑(accV e).length : Int)) ∧
                                                  ((cK (accV e) x_1 == cK (accV d) x_3) = true →
                                                      (comI (accV e) (accV d) x_2 || comR (accV e) (accV d) x_2 x_3) =
                                                          false →
                                                        x_1 < (accV e).length) ∧
                                                    ((cK (accV e) x_1 == cK (accV d) x_3) = true →
                                                        (comI (accV e) (accV d) x_2 || comR (accV e) (accV d) x_2 x_3) =
                                                            false →
                                                          0 ≤ (↑x_3 : Int) ∧ (↑x_3 : Int) < (↑(accV d).length : Int)) ∧
                                                      ((cK (accV e) x_1 == cK (accV d) x_3) = true →
                                                          (comI (accV e) (accV d) x_2 ||
                                                                comR (accV e) (accV d) x_2 x_3) =
                                                              false →
                                                            x_3 < (accV d).length) ∧
                                                        ((cK (accV e) x_1 == cK (accV d) x_3 &&
                                                                cI (accV e) x_1 == cI (accV d) x_3) =
                                                              true →
                                                            (comI (accV e) (accV d) x_2 ||
                                                                  comR (accV e) (accV d) x_2 x_3) =
                                                                false →
                                                              0 ≤ (↑x_1 : Int) ∧
                                                                (↑x_1 : Int) < (↑(accV e).length : Int)) ∧
                                                          ((cK (accV e) x_1 == cK (accV d) x_3 &&
                                                                  cI (accV e) x_1 == cI (accV d) x_3) =
                                                                true →
                                                              (comI (accV e) (accV d) x_2 ||
                                                                    comR (accV e) (accV d) x_2 x_3) =
                                                                  false →
                                                                x_1 < (accV e).length) ∧
                                                            ((cK (accV e) x_1 == cK (accV d) x_3 &&
                                                                    cI (accV e) x_1 == cI (accV d) x_3) =
                                                                  true →
                                                                (comI (accV e) (accV d) x_2 ||
                                                                      comR (accV e) (accV d) x_2 x_3) =
                                                                    false →
                                                                  0 ≤ (↑x_3 : Int) ∧
                                                                    (↑x_3 : Int) < (↑(accV d).length : Int)) ∧
                                                              ((cK (accV e) x_1 == cK (accV d) x_3 &&
                                                                      cI (accV e) x_1 == cI (accV d) x_3) =
                                                                    true →
                                                                  (comI (accV e) (accV d) x_2 ||
                                                                        comR (accV e) (accV d) x_2 x_3) =
                                                                      false →
                                                                    x_3 < (accV d).length) ∧
                                                                ∃ (x : Nat),
                                                                  x ≤ (accV d).length ∧
                                                                    ((lO2 (accV e) (accV d)).ann x_2).mu x <
                                                                        ((lO2 (accV e) (accV d)).ann x_2).mu x_3 ∧
                                                                      ((e.ag = e.ag ∧
                                                                            e.ix = e.ix ∧
                                                                              e.k = e.k ∧
                                                                                e.ob = e.ob ∧
                                                                                  e.mu = e.mu ∧
                                                                                    e.en = e.en ∧
                                                                                      e.od = e.od ∧
                                                                                        e.rd = e.rd ∧ e.wr = e.wr) ∧
                                                                          (d.ag = d.ag ∧
                                                                              d.ix = d.ix ∧
                                                                                d.k = d.k ∧
                                                                                  d.ob = d.ob ∧
                                                                                    d.mu = d.mu ∧
                                                                                      d.en = d.en ∧
                                                                                        d.od = d.od ∧
                                                                                          d.rd = d.rd ∧ d.wr = d.wr) ∧
                                                                            True ∧
                                                                              True ∧
                                                                                false = false ∧
                                                                                  (accV e).length = (accV e).length ∧
                                                                                    (accV d).length = (accV d).length ∧
                                                                                      (foundI (accV e) e.ob (writeE e)
                                                                                              x_1 ||
                                                                                            cK (accV e) x_1 == 1 &&
                                                                                              (cI (accV e) x_1 ==
                                                                                                  e.ob &&
                                                                                                (cS (accV e) x_1 == 0 &&
                                                                                                  cW (accV e) x_1 ==
                                                                                                    true))) =
                                                                                          (foundI (accV e) e.ob
                                                                                              (writeE e) x_1 ||
                                                                                            cK (accV e) x_1 == 1 &&
                                                                                              (cI (accV e) x_1 ==
                                                                                                  e.ob &&
                                                                                                (cS (accV e) x_1 == 0 &&
                                                                                                  cW (accV e) x_1 ==
                                                                                                    true))) ∧
                                                                                        (comI (accV e) (accV d) x_2 ||
                                                                                                comR (accV e) (accV d)
                                                                                                  x_2 x_3 ||
                                                                                              cK (accV e) x_1 ==
                                                                                                    cK (accV d) x_3 &&
                                                                                                  cI (accV e) x_1 ==
                                                                                                    cI (accV d) x_3 &&
                                                                                                cS (accV e) x_1 ==
                                                                                                  cS (accV d) x_3) =
                                                                                            (comI (accV e) (accV d)
                                                                                                x_2 ||
                                                                                              comR (accV e) (accV d) x_2
                                                                                                x) ∧
                                                                                          (↑x_1 : Int) = (↑x_1 : Int) ∧
                                                                                            IntKind.i64.wrap
                                                                                                  ((↑x_3 : Int) + 1) =
                                                                                                (↑x : Int) ∧
                                                                                              (e.ag = e.ag ∧
                                                                                                  e.ix = e.ix ∧
                                                                                                    e.k = e.k ∧
                                                                                                      e.ob = e.ob ∧
                                                                                                        e.mu = e.mu ∧
                                                                                                          e.en = e.en ∧
                                                                                                            e.od =
                                                                                                                e.od ∧
                                                                                                              e.rd =
                                                                                                                  e.rd ∧
                                                                                                                e.wr =
                                                                                                                  e.wr) ∧
                                                                                                (accV e).length =
                                                                                                    (accV e).length ∧
                                                                                                  (d.ag = d.ag ∧
                                                                                                      d.ix = d.ix ∧
                                                                                                        d.k = d.k ∧
                                                                                                          d.ob = d.ob ∧
                                                                                                            d.mu =
                                                                                                                d.mu ∧
                                                                                                              d.en =
                                                                                                                  d.en ∧
                                                                                                                d.od =
                                                                                                                    d.od ∧
                                                                                                                  d.rd =
                                                                                                                      d.rd ∧
                                                                                                                    d.wr =
                                                                                                                      d.wr) ∧
                                                                                                    (accV d).length =
                                                                                                        (accV
                                                                                                            d).length ∧
                                                                                                      (e.ag = e.ag ∧
                                                                                                          e.ix = e.ix ∧
                                                                                                            e.k = e.k ∧
                                                                                                              e.ob =
                                                                                                                  e.ob ∧
                                                                                                                e.mu =
                                                                                                                    e.mu ∧
                                                                                                                  e.en =
                                                                                                                      e.en ∧
                                                                                                                    e.od =
                                                                                                                        e.od ∧
                                                                                                                      e.rd =
                                                                                                                          e.rd ∧
                                                                                                                        e.wr =
                                                                                                                          e.wr) ∧
                                                                                                        writeE e =
                                                                                                            writeE e ∧
                                                                                                          (!writeE e) =
                                                                                                              !writeE
                                                                                                                  e ∧
                                                                                                            (↑x_1 :
                                                                                                                  Int) =
                                                                                                                (↑x_1 :
                                                                                                                  Int) ∧
                                                                                                              (accV
                                                                                                                      e).length =
                                                                                                                  (accV
                                                                                                                      e).length ∧
                                                                                                                (↑(accV
                                                                                                                            e).length :
                                                                                                                      Int) =
                                                                                                                    (↑(accV
                                                                                                                            e).length :
                                                                                                                      Int) ∧
                                                                                                                  true =
                                                                                                                      true ∧
                                                                                                                    foundI
                                                                                                                          (accV
                                                                                                                            e)
                                                                                                                          e.ob
                                                                                                                          (writeE
                                                                                                                            e)
                                                                                                                          x_1 =
                                                                                                                        foundI
                                                                                                                          (accV
                                                                                                                            e)
                                                                                                                          e.ob
                                                                                                                          (writeE
                                                                                                                            e)
                                                                                                                          x_1 ∧
                                                                                                                      foundI
                                                                                                                            (accV
                                                                                                                              e)
                                                                                                                            e.ob
                                                                                                                            (writeE
                                                                                                                              e)
                                                                                                                            x_1 =
                                                                                                                          foundI
                                                                                                                            (accV
                                                                                                                              e)
                                                                                                                            e.ob
                                                                                                                            (writeE
                                                                                                                              e)
                                                                                                                            x_1 ∧
                                                                                                                        (foundI
                                                                                                                                (accV
                                                                                                                                  e)
                                                                                                                                e.ob
                                                                                                                                (writeE
                                                                                                                                  e)
                                                                                                                                x_1 ||
                                                                                                                              cK
                                                                                                                                    (accV
                                                                                                                                      e)
                                                                                                                                    x_1 ==
                                                                                                                                  1 &&
                                                                                                                                (cI
                                                                                                                                      (accV
                                                                                                                                        e)
                                                                                                                                      x_1 ==
                                                                                                                                    e.ob &&
                                                                                                                                  (cS
                                                                                                                                        (accV
                                                                                                                                          e)
                                                                                                                                        x_1 ==
                                                                                                                                      0 &&
                                                                                                                                    cW
                                                                                                                                        (accV
                                                                                                                                          e)
                                                                                                                                        x_1 ==
                                                                                                                                      true))) =
                                                                                                                            (foundI
                                                                                                                                (accV
                                                                                                                                  e)
                                                                                                                                e.ob
                                                                                                                                (writeE
                                                                                                                                  e)
                                                                                                                                x_1 ||
                                                                                                                              cK
                                                                                                                                    (accV
                                                                                                                                      e)
                                                                                                                                    x_1 ==
                                                                                                                                  1 &&
                                                                                                                                (cI
                                                                                                                                      (accV
                                                                                                                                        e)
                                                                                                                                      x_1 ==
                                                                                                                                    e.ob &&
                                                                                                                                  (cS
                                                                                                                                        (accV
                                                                                                                                          e)
                                                                                                                                        x_1 ==
                                                                                                                                      0 &&
                                                                                                                                    cW
                                                                                                                                        (accV
                                                                                                                                          e)
                                                                                                                                        x_1 ==
                                                                                                                                      true))) ∧
                                                                                                                          True) ∧
                                                                        (17 = 17 ∧
                                                                            (∀ (j : Nat),
                                                                                j < 17 →
                                                                                  pickI tMostL j = pickI tMostL j) ∧
                                                                              (∀ (j : Nat),
                                                                                  j < 17 →
                                                                                    pickB tOrdL j = pickB tOrdL j) ∧
                                                                                (∀ (j : Nat),
                                                                                    j < 17 →
                                                                                      pickI tLowL j = pickI tLowL j) ∧
                                                                                  (∀ (j : Nat),
                                                                                      j < 17 →
                                                                                        pickI tHighL j =
                                                                                          pickI tHighL j) ∧
                                                                                    (∀ (j : Nat),
                                                                                        j < 17 →
                                                                                          pickB tWroteL j =
                                                                                            pickB tWroteL j) ∧
                                                                                      (∀ (j : Nat),
                                                                                          j < 17 →
                                                                                            pickI tLeastL j =
                                                                                              pickI tLeastL j) ∧
                                                                                        (∀ (j : Nat),
                                                                                            j < 17 →
                                                                                              pickI tAccL j =
                                                                                                pickI tAccL j) ∧
                                                                                          (∀ (j : Nat),
                                                                                              j < 17 →
                                                                                                pickB tWriteL j =
                                                                                                  pickB tWriteL j) ∧
                                                                                            True) ∧
                                                                          (e.ag = e.ag ∧
                                                                              e.ix = e.ix ∧
                                                                                e.k = e.k ∧
                                                                                  e.ob = e.ob ∧
                                                                                    e.mu = e.mu ∧
                                                                                      e.en = e.en ∧
                                                                                        e.od = e.od ∧
                                                                                          e.rd = e.rd ∧ e.wr = e.wr) ∧
                                                                            (d.ag = d.ag ∧
                                                                                d.ix = d.ix ∧
                                                                                  d.k = d.k ∧
                                                                                    d.ob = d.ob ∧
                                                                                      d.mu = d.mu ∧
                                                                                        d.en = d.en ∧
                                                                                          d.od = d.od ∧
                                                                                            d.rd = d.rd ∧ d.wr = d.wr) ∧
                                                                              ((accV e).length = (accV e).length ∧
                                                                                  (∀ (j : Nat),
                                                                                      j < (accV e).length →
                                                                                        cK (accV e) j = cK (accV e) j) ∧
                                                                                    (∀ (j : Nat),
                                                                                        j < (accV e).length →
                                                                                          cI (accV e) j =
                                                                                            cI (accV e) j) ∧
                                                                                      (∀ (j : Nat),
                                                                                          j < (accV e).length →
                                                                                            cS (accV e) j =
                                                                                              cS (accV e) j) ∧
                                                                                        (∀ (j : Nat),
                                                                                            j < (accV e).length →
                                                                                              cW (accV e) j =
                                                                                                cW (accV e) j) ∧
                                                                                          True) ∧
                                                                                ((accV d).length = (accV d).length ∧
                                                                                    (∀ (j : Nat),
                                                                                        j < (accV d).length →
                                                                                          cK (accV d) j =
                                                                                            cK (accV d) j) ∧
                                                                                      (∀ (j : Nat),
                                                                                          j < (accV d).length →
                                                                                            cI (accV d) j =
                                                                                              cI (accV d) j) ∧
                                                                                        (∀ (j : Nat),
                                                                                            j < (accV d).length →
                                                                                              cS (accV d) j =
                                                                                                cS (accV d) j) ∧
                                                                                          (∀ (j : Nat),
                                                                                              j < (accV d).length →
                                                                                                cW (accV d) j =
                                                                                                  cW (accV d) j) ∧
                                                                                            True) ∧
                                                                                  True) ∧
                                      (decide ((↑x_3 : Int) < (↑(accV d).length : Int)) = false →
                                        ∃ (x_4 : Nat),
                                          x_4 ≤ (accV e).length ∧
                                            ((PLoop.of (lO0 (accV e) (accV d) e.ob (writeE e))).ann x).mu x_4 <
                                                ((PLoop.of (lO0 (accV e) (accV d) e.ob (writeE e))).ann x).mu x_1 ∧
                                              ((e.ag = e.ag ∧
                                                    e.ix = e.ix ∧
                                                      e.k = e.k ∧
                                                        e.ob = e.ob ∧
                                                          e.mu = e.mu ∧
                                                            e.en = e.en ∧ e.od = e.od ∧ e.rd = e.rd ∧ e.wr = e.wr) ∧
                                                  (d.ag = d.ag ∧
                                                      d.ix = d.ix ∧
                                                        d.k = d.k ∧
                                                          d.ob = d.ob ∧
                                                            d.mu = d.mu ∧
                                                              d.en = d.en ∧ d.od = d.od ∧ d.rd = d.rd ∧ d.wr = d.wr) ∧
                                                    True ∧
                                                      True ∧
                                                        false = false ∧
                                                          (accV e).length = (accV e).length ∧
                                                            (accV d).length = (accV d).length ∧
                                                              (foundI (accV e) e.ob (writeE e) x_1 ||
                                                                    cK (accV e) x_1 == 1 &&
                                                                      (cI (accV e) x_1 == e.ob &&
                                                                        (cS (accV e) x_1 == 0 &&
                                                                          cW (accV e) x_1 == true))) =
                                                                  foundI (accV e) e.ob (writeE e) x_4 ∧
                                                                (comI (accV e) (accV d) x_2 ||
                                                                      comR (accV e) (accV d) x_2 x_3) =
                                                                    comI (accV e) (accV d) x_4 ∧
                                                                  IntKind.i64.wrap ((↑x_1 : Int) + 1) = (↑x_4 : Int) ∧
                                                                    (e.ag = e.ag ∧
                                                                        e.ix = e.ix ∧
                                                                          e.k = e.k ∧
                                                                            e.ob = e.ob ∧
                                                                              e.mu = e.mu ∧
                                                                                e.en = e.en ∧
                                                                                  e.od = e.od ∧
                                                                                    e.rd = e.rd ∧ e.wr = e.wr) ∧
                                                                      (accV e).length = (accV e).length ∧
                                                                        (d.ag = d.ag ∧
                                                                            d.ix = d.ix ∧
                                                                              d.k = d.k ∧
                                                                                d.ob = d.ob ∧
                                                                                  d.mu = d.mu ∧
                                                                                    d.en = d.en ∧
                                                                                      d.od = d.od ∧
                                                                                        d.rd = d.rd ∧ d.wr = d.wr) ∧
                                                                          (accV d).length = (accV d).length ∧
                                                                            (e.ag = e.ag ∧
                                                                                e.ix = e.ix ∧
                                                                                  e.k = e.k ∧
                                                                                    e.ob = e.ob ∧
                                                                                      e.mu = e.mu ∧
                                                                                        e.en = e.en ∧
                                                                                          e.od = e.od ∧
                                                                                            e.rd = e.rd ∧ e.wr = e.wr) ∧
                                                                              writeE e = writeE e ∧
                                                                                (!writeE e) = !writeE e ∧ True) ∧
                                                (17 = 17 ∧
                                                    (∀ (j : Nat), j < 17 → pickI tMostL j = pickI tMostL j) ∧
                                                      (∀ (j : Nat), j < 17 → pickB tOrdL j = pickB tOrdL j) ∧
                                                        (∀ (j : Nat), j < 17 → pickI tLowL j = pickI tLowL j) ∧
                                                          (∀ (j : Nat), j < 17 → pickI tHighL j = pickI tHighL j) ∧
                                                            (∀ (j : Nat), j < 17 → pickB tWroteL j = pickB tWroteL j) ∧
                                                              (∀ (j : Nat),
                                                                  j < 17 → pickI tLeastL j = pickI tLeastL j) ∧
                                                                (∀ (j : Nat), j < 17 → pickI tAccL j = pickI tAccL j) ∧
                                                                  (∀ (j : Nat),
                                                                      j < 17 → pickB tWriteL j = pickB tWriteL j) ∧
                                                                    True) ∧
                                                  (e.ag = e.ag ∧
                                                      e.ix = e.ix ∧
                                                        e.k = e.k ∧
                                                          e.ob = e.ob ∧
                                                            e.mu = e.mu ∧
                                                              e.en = e.en ∧ e.od = e.od ∧ e.rd = e.rd ∧ e.wr = e.wr) ∧
                                                    (d.ag = d.ag ∧
                                                        d.ix = d.ix ∧
                                                          d.k = d.k ∧
                                                            d.ob = d.ob ∧
                                                              d.mu = d.mu ∧
                                                                d.en = d.en ∧ d.od = d.od ∧ d.rd = d.rd ∧ d.wr = d.wr) ∧
                                                      ((accV e).length = (accV e).length ∧
                                                          (∀ (j : Nat),
                                                              j < (accV e).length → cK (accV e) j = cK (accV e) j) ∧
                                                            (∀ (j : Nat),
                                                                j < (accV e).length → cI (accV e) j = cI (accV e) j) ∧
                                                              (∀ (j : Nat),
                                                                  j < (accV e).length → cS (accV e) j = cS (accV e) j) ∧
                                                                (∀ (j : Nat),
                                                                    j < (accV e).length →
                                                                      cW (accV e) j = cW (accV e) j) ∧
                                                                  True) ∧
                                                        ((accV d).length = (accV d).length ∧
                                                            (∀ (j : Nat),
                                                                j < (accV d).length → cK (accV d) j = cK (accV d) j) ∧
                                                              (∀ (j : Nat),
                                                                  j < (accV d).length → cI (accV d) j = cI (accV d) j) ∧
                                                                (∀ (j : Nat),
                                                                    j < (accV d).length →
                                                                      cS (accV d) j = cS (accV d) j) ∧
                                                                  (∀ (j : Nat),
                                                                      j < (accV d).length →
                                                                        cW (accV d) j = cW (accV d) j) ∧
                                                                    True) ∧
                                                          True)) ∧
                      (decide ((↑x_1 : Int) < (↑(accV e).length : Int)) = false →
                        some
                              (match assoc (((PLoop.of (lO0 (accV e) (accV d) e.ob (writeE e))).ann x).mem x_1) 0 with
                              | some v => v
                              | none =>
                                match tbl with
                                | MBlk.cells cs =>
                                  MBlk.cells
                                    (killCells ((PLoop.of (lO0 (accV e) (accV d) e.ob (writeE e))).ann x).kill cs)
                                | MBlk.old cs =>
                                  MBlk.old
                                    (killCells ((PLoop.of (lO0 (accV e) (accV d) e.ob (writeE e))).ann x).kill cs)
                                | k => k) =
                            some tbl ∧
                          ((!(threadI e.ag != threadI d.ag && !(e.k == 16 || e.k == 17 || d.k == 16 || d.k == 17) &&
                                    !comI (accV e) (accV d) x_1)) =
                                false →
                              foundI (accV e) e.ob (writeE e) x_1 = true →
                                some
                                    (match
                                      assoc (((PLoop.of (lO0 (accV e) (accV d) e.ob (writeE e))).ann x).mem x_1) 0 with
                                    | some v => v
                                    | none =>
                                      match tbl with
                                      | MBlk.cells cs =>
                                        MBlk.cells
                                          (killCells ((PLoop.of (lO0 (accV e) (accV d) e.ob (writeE e))).ann x).kill cs)
                                      | MBlk.old cs =>
                                        MBlk.old
                                          (killCells ((PLoop.of (lO0 (accV e) (accV d) e.ob (writeE e))).ann x).kill cs)
                                      | k => k) =
                                  some tbl) ∧
                            ((!(threadI e.ag != threadI d.ag && !(e.k == 16 || e.k == 17 || d.k == 16 || d.k == 17) &&
                                      !comI (accV e) (accV d) x_1)) =
                                  false →
                                foundI (accV e) e.ob (writeE e) x_1 = true → True) ∧
                              (((↑(accV e).length : Int) == 0) = false →
                                  (foundI (accV e) e.ob (writeE e) x_1 &&
                                        (!(threadI e.ag != threadI d.ag &&
                                                !(e.k == 16 || e.k == 17 || d.k == 16 || d.k == 17) &&
                                              !comI (accV e) (accV d) x_1) ||
                                          !depE e d)) =
                                      true →
                                    some
                                        (match
                                          assoc (((PLoop.of (lO0 (accV e) (accV d) e.ob (writeE e))).ann x).mem x_1)
                                            0 with
                                        | some v => v
                                        | none =>
                                          match tbl with
                                          | MBlk.cells cs =>
                                            MBlk.cells
                                              (killCells ((PLoop.of (lO0 (accV e) (accV d) e.ob (writeE e))).ann x).kill
                                                cs)
                                          | MBlk.old cs =>
                                            MBlk.old
                                              (killCells ((PLoop.of (lO0 (accV e) (accV d) e.ob (writeE e))).ann x).kill
                                                cs)
                                          | k => k) =
                                      some tbl) ∧
                                (((↑(accV e).length : Int) == 0) = false →
                                    (foundI (accV e) e.ob (writeE e) x_1 &&
                                          (!(threadI e.ag != threadI d.ag &&
                                                  !(e.k == 16 || e.k == 17 || d.k == 16 || d.k == 17) &&
                                                !comI (accV e) (accV d) x_1) ||
                                            !depE e d)) =
                                        true →
                                      True) ∧
                                  (foundI (accV e) e.ob (writeE e) x_1 &&
                                          (!(threadI e.ag != threadI d.ag &&
                                                  !(e.k == 16 || e.k == 17 || d.k == 16 || d.k == 17) &&
                                                !comI (accV e) (accV d) x_1) ||
                                            !depE e d) &&
                                        ((↑(accV e).length : Int) == 0 || validE e) &&
                                      decide ((↑(accV e).length : Int) ≤ 2)) =
                                    true)) := by kernel_rfl
theorem v6 (e d : Ev) (he : e.ag ≤ 9223372036854775807) (hd : d.ag ≤ 9223372036854775807) : fnVc (tabG cO [(0, .of (lO0 (accV e) (accV d) e.ob (writeE e))), (2, lO2 (accV e) (accV d))]) Tryd.f6 [evSV e, evSV d] [tbl] (plainIs .tt) := by
  rw [v6_eq]
  have hl1 := accV_len e
  have hl2 := accV_len d
  refine ⟨rfl, trivial, rfl, trivial, rfl, trivial, (), ⟨0, by omega, ⟨rfl, rfl, rfl, trivial, trivial⟩, trivial⟩, fun x hx => ⟨fun hlt => ?_, fun hlt => ?_⟩⟩
  · have hlt : x < (accV e).length := by simpa using hlt
    have b1 : 0 ≤ (x : Int) ∧ (x : Int) < ((accV e).length : Int) := by omega
    refine ⟨fun _ => b1, fun _ => hlt, x, ⟨0, by omega, ⟨by simp [comR], rfl, trivial⟩, trivial⟩, fun j hp => ⟨fun hj => ?_, fun hj => ?_⟩⟩
    · have hj : j < (accV d).length := by simpa using hj
      have b2 : 0 ≤ (j : Int) ∧ (j : Int) < ((accV d).length : Int) := by omega
      refine ⟨fun _ => b1, fun _ => hlt, fun _ => b2, fun _ => hj, fun _ _ => b1, fun _ _ => hlt, fun _ _ => b2, fun _ _ => hj, fun _ _ => b1, fun _ _ => hlt, fun _ _ => b2, fun _ _ => hj, j + 1, by omega, by simp only [lO2]; omega, ?_⟩
      have hw : IntKind.i64.wrap ((j : Int) + 1) = ((j + 1 : Nat) : Int) := wrS (n := 2) (by omega) (by omega)
      simp [hw, comR, Bool.or_assoc]
    · have hj : ¬ j < (accV d).length := by simpa using hj
      obtain rfl : j = (accV d).length := by omega
      refine ⟨x + 1, by omega, by simp only [PLoop.of, lO0]; omega, ?_⟩
      have hw : IntKind.i64.wrap ((x : Int) + 1) = ((x + 1 : Nat) : Int) := wrS (n := 2) (by omega) (by omega)
      simp [hw, comI, foundI]
  · have hlt : ¬ x < (accV e).length := by simpa using hlt
    obtain rfl : x = (accV e).length := by omega
    refine ⟨rfl, fun _ _ => rfl, fun _ _ => trivial, fun _ _ => rfl, fun _ _ => trivial, last6 he hd⟩
end Go.Proofs.YtbhopcgbdofcjaaDoor
