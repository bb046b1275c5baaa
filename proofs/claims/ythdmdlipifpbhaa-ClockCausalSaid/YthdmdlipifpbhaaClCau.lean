/-
  The clock layer: the clock of an event is at most that of another exactly if the latter can be reached from it.
-/
import Derived.Test.YthdmdlipifpbhaaClSt
namespace Go.Proofs.Ythdmdlipifpbhaa
open Go Go.Proofs.Ythdmdlipifpbhaa.Sx
set_option linter.unusedSimpArgs false
/-! ### What reaches computes -/
def rIn (ag fr : List Int) (i : Nat) (f : Nat → Bool) (j : Nat) : Nat → Bool
  | 0 => Nat.beq j i
  | t + 1 => rIn ag fr i f j t || (f (i + t) && (inF ag (i + t) == inF ag j || inF fr j == ((i + t : Nat) : Int)))
def rF (ag fr : List Int) (i : Nat) : Nat → Nat → Bool
  | 0 => fun _ => false
  | t + 1 => fun x => bif Nat.beq x (i + t) then rIn ag fr i (rF ag fr i t) (i + t) t else rF ag fr i t x
inductive Rch (ag fr : List Int) (i : Nat) : Nat → Prop
  | refl : Rch ag fr i i
  | step {k j : Nat} : Rch ag fr i k → k < j → (inF ag k = inF ag j ∨ inF fr j = (k : Int)) → Rch ag fr i j
theorem Rch.le {ag fr : List Int} {i j : Nat} (h : Rch ag fr i j) : i ≤ j := by
  induction h with
  | refl => exact Nat.le_refl _
  | step _ h _ ih => omega
theorem Rch.inv {ag fr : List Int} {i j : Nat} (h : Rch ag fr i j) : j = i ∨ ∃ k, Rch ag fr i k ∧ k < j ∧ (inF ag k = inF ag j ∨ inF fr j = (k : Int)) := by
  cases h with
  | refl => exact .inl rfl
  | step h hk he => exact .inr ⟨_, h, hk, he⟩
theorem rIn_iff {ag fr : List Int} {i j : Nat} {f : Nat → Bool} : ∀ t, rIn ag fr i f j t = true ↔ j = i ∨ ∃ s, s < t ∧ f (i + s) = true ∧ (inF ag (i + s) = inF ag j ∨ inF fr j = ((i + s : Nat) : Int)) := by
  intro t
  induction t with
  | zero =>
    simp only [rIn]
    constructor
    · intro h; exact .inl (Nat.eq_of_beq_eq_true h)
    · rintro (h | ⟨s, hs, _⟩)
      · subst h; exact Nat.beq_refl j
      · omega
  | succ t ih =>
    simp only [rIn, Bool.or_eq_true, Bool.and_eq_true, beq_iff_eq, ih]
    constructor
    · rintro ((h | ⟨s, hs, h⟩) | h)
      · exact .inl h
      · exact .inr ⟨s, by omega, h⟩
      · exact .inr ⟨t, by omega, h⟩
    · rintro (h | ⟨s, hs, h⟩)
      · exact .inl (.inl h)
      · rcases Nat.lt_or_ge s t with h2 | h2
        · exact .inl (.inr ⟨s, h2, h⟩)
        · obtain rfl : s = t := by omega
          exact .inr h
theorem rF_iff {ag fr : List Int} {i : Nat} : ∀ t x, x < i + t → (rF ag fr i t x = true ↔ Rch ag fr i x) := by
  intro t
  induction t with
  | zero =>
    intro x hx
    simp only [rF, Bool.false_eq_true, false_iff]
    intro h
    have := h.le
    omega
  | succ t ih =>
    intro x hx
    simp only [rF]
    by_cases e : x = i + t
    · subst e
      rw [Nat.beq_refl, cond_true, rIn_iff]
      constructor
      · rintro (h | ⟨s, hs, h, he⟩)
        · have : t = 0 := by omega
          subst this
          exact .refl
        · exact .step ((ih (i + s) (by omega)).1 h) (by omega) he
      · intro h
        rcases h.inv with h | ⟨k, h, hk, he⟩
        · exact .inl (by omega)
        · have hik := h.le
          refine .inr ⟨k - i, by omega, ?_⟩
          rw [show i + (k - i) = k by omega]
          exact ⟨(ih k (by omega)).2 h, he⟩
    · have : Nat.beq x (i + t) = false := Bool.eq_false_iff.2 fun h => e (Nat.eq_of_beq_eq_true h)
      rw [this, cond_false]
      exact ih x (by omega)
/-! ### Counts -/
def cntM (ag : List Int) (z : Int) : Nat → Int
  | 0 => 0
  | n + 1 => cntM ag z n + if inF ag n = z then 1 else 0
theorem cntM_mono {ag : List Int} {z : Int} {n m : Nat} (h : n ≤ m) : cntM ag z n ≤ cntM ag z m := by
  induction m with
  | zero => obtain rfl : n = 0 := by omega
            exact Int.le_refl _
  | succ m ih =>
    rcases Nat.lt_or_ge n (m + 1) with h1 | h1
    · have := ih (by omega)
      simp only [cntM]
      split <;> omega
    · obtain rfl : n = m + 1 := by omega
      exact Int.le_refl _
theorem cntM_same {ag : List Int} {z : Int} {n m : Nat} (h : n ≤ m) (hz : ∀ k, n ≤ k → k < m → inF ag k ≠ z) : cntM ag z m = cntM ag z n := by
  induction m with
  | zero => obtain rfl : n = 0 := by omega
            rfl
  | succ m ih =>
    rcases Nat.lt_or_ge n (m + 1) with h1 | h1
    · simp only [cntM, if_neg (hz m (by omega) (by omega)), Int.add_zero]
      exact ih (by omega) fun k h2 h3 => hz k h2 (by omega)
    · obtain rfl : n = m + 1 := by omega
      rfl
theorem last_some {ag : List Int} : ∀ {n : Nat} {x k : Int}, lastF ag n x = some k → ∃ j : Nat, k = j ∧ j < n ∧ inF ag j = x ∧ ∀ m, j < m → m < n → inF ag m ≠ x := by
  intro n
  induction n with
  | zero => intro x k h; cases h
  | succ n ih =>
    intro x k h
    simp only [lastF] at h
    cases e : (x == inF ag n)
    · rw [e, cond_false] at h
      obtain ⟨j, h1, h2, h3, h4⟩ := ih h
      refine ⟨j, h1, by omega, h3, fun m hm hm2 => ?_⟩
      rcases Nat.lt_or_ge m n with h5 | h5
      · exact h4 m hm h5
      · obtain rfl : m = n := by omega
        intro h6
        rw [h6] at e
        simp at e
    · rw [e, cond_true] at h
      simp only [Option.some.injEq] at h
      exact ⟨n, h.symm, by omega, by simp at e; exact e.symm, fun m h1 h2 => by omega⟩
theorem last_none {ag : List Int} : ∀ {n : Nat} {x : Int}, lastF ag n x = none → ∀ m, m < n → inF ag m ≠ x := by
  intro n
  induction n with
  | zero => intro x _ m hm; omega
  | succ n ih =>
    intro x h m hm
    simp only [lastF] at h
    cases e : (x == inF ag n)
    · rw [e, cond_false] at h
      rcases Nat.lt_or_ge m n with h5 | h5
      · exact ih h m h5
      · obtain rfl : m = n := by omega
        intro h6
        rw [h6] at e
        simp at e
    · rw [e, cond_true] at h
      cases h
theorem row_eq (ag fr : List Int) : ∀ n j, j < n → nthC (stL ag fr n) j = newC ag fr j := by
  intro n
  induction n with
  | zero => intro j h; omega
  | succ n ih =>
    intro j h
    simp only [stL]
    by_cases e : j = n
    · subst e
      have := nthC_at (l := stL ag fr j) (x := advL (nextC ag fr (stL ag fr j) j) (inF ag j))
      rw [stL_len] at this
      rw [this]
      rfl
    · rw [nthC_lt (by rw [stL_len]; omega)]
      exact ih j (by omega)
section
variable {ag fr : List Int}
def prv (ag : List Int) (j : Nat) : Option Nat := (lastF ag j (inF ag j)).map Int.toNat
def frm (fr : List Int) (j : Nat) : Option Nat := if inF fr j ≥ 0 then some (inF fr j).toNat else none
def cO (ag fr : List Int) (o : Option Nat) (z : Int) : Int := match o with
  | some k => cntL (newC ag fr k) z
  | none => 0
theorem prv_some {j k : Nat} (h : prv ag j = some k) : k < j ∧ inF ag k = inF ag j ∧ ∀ m, k < m → m < j → inF ag m ≠ inF ag j := by
  simp only [prv, Option.map_eq_some_iff] at h
  obtain ⟨x, hx, rfl⟩ := h
  obtain ⟨q, rfl, h1, h2, h3⟩ := last_some hx
  simpa using ⟨h1, h2, h3⟩
theorem prv_none {j : Nat} (h : prv ag j = none) : ∀ m, m < j → inF ag m ≠ inF ag j := by
  simp only [prv, Option.map_eq_none_iff] at h
  exact last_none h
theorem frm_some {j k : Nat} (hf : okFr fr j = true) (h : frm fr j = some k) : k < j ∧ inF fr j = k := by
  simp only [okFr, Bool.not_eq_true', Bool.or_eq_false_iff, decide_eq_false_iff_not] at hf
  unfold frm at h
  split at h
  · simp only [Option.some.injEq] at h
    omega
  · cases h
variable (hfr : ∀ i, i < fr.length → okFr fr i = true) (hn : fr.length ≤ 512)
include hfr hn
theorem good_row {j : Nat} (hj : j < fr.length) : Good ag fr.length (newC ag fr j) := by
  obtain ⟨h, _⟩ := st_good (ag := ag) hfr fr.length (Nat.le_refl _) (by omega)
  rw [← row_eq ag fr fr.length j hj]
  exact h j hj
theorem good_nx {j : Nat} (hj : j < fr.length) : Good ag j (nxtC ag fr j) := (st_good (ag := ag) hfr j (by omega) (by omega)).2 hj
theorem nx_cnt {j : Nat} (hj : j < fr.length) (z : Int) : cntL (nxtC ag fr j) z = max (cO ag fr (prv ag j) z) (cO ag fr (frm fr j) z) := by
  have hb : cntL (baseC ag (stL ag fr j) j) z = cO ag fr (prv ag j) z ∧ Vd (baseC ag (stL ag fr j) j) := by
    unfold baseC
    cases e : isS (lastF ag j (inF ag j))
    · have : prv ag j = none := by
        cases h : lastF ag j (inF ag j)
        · simp [prv, h]
        · rw [h] at e; simp [isS] at e
      rw [this, cond_false]
      exact ⟨rfl, trivial⟩
    · have h := isS_some e
      have h2 : prv ag j = some (val0 (lastF ag j (inF ag j))).toNat := by
        simp only [prv]
        rw [h]
        rfl
      have h3 := (prv_some h2).1
      rw [h2, cond_true, row_eq _ _ _ _ h3]
      exact ⟨rfl, (good_row hfr hn (by omega)).vd⟩
  have hp : 0 ≤ cO ag fr (prv ag j) z := by rw [← hb.1]; exact cnt_nonneg hb.2 z
  have hok := hfr j hj
  unfold nxtC nextC frm
  by_cases h : inF fr j ≥ 0
  · have h4 := (frm_some (k := (inF fr j).toNat) hok (by rw [frm, if_pos h])).1
    rw [if_pos h, decide_eq_true h, cond_true, (joinL_spec hb.2 (by rw [row_eq _ _ _ _ h4]; exact (good_row hfr hn (by omega)).vd)).2, hb.1, row_eq _ _ _ _ h4]
    rfl
  · rw [if_neg h, decide_eq_false h, cond_false, hb.1]
    show cO ag fr (prv ag j) z = max (cO ag fr (prv ag j) z) 0
    omega
theorem row_cnt {j : Nat} (hj : j < fr.length) (z : Int) : cntL (newC ag fr j) z = max (cO ag fr (prv ag j) z) (cO ag fr (frm fr j) z) + if inF ag j = z then 1 else 0 := by
  have hg := good_nx (ag := ag) hfr hn hj
  obtain ⟨_, h2, _⟩ := advR_spec (a := inF ag j) hg.vd (fun t ht => by have := hg.ct t.ag; rw [cnt_mem hg.vd ht] at this; omega)
  show cntL (advL (nxtC ag fr j) (inF ag j)) z = _
  rw [advL_eq, h2]
  by_cases e : z = inF ag j
  · subst e
    rw [if_pos rfl, if_pos rfl, nx_cnt hfr hn hj]
  · rw [if_neg e, if_neg (Ne.symm e), nx_cnt hfr hn hj, Int.add_zero]
theorem cnt_leM : ∀ j, j < fr.length → (∀ z, cntL (newC ag fr j) z ≤ cntM ag z (j + 1)) ∧ cntL (newC ag fr j) (inF ag j) = cntM ag (inF ag j) (j + 1) := by
  intro j
  induction j using Nat.strongRecOn with
  | ind j ih =>
    intro hj
    have hp : ∀ z, cO ag fr (prv ag j) z ≤ cntM ag z j := fun z => by
      cases h : prv ag j with
      | none => exact cntM_mono (n := 0) (by omega)
      | some k =>
        have h1 := (prv_some h).1
        exact Int.le_trans ((ih k h1 (by omega)).1 z) (cntM_mono (by omega))
    have hf : ∀ z, cO ag fr (frm fr j) z ≤ cntM ag z j := fun z => by
      cases h : frm fr j with
      | none => exact cntM_mono (n := 0) (by omega)
      | some k =>
        have h1 := (frm_some (hfr j hj) h).1
        exact Int.le_trans ((ih k h1 (by omega)).1 z) (cntM_mono (by omega))
    have he : cO ag fr (prv ag j) (inF ag j) = cntM ag (inF ag j) j := by
      cases h : prv ag j with
      | none => exact (cntM_same (n := 0) (by omega) fun k _ hk => prv_none h k hk).symm
      | some k =>
        obtain ⟨h1, h2, h3⟩ := prv_some h
        have := (ih k h1 (by omega)).2
        rw [h2] at this
        show cntL (newC ag fr k) (inF ag j) = _
        rw [this]
        exact (cntM_same (by omega) fun m hm hm2 => h3 m (by omega) hm2).symm
    refine ⟨fun z => ?_, ?_⟩
    · rw [row_cnt hfr hn hj]
      have := hp z
      have := hf z
      simp only [cntM]
      split <;> omega
    · rw [row_cnt hfr hn hj, he]
      have := hf (inF ag j)
      simp only [cntM, if_true]
      omega
theorem mono_step {k j : Nat} (hj : j < fr.length) (hk : k < j) (he : inF ag k = inF ag j ∨ inF fr j = (k : Int)) (z : Int) : cntL (newC ag fr k) z ≤ cntL (newC ag fr j) z := by
  rcases he with he | he
  · induction j using Nat.strongRecOn with
    | ind j ih =>
      cases h : prv ag j with
      | none => exact absurd he (prv_none h k hk)
      | some p =>
        obtain ⟨h1, h2, h3⟩ := prv_some h
        have hpj : cntL (newC ag fr p) z ≤ cntL (newC ag fr j) z := by
          rw [row_cnt hfr hn hj, h]
          show _ ≤ max (cntL (newC ag fr p) z) _ + _
          split <;> omega
        rcases Nat.lt_trichotomy k p with h4 | h4 | h4
        · exact Int.le_trans (ih p h1 (by omega) h4 (by rw [he, h2])) hpj
        · subst h4; exact hpj
        · exact absurd he (h3 k h4 hk)
  · have h : frm fr j = some k := by
      unfold frm
      rw [if_pos (by omega), he]
      rfl
    rw [row_cnt hfr hn hj, h]
    show _ ≤ max _ (cntL (newC ag fr k) z) + _
    split <;> omega
theorem rch_le {i j : Nat} (h : Rch ag fr i j) (hj : j < fr.length) (z : Int) : cntL (newC ag fr i) z ≤ cntL (newC ag fr j) z := by
  induction h with
  | refl => exact Int.le_refl _
  | step h hk he ih => exact Int.le_trans (ih (by omega)) (mono_step hfr hn hj hk he z)
theorem le_rch {i : Nat} : ∀ j, j < fr.length → cntM ag (inF ag i) (i + 1) ≤ cntL (newC ag fr j) (inF ag i) → Rch ag fr i j := by
  have hM : cntM ag (inF ag i) (i + 1) = cntM ag (inF ag i) i + 1 := by simp [cntM]
  have h0 : 0 ≤ cntM ag (inF ag i) i := cntM_mono (n := 0) (by omega)
  intro j
  induction j using Nat.strongRecOn with
  | ind j ih =>
    intro hj hc
    by_cases e : inF ag j = inF ag i
    · rcases Nat.lt_trichotomy i j with h | h | h
      · exact .step .refl h (.inl e.symm)
      · subst h; exact .refl
      · have h1 := (cnt_leM (ag := ag) hfr hn j hj).1 (inF ag i)
        have h2 : cntM ag (inF ag i) (j + 1) ≤ cntM ag (inF ag i) i := cntM_mono (by omega)
        omega
    · rw [row_cnt hfr hn hj, if_neg e] at hc
      by_cases h1 : cntM ag (inF ag i) (i + 1) ≤ cO ag fr (prv ag j) (inF ag i)
      · cases h : prv ag j with
        | none => rw [h] at h1; simp only [cO] at h1; omega
        | some k =>
          rw [h] at h1
          obtain ⟨h2, h3, _⟩ := prv_some h
          exact .step (ih k h2 (by omega) h1) h2 (.inl h3)
      · have h1 : cntM ag (inF ag i) (i + 1) ≤ cO ag fr (frm fr j) (inF ag i) := by omega
        cases h : frm fr j with
        | none => rw [h] at h1; simp only [cO] at h1; omega
        | some k =>
          rw [h] at h1
          obtain ⟨h2, h3⟩ := frm_some (hfr j hj) h
          exact .step (ih k h2 (by omega) h1) h2 (.inr h3)
theorem causal {i j : Nat} (hi : i < fr.length) (hj : j < fr.length) : lessL (nthC (stL ag fr fr.length) i) (nthC (stL ag fr fr.length) j) = rF ag fr i (fr.length - i) j := by
  rw [row_eq _ _ _ _ hi, row_eq _ _ _ _ hj, Bool.eq_iff_iff, less_iff, rF_iff _ _ (by omega)]
  constructor
  · rintro ⟨_, _, h⟩
    refine le_rch hfr hn j hj ?_
    have := h (inF ag i)
    rw [(cnt_leM hfr hn i hi).2] at this
    exact this
  · intro h
    exact ⟨(good_row hfr hn hi).vc hn, (good_row hfr hn hj).vc hn, rch_le hfr hn h hj⟩
end
end Go.Proofs.Ythdmdlipifpbhaa
