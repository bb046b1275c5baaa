/-
  The relation layer: distances and shortest cycles, plainly.
-/
import Derived.Test.YtcbmbnlgilampaaRw24
namespace Go.Proofs.Ytcbmbnlgilampaa
open Go Go.Proofs.Ytcbmbnlgilampaa.Sx

theorem disG_succ {f : Pf} {n : Nat} {to : Int} {i a : Nat} : disG f n to (i + 1) a = bif disG f n to i a == 0 && hit f (disG f n to i) to i a n then ((i + 1 : Nat) : Int) else disG f n to i a := rfl
theorem disG_le {f : Pf} {n : Nat} {to : Int} : ∀ {i a : Nat}, disG f n to i a ≤ (i : Int) := by
  intro i
  induction i with
  | zero => intro a; simp [disG]
  | succ i ih =>
    intro a
    rw [disG_succ]
    cases (disG f n to i a == 0 && hit f (disG f n to i) to i a n)
    · have := ih (a := a); simp only [cond_false]; omega
    · simp only [cond_true]; omega
theorem disG_stable {f : Pf} {n : Nat} {to : Int} {i j a : Nat} (h : disG f n to i a ≠ 0) (hij : i ≤ j) : disG f n to j a = disG f n to i a := by
  induction j with
  | zero => have : i = 0 := by omega
            subst this; rfl
  | succ j ih =>
    by_cases e : i = j + 1
    · subst e; rfl
    · have ih := ih (by omega)
      rw [disG_succ, ih, beq_eq_false_iff_ne.2 h]; rfl
/-- Where a distance comes from. -/
theorem disG_src {f : Pf} {n : Nat} {to : Int} {v a : Nat} : ∀ {i : Nat}, disG f n to i a = ((v + 1 : Nat) : Int) → v + 1 ≤ i ∧ hit f (disG f n to v) to v a n = true := by
  intro i
  induction i with
  | zero => intro h; simp only [disG] at h; omega
  | succ i ih =>
    intro h
    rw [disG_succ] at h
    cases hc : (disG f n to i a == 0 && hit f (disG f n to i) to i a n) <;> rw [hc] at h
    · have := ih h; exact ⟨by omega, this.2⟩
    · simp only [cond_true] at h
      have : v = i := by omega
      subst this
      simp only [Bool.and_eq_true] at hc
      exact ⟨Nat.le_refl _, hc.2⟩
/-- The next one on a shortest path. -/
theorem disG_step {f : Pf} {n : Nat} {to : Int} {i a v : Nat} (h : disG f n to i a = ((v + 1 : Nat) : Int)) (hv : 0 < v) : ∃ b, b < n ∧ f a b = true ∧ disG f n to i b = (v : Int) := by
  obtain ⟨h1, h2⟩ := disG_src h
  simp only [hit, List.any_eq_true, List.mem_range, Bool.and_eq_true] at h2
  obtain ⟨b, hb, hf, ht⟩ := h2
  rw [tst, beq_f (by omega), cond_false, Int.toNat_natCast, beq_iff_eq] at ht
  refine ⟨b, hb, hf, ?_⟩
  rw [disG_stable (i := v) (by rw [ht]; omega) (by omega), ht]
theorem disG_last {f : Pf} {n : Nat} {to : Int} {i a : Nat} (h : disG f n to i a = 1) : f a to = true := by
  obtain ⟨_, h2⟩ := disG_src (v := 0) h
  simp only [hit, List.any_eq_true, List.mem_range, Bool.and_eq_true] at h2
  obtain ⟨b, _, hf, ht⟩ := h2
  have : (b : Int) = to := by simpa [tst] using ht
  rw [← this]; exact hf
theorem disG_tr {f : Pf} {n : Nat} {to : Int} {i : Nat} : ∀ {v a : Nat}, disG f n to i a = ((v + 1 : Nat) : Int) → Tr f a to := by
  intro v
  induction v with
  | zero => intro a h; exact .one (disG_last h)
  | succ v ih =>
    intro a h
    obtain ⟨b, _, hf, hb⟩ := disG_step h (by omega)
    exact (Tr.one hf).trans (ih hb)

/-! ### All that reaches is found -/
theorem disG_ext {f : Pf} {n : Nat} {to : Int} {i : Nat} (h : ∀ a, a < n → disG f n to (i + 1) a ≠ ((i + 1 : Nat) : Int)) (hi : 0 < i) : ∀ a, a < n → disG f n to (i + 2) a ≠ ((i + 2 : Nat) : Int) := by
  intro a ha he
  obtain ⟨b, hb, _, hd⟩ := disG_step (v := i + 1) he (by omega)
  have hle := disG_le (f := f) (n := n) (to := to) (i := i + 1) (a := b)
  by_cases h0 : disG f n to (i + 1) b = 0
  · rw [disG_succ, h0] at hd
    cases hc : (0 == 0 && hit f (disG f n to (i + 1)) to (i + 1) b n) <;> simp only [Bool.and_eq_false_iff, Bool.and_eq_true] at hc <;> first | skip
    all_goals (cases hh : hit f (disG f n to (i + 1)) to (i + 1) b n <;> rw [hh] at hd <;> simp at hd <;> omega)
  · rw [disG_stable h0 (by omega)] at hd
    exact h b hb hd
/-- How many numbers have a distance. -/
def cntD (f : Pf) (n : Nat) (to : Int) (i : Nat) : Nat := ((List.range n).filter (fun a => disG f n to i a != 0)).length
theorem cntD_le {f : Pf} {n : Nat} {to : Int} {i : Nat} : cntD f n to i ≤ n := Nat.le_trans (List.length_filter_le _ _) (by simp)
theorem cntD_grow {f : Pf} {n : Nat} {to : Int} {i a : Nat} (ha : a < n) (h : disG f n to (i + 1) a = ((i + 1 : Nat) : Int)) : cntD f n to i < cntD f n to (i + 1) := by
  refine filter_len_lt (fun x _ hx => ?_) (List.mem_range.2 ha) ?_ ?_
  · have hx2 : disG f n to i x ≠ 0 := by simpa using hx
    rw [disG_stable hx2 (by omega)]; exact hx
  · rw [Bool.eq_false_iff]
    intro hx
    have hx2 : disG f n to i a ≠ 0 := by simpa using hx
    have h1 := disG_stable hx2 (show i ≤ i + 1 by omega)
    have h2 := disG_le (f := f) (n := n) (to := to) (i := i) (a := a)
    omega
  · rw [h]; simp; omega
theorem cntD_ge {f : Pf} {n : Nat} {to : Int} : ∀ {i a : Nat}, a < n → disG f n to (i + 1) a = ((i + 1 : Nat) : Int) → i + 1 ≤ cntD f n to (i + 1) := by
  intro i
  induction i with
  | zero => intro a ha h; have := cntD_grow ha h; omega
  | succ i ih =>
    intro a ha h
    have h1 := cntD_grow ha h
    obtain ⟨b, hb, _, hd⟩ := disG_step h (by omega)
    have h2 : disG f n to (i + 1) b = ((i + 1 : Nat) : Int) := by
      by_cases h0 : disG f n to (i + 1) b = 0
      · rw [disG_succ, h0] at hd
        cases hh : hit f (disG f n to (i + 1)) to (i + 1) b n <;> rw [hh] at hd <;> simp at hd <;> omega
      · rw [disG_stable h0 (by omega)] at hd; exact hd
    have := ih hb h2
    omega
/-- Nothing is found behind n rounds. -/
theorem disG_end {f : Pf} {n : Nat} {to : Int} {a : Nat} (ha : a < n) : ∀ k, disG f n to (n + k) a = disG f n to n a := by
  have key : ∀ i, n ≤ i → ∀ a, a < n → disG f n to (i + 1) a ≠ ((i + 1 : Nat) : Int) := fun i hi a ha h => by
    have h1 := cntD_ge ha h
    have h2 := cntD_le (f := f) (n := n) (to := to) (i := i + 1)
    omega
  intro k
  induction k with
  | zero => rfl
  | succ k ih =>
    have := key (n + k) (by omega) a ha
    rw [← ih]
    show disG f n to (n + k + 1) a = disG f n to (n + k) a
    rw [disG_succ] at this ⊢
    cases hc : (disG f n to (n + k) a == 0 && hit f (disG f n to (n + k)) to (n + k) a n) <;> rw [hc] at this
    · rfl
    · exact absurd rfl this
theorem disG_found {f : Pf} {n : Nat} (hs : Sup n f) {a to : Int} (h : Tr f a to) : disG f n to n a.toNat ≠ 0 := by
  have hsp := h.sup hs
  have key : ∀ (a : Int), Tr f a to → 0 ≤ a → a < n → ∃ i, disG f n to i a.toNat ≠ 0 := by
    -- along the path from its end
    have aux : ∀ {a c : Int}, Tr f a c → (f c to = true ∨ ∃ i, 0 < i ∧ disG f n to i c.toNat ≠ 0) → ∃ i, disG f n to i a.toNat ≠ 0 := by
      have one : ∀ {a b : Int}, f a b = true → (∃ i, 0 < i ∧ disG f n to i b.toNat ≠ 0) → ∃ i, 0 < i ∧ disG f n to i a.toNat ≠ 0 := fun {a b} hf ⟨i, hi, hd⟩ => by
        have hsp := hs _ _ hf
        obtain ⟨x, rfl⟩ := Int.eq_ofNat_of_zero_le hsp.1
        obtain ⟨y, rfl⟩ := Int.eq_ofNat_of_zero_le hsp.2.2.1
        simp only [Int.toNat_natCast] at hd ⊢
        -- the round in which b came
        have hnn := disG_nonneg (f := f) (n := n) (to := to) (i := i) (a := y)
        obtain ⟨v, hv⟩ := Int.eq_ofNat_of_zero_le hnn
        have hv1 : 0 < v := by omega
        obtain ⟨w, rfl⟩ : ∃ w, v = w + 1 := ⟨v - 1, by omega⟩
        have hsrc := disG_src hv
        have hy : disG f n to (w + 1) y = ((w + 1 : Nat) : Int) := by
          by_cases h0 : disG f n to (w + 1) y = 0
          · rw [disG_succ] at h0
            cases hz : disG f n to w y == 0
            · rw [hz, Bool.false_and, cond_false] at h0
              rw [h0] at hz; simp at hz
            · rw [hz, hsrc.2] at h0; simp at h0; omega
          · rw [← hv]; exact (disG_stable h0 hsrc.1).symm
        refine ⟨w + 2, by omega, ?_⟩
        rw [disG_succ]
        cases hz : disG f n to (w + 1) x == 0
        · rw [Bool.false_and, cond_false]
          simpa using hz
        · have hh : hit f (disG f n to (w + 1)) to (w + 1) x n = true := by
            simp only [hit, List.any_eq_true, List.mem_range, Bool.and_eq_true]
            refine ⟨y, by omega, hf, ?_⟩
            rw [tst, beq_f (by omega), cond_false, Int.toNat_natCast, hy]; simp
          rw [hh]; simp; omega
      have fst : ∀ {a : Int}, f a to = true → ∃ i, 0 < i ∧ disG f n to i a.toNat ≠ 0 := fun {a} hf => by
        have hsp := hs _ _ hf
        obtain ⟨x, rfl⟩ := Int.eq_ofNat_of_zero_le hsp.1
        obtain ⟨y, hy⟩ := Int.eq_ofNat_of_zero_le hsp.2.2.1
        refine ⟨1, by omega, ?_⟩
        rw [Int.toNat_natCast, disG_succ]
        have hh : hit f (disG f n to 0) to 0 x n = true := by
          simp only [hit, List.any_eq_true, List.mem_range, Bool.and_eq_true]
          exact ⟨y, by omega, by rw [← hy]; exact hf, by simp [tst, hy]⟩
        rw [hh]; simp [disG]
      intro a c h hc
      have hc2 : ∃ i, 0 < i ∧ disG f n to i c.toNat ≠ 0 := hc.elim fst id
      have : ∃ i, 0 < i ∧ disG f n to i a.toNat ≠ 0 := by
        induction h with
        | one e => exact one e hc2
        | @tail b c h e ih => exact ih (.inr (one e hc2)) (one e hc2)
      obtain ⟨i, _, hi⟩ := this
      exact ⟨i, hi⟩
    intro a h h0 h1
    cases h with
    | one e =>
      have hsp := hs _ _ e
      obtain ⟨x, rfl⟩ := Int.eq_ofNat_of_zero_le hsp.1
      obtain ⟨y, hy⟩ := Int.eq_ofNat_of_zero_le hsp.2.2.1
      refine ⟨1, ?_⟩
      rw [Int.toNat_natCast, disG_succ]
      have hh : hit f (disG f n to 0) to 0 x n = true := by
        simp only [hit, List.any_eq_true, List.mem_range, Bool.and_eq_true]
        exact ⟨y, by omega, by rw [← hy]; exact e, by simp [tst, hy]⟩
      rw [hh]; simp [disG]
    | tail h e => exact aux h (.inl e)
  obtain ⟨i, hi⟩ := key a h hsp.1 hsp.2.1
  have ha : a.toNat < n := by omega
  by_cases hin : i ≤ n
  · rw [disG_stable hi hin]; exact hi
  · have := disG_end (f := f) (to := to) ha (i - n)
    rw [show n + (i - n) = i by omega] at this
    rw [← this]; exact hi

/-! ### The best cycle -/
theorem cyG_succ {f : Pf} {n k : Nat} : cyG f n (k + 1) = bif disG f n k n k != 0 && (decide ((cyG f n k).1 < 0) || decide (disG f n k n k < (cyG f n k).2)) then ((k : Int), disG f n k n k) else cyG f n k := rfl
theorem cyG_ok {f : Pf} {n : Nat} : ∀ k, ((cyG f n k).1 = -1 ∧ ∀ a : Nat, a < k → disG f n a n a = 0) ∨ (0 ≤ (cyG f n k).1 ∧ (cyG f n k).1 < (k : Int) ∧ (cyG f n k).2 = disG f n (cyG f n k).1 n (cyG f n k).1.toNat ∧ (cyG f n k).2 ≠ 0) := by
  intro k
  induction k with
  | zero => exact .inl ⟨rfl, fun a h => by omega⟩
  | succ k ih =>
    rw [cyG_succ]
    cases hc : (disG f n k n k != 0 && (decide ((cyG f n k).1 < 0) || decide (disG f n k n k < (cyG f n k).2)))
    · simp only [cond_false]
      rcases ih with ⟨h1, h2⟩ | ⟨h1, h2, h3⟩
      · refine .inl ⟨h1, fun a ha => ?_⟩
        by_cases e : a = k
        · subst e
          rw [h1] at hc
          simpa using hc
        · exact h2 a (by omega)
      · exact .inr ⟨h1, by omega, h3⟩
    · simp only [cond_true]
      simp only [Bool.and_eq_true, bne_iff_ne, ne_eq] at hc
      exact .inr ⟨by omega, by omega, by rw [Int.toNat_natCast], hc.1⟩
theorem cyS_ok {N : Int} {l : List Pq} (h : 0 ≤ cyS N l) : cyS N l < (N.toNat : Int) ∧ cyN N l = cyO N l (cyS N l).toNat ∧ 0 < cyN N l ∧ cyN N l ≤ (N.toNat : Int) := by
  rcases cyG_ok (f := setF l) (n := N.toNat) N.toNat with ⟨h1, _⟩ | ⟨h1, h2, h3, h4⟩
  · rw [cyS, h1] at h; omega
  · have e : cyN N l = cyO N l (cyS N l).toNat := h3
    have h5 := disG_nonneg (f := setF l) (n := N.toNat) (to := cyS N l) (i := N.toNat) (a := (cyS N l).toNat)
    have h6 := disG_le (f := setF l) (n := N.toNat) (to := cyS N l) (i := N.toNat) (a := (cyS N l).toNat)
    rw [cyO] at e
    refine ⟨h2, e, ?_, by omega⟩
    have : cyN N l ≠ 0 := h4
    omega
theorem fit_exists {f : Pf} {n : Nat} {to : Int} {a v : Nat} (h : disG f n to n a = ((v + 1 : Nat) : Int)) (hv : 0 < v) : ∃ b, b < n ∧ fit f (disG f n to n) (v : Int) (a : Int) b = true := by
  obtain ⟨b, hb, hf, hd⟩ := disG_step h hv
  exact ⟨b, hb, by rw [fit, hf, hd]; simp⟩
theorem nxt_ok {f : Pf} {n : Nat} {o : Nat → Int} {left at_ : Int} (h : ∃ b, b < n ∧ fit f o left at_ b = true) : ∃ b : Nat, nxt f n o left at_ = (b : Int) ∧ b < n ∧ fit f o left at_ b = true := by
  unfold nxt
  cases hf : (List.range n).find? (fit f o left at_) with
  | none =>
    obtain ⟨b, hb, hfb⟩ := h
    have := List.find?_eq_none.1 hf b (List.mem_range.2 hb)
    exact absurd hfb this
  | some b => exact ⟨b, rfl, List.mem_range.1 (List.mem_of_find?_eq_some hf), List.find?_some hf⟩
theorem cyP_ok {N : Int} {l : List Pq} (h : 0 ≤ cyS N l) : ∀ i : Nat, (i : Int) < cyN N l → ∃ x : Nat, cyP N l i = (x : Int) ∧ x < N.toNat ∧ cyO N l x = cyN N l - (i : Int) := by
  obtain ⟨h1, h2, h3, h4⟩ := cyS_ok h
  intro i
  induction i with
  | zero =>
    intro _
    obtain ⟨x, hx⟩ := Int.eq_ofNat_of_zero_le h
    exact ⟨x, hx, by omega, by rw [h2, hx, Int.toNat_natCast]; simp⟩
  | succ i ih =>
    intro hi
    obtain ⟨x, e1, e2, e3⟩ := ih (by omega)
    have hx : cyO N l x = ((((cyN N l - ((i + 1 : Nat) : Int)).toNat) + 1 : Nat) : Int) := by rw [e3]; omega
    have hl : cyN N l - ((i + 1 : Nat) : Int) = ((cyN N l - ((i + 1 : Nat) : Int)).toNat : Int) := by omega
    have hex := fit_exists hx (by omega)
    rw [← hl] at hex
    obtain ⟨b, hb1, hb2, hb3⟩ := nxt_ok hex
    refine ⟨b, ?_, hb2, ?_⟩
    · show nxt (setF l) N.toNat (cyO N l) (cyN N l - ((i + 1 : Nat) : Int)) (cyP N l i) = _
      rw [e1]; exact hb1
    · simp only [fit, Bool.and_eq_true, beq_iff_eq] at hb3
      exact hb3.2
/-- The next one is there, and found. -/
theorem cyP_next {N : Int} {l : List Pq} (h : 0 ≤ cyS N l) {i : Nat} (hi : ((i + 1 : Nat) : Int) < cyN N l) : ∃ b, b < N.toNat ∧ fit (setF l) (cyO N l) (cyN N l - ((i + 1 : Nat) : Int)) (cyP N l i) b = true := by
  obtain ⟨x, e1, e2, e3⟩ := cyP_ok h i (by omega)
  have hx : cyO N l x = ((((cyN N l - ((i + 1 : Nat) : Int)).toNat) + 1 : Nat) : Int) := by rw [e3]; omega
  have hl : cyN N l - ((i + 1 : Nat) : Int) = ((cyN N l - ((i + 1 : Nat) : Int)).toNat : Int) := by omega
  have hex := fit_exists hx (by omega)
  rw [← hl, ← e1] at hex
  exact hex
theorem find_first {α : Type} {p : α → Bool} {d : α} {l : List α} {k : Nat} (hk : k < l.length) (h : (l.take k).all (fun x => !p x) = true) (h2 : p (nthD d l k) = true) : l.find? p = some (nthD d l k) := by
  have e : l = l.take k ++ nthD d l k :: l.drop (k + 1) := by
    rw [← drop_succ' d hk, List.take_append_drop]
  have h3 : (l.take k).find? p = none := by
    rw [List.find?_eq_none]
    intro x hx
    have := List.all_eq_true.1 h x hx
    simpa using this
  rw [e, List.find?_append, h3, ← e]
  simp [h2]
theorem nxt_row {f : Pf} {n : Nat} {o : Nat → Int} {left : Int} {a : Nat} (ha : a < n) : nxt f n o left a = ((nthD [] (sucL n f) a).find? (fun b => o b.toNat == left)).getD a := by
  rw [nthD_sucL ha, rowL, List.find?_map, List.find?_map, List.find?_filter]
  unfold nxt
  have e : (fun x : Nat => f a x && ((fun b => o b.toNat == left) ∘ (fun p : Pq => p.2) ∘ fun b : Nat => ((a : Int), (b : Int))) x) = fit f o left a := by
    funext b
    simp [fit]
  simp only [Option.map_map]
  have e2 : (List.range n).find? (fit f o left a) = (List.range n).find? (fun x : Nat => decide (f a x = true ∧ (((fun b => o b.toNat == left) ∘ fun p : Pq => p.2) ∘ fun b : Nat => ((a : Int), (b : Int))) x = true)) := by
    congr 1
    funext b
    rw [Bool.eq_iff_iff]
    simp [fit]
  first
    | (rw [e2]; cases (List.range n).find? _ <;> rfl)
    | (rw [← e]; cases (List.range n).find? _ <;> rfl)
theorem disG_tbl {f : Pf} {n : Nat} {to : Int} : ∀ i a, a < n → disG (tblF n (tblL n f)) n to i a = disG f n to i a := by
  intro i
  induction i with
  | zero => intro a _; rfl
  | succ i ih =>
    intro a ha
    rw [disG_succ, disG_succ, ih a ha]
    have : hit (tblF n (tblL n f)) (disG (tblF n (tblL n f)) n to i) to i a n = hit f (disG f n to i) to i a n := by
      rw [hit, hit, Bool.eq_iff_iff, List.any_eq_true, List.any_eq_true]
      constructor
      · rintro ⟨b, hb, h⟩
        have hb2 := List.mem_range.1 hb
        refine ⟨b, hb, ?_⟩
        rw [tblF_tblL ha hb2] at h
        simpa [tst, ih b hb2] using h
      · rintro ⟨b, hb, h⟩
        have hb2 := List.mem_range.1 hb
        refine ⟨b, hb, ?_⟩
        rw [tblF_tblL ha hb2]
        simpa [tst, ih b hb2] using h
    rw [this]
theorem disR_tbl {f : Pf} {n : Nat} {to : Int} : disR n (disG (tblF n (tblL n f)) n to n) = disR n (disG f n to n) := mkN_congr fun a ha => disG_tbl n a ha
end Go.Proofs.Ytcbmbnlgilampaa
