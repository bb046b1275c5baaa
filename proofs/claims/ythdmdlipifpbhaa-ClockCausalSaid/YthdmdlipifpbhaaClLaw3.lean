/-
  The clock layer: plain facts: the program's functions and the reference's compute the same clocks; how they compare.
-/
import Derived.Test.YthdmdlipifpbhaaClRef
import Derived.Test.YthdmdlipifpbhaaClLaw1
import Derived.Test.YthdmdlipifpbhaaClRows
namespace Go.Proofs.Ythdmdlipifpbhaa
open Go Go.Proofs.Ythdmdlipifpbhaa.Sx
set_option linter.unusedSimpArgs false
def VC (l : List Tk) : Prop := Vd l ∧ ∀ t ∈ l, t.ct ≤ 2147483647
theorem agF_succ (x : Tk) (r : List Tk) (i : Nat) : agF (x :: r) (i + 1) = agF r i := rfl
theorem ctF_succ (x : Tk) (r : List Tk) (i : Nat) : ctF (x :: r) (i + 1) = ctF r i := rfl
theorem mem_at {l : List Tk} {t : Tk} (h : t ∈ l) : ∃ i, i < l.length ∧ agF l i = t.ag ∧ ctF l i = t.ct := by
  obtain ⟨i, hi, rfl⟩ := List.getElem_of_mem h
  exact ⟨i, hi, by simp only [agF, nthT_get l i hi], by simp only [ctF, nthT_get l i hi]⟩
theorem at_mem {l : List Tk} {i : Nat} (h : i < l.length) : ∃ t ∈ l, t.ag = agF l i ∧ t.ct = ctF l i :=
  ⟨l[i], List.getElem_mem h, by simp only [agF, nthT_get l i h], by simp only [ctF, nthT_get l i h]⟩
theorem vd_of_idx : ∀ {l : List Tk}, (∀ i, i < l.length → 1 ≤ ctF l i ∧ (0 < i → agF l (i - 1) < agF l i)) → Vd l := by
  intro l
  induction l with
  | nil => intro _; trivial
  | cons x r ih =>
    intro h
    have hr : Vd r := ih fun i hi => by
      have := h (i + 1) (by simp; omega)
      rw [ctF_succ, agF_succ] at this
      refine ⟨this.1, fun h0 => ?_⟩
      have h2 := this.2 (by omega)
      obtain ⟨k, rfl⟩ : ∃ k, i = k + 1 := ⟨i - 1, by omega⟩
      exact h2
    refine ⟨(h 0 (by simp)).1, ?_, hr⟩
    cases r with
    | nil => intro t ht; cases ht
    | cons y r' =>
      have h1 : x.ag < y.ag := (h 1 (by simp)).2 (by omega)
      intro t ht
      rcases List.mem_cons.1 ht with rfl | ht
      · exact h1
      · have := hr.2.1 t ht; omega
theorem idx_of_vd : ∀ {l : List Tk}, Vd l → ∀ i, i < l.length → 1 ≤ ctF l i ∧ (0 < i → agF l (i - 1) < agF l i) := by
  intro l
  induction l with
  | nil => intro _ i hi; simp at hi
  | cons x r ih =>
    intro h i hi
    cases i with
    | zero => exact ⟨h.1, fun h => absurd h (Nat.lt_irrefl 0)⟩
    | succ i =>
      have hi' : i < r.length := by simpa using hi
      have := ih h.tail i hi'
      rw [ctF_succ, agF_succ]
      refine ⟨this.1, fun _ => ?_⟩
      cases i with
      | zero =>
        obtain ⟨t, ht, e, _⟩ := at_mem hi'
        rw [← e]
        exact h.2.1 t ht
      | succ i => exact this.2 (by omega)
theorem Vd.lt {l : List Tk} (h : Vd l) : ∀ {i j : Nat}, i < j → j < l.length → agF l i < agF l j := by
  intro i j hij
  induction j with
  | zero => omega
  | succ j ih =>
    intro hj
    have h1 := (idx_of_vd h (j + 1) hj).2 (by omega)
    rw [Nat.add_sub_cancel] at h1
    rcases Nat.lt_or_ge i j with h2 | h2
    · have := ih h2 (by omega); omega
    · obtain rfl : i = j := by omega
      exact h1
theorem valid_iff {l : List Tk} : validL l = true ↔ VC l := by
  unfold validL
  rw [allN_iff]
  constructor
  · intro h
    have h' : ∀ i, i < l.length → 1 ≤ ctF l i ∧ ctF l i ≤ 2147483647 ∧ (0 < i → agF l (i - 1) < agF l i) := fun i hi => by
      have := h i hi
      simp only [okT, Bool.and_eq_true, Bool.not_eq_true', decide_eq_false_iff_not, Bool.and_eq_false_iff] at this
      exact ⟨by omega, by omega, fun h0 => by omega⟩
    exact ⟨vd_of_idx fun i hi => ⟨(h' i hi).1, (h' i hi).2.2⟩, fun t ht => by obtain ⟨i, hi, _, e⟩ := mem_at ht; rw [← e]; exact (h' i hi).2.1⟩
  · intro ⟨h1, h2⟩ i hi
    have h3 := idx_of_vd h1 i hi
    obtain ⟨t, ht, _, e⟩ := at_mem hi
    have h4 := h2 t ht
    simp only [okT, Bool.and_eq_true, Bool.not_eq_true', decide_eq_false_iff_not, Bool.and_eq_false_iff]
    refine ⟨⟨by omega, by omega⟩, ?_⟩
    rcases Nat.eq_zero_or_pos i with h0 | h0
    · left; omega
    · right; have := h3.2 h0; omega
theorem cnt_le {l : List Tk} (h : VC l) (z : Int) : cntL l z ≤ 2147483647 := by
  by_cases hp : 0 < cntL l z
  · obtain ⟨t, ht, e⟩ := (cnt_pos h.1).1 hp
    rw [← e, cnt_mem h.1 ht]
    exact h.2 t ht
  · omega
theorem vc_of {l : List Tk} (h : Vd l) (h2 : ∀ z, cntL l z ≤ 2147483647) : VC l := ⟨h, fun t ht => by rw [← cnt_mem h ht]; exact h2 _⟩
/-! ### Sorted lists of agents -/
def SI : List Int → Prop
  | [] => True
  | x :: r => (∀ y ∈ r, x < y) ∧ SI r
theorem ags_spec : ∀ (f : Nat) (a b : List Tk), a.length + b.length ≤ f → Vd a → Vd b → SI (agsF f a b) ∧ ∀ z, z ∈ agsF f a b ↔ (∃ t ∈ a, t.ag = z) ∨ (∃ t ∈ b, t.ag = z) := by
  intro f
  induction f with
  | zero =>
    intro a b h _ _
    have ha : a = [] := List.length_eq_zero_iff.1 (by omega)
    have hb : b = [] := List.length_eq_zero_iff.1 (by omega)
    subst ha hb
    simp [agsF, SI]
  | succ f ih =>
    intro a b h ha hb
    cases a with
    | nil =>
      cases b with
      | nil => simp [agsF, SI]
      | cons y b =>
        obtain ⟨i1, i2⟩ := ih [] b (by simp at h ⊢; omega) trivial hb.tail
        simp only [agsF]
        refine ⟨⟨fun z hz => ?_, i1⟩, fun z => ?_⟩
        · rcases (i2 z).1 hz with ⟨t, ht, _⟩ | ⟨t, ht, e⟩
          · cases ht
          · have := hb.2.1 t ht; omega
        · rw [List.mem_cons, i2 z]
          simp [eq_comm]
    | cons x a =>
      cases b with
      | nil =>
        obtain ⟨i1, i2⟩ := ih a [] (by simp at h ⊢; omega) ha.tail trivial
        simp only [agsF]
        refine ⟨⟨fun z hz => ?_, i1⟩, fun z => ?_⟩
        · rcases (i2 z).1 hz with ⟨t, ht, e⟩ | ⟨t, ht, e⟩
          · have := ha.2.1 t ht; omega
          · cases ht
        · rw [List.mem_cons, i2 z]
          simp [eq_comm]
      | cons y b =>
        simp only [agsF]
        cases h1 : decide (x.ag < y.ag)
        · have h1 : ¬ x.ag < y.ag := by simpa using h1
          cases h2 : (x.ag == y.ag)
          · have h2 : x.ag ≠ y.ag := by simpa using h2
            obtain ⟨i1, i2⟩ := ih (x :: a) b (by simp at h ⊢; omega) ha hb.tail
            simp only [cond_false]
            refine ⟨⟨fun z hz => ?_, i1⟩, fun z => ?_⟩
            · rcases (i2 z).1 hz with ⟨t, ht, e⟩ | ⟨t, ht, e⟩
              · rcases List.mem_cons.1 ht with rfl | ht
                · omega
                · have := ha.2.1 t ht; omega
              · have := hb.2.1 t ht; omega
            · rw [List.mem_cons, i2 z]
              simp only [List.mem_cons, exists_eq_or_imp, eq_comm (a := z)]
              constructor
              · rintro (h | h | h)
                · exact .inr (.inl h)
                · exact .inl h
                · exact .inr (.inr h)
              · rintro (h | h | h)
                · exact .inr (.inl h)
                · exact .inl h
                · exact .inr (.inr h)
          · have h2 : x.ag = y.ag := by simpa using h2
            obtain ⟨i1, i2⟩ := ih a b (by simp at h ⊢; omega) ha.tail hb.tail
            simp only [cond_false, cond_true]
            refine ⟨⟨fun z hz => ?_, i1⟩, fun z => ?_⟩
            · rcases (i2 z).1 hz with ⟨t, ht, e⟩ | ⟨t, ht, e⟩
              · have := ha.2.1 t ht; omega
              · have := hb.2.1 t ht; omega
            · rw [List.mem_cons, i2 z]
              simp only [List.mem_cons, exists_eq_or_imp, eq_comm (a := z), h2]
              constructor
              · rintro (h | h | h)
                · exact .inl (.inl h)
                · exact .inl (.inr h)
                · exact .inr (.inr h)
              · rintro ((h | h) | (h | h))
                · exact .inl h
                · exact .inr (.inl h)
                · exact .inl h
                · exact .inr (.inr h)
        · have h1 : x.ag < y.ag := by simpa using h1
          obtain ⟨i1, i2⟩ := ih a (y :: b) (by simp at h ⊢; omega) ha.tail hb
          simp only [cond_true]
          refine ⟨⟨fun z hz => ?_, i1⟩, fun z => ?_⟩
          · rcases (i2 z).1 hz with ⟨t, ht, e⟩ | ⟨t, ht, e⟩
            · have := ha.2.1 t ht; omega
            · rcases List.mem_cons.1 ht with rfl | ht
              · omega
              · have := hb.2.1 t ht; omega
          · rw [List.mem_cons, i2 z]
            simp only [List.mem_cons, exists_eq_or_imp, eq_comm (a := z), or_assoc]
theorem mkL_map (L : List Int) (g : Int → Int) : mkL L.length (inF L) (fun j => g (inF L j)) = L.map fun z => ⟨z, g z⟩ := by
  apply List.ext_getElem
  · simp
  · intro j h1 h2
    have hj : j < L.length := by simpa using h2
    rw [← nthT_get _ _ h1, nth_mkL hj, List.getElem_map, ← inF_get _ _ hj]
theorem map_vd {g : Int → Int} : ∀ {L : List Int}, SI L → (∀ z ∈ L, 1 ≤ g z) → Vd (L.map fun z => ⟨z, g z⟩) := by
  intro L
  induction L with
  | nil => intro _ _; trivial
  | cons x r ih =>
    intro h hp
    refine ⟨hp x (by simp), fun t ht => ?_, ih h.2 fun z hz => hp z (by simp [hz])⟩
    simp only [List.mem_map] at ht
    obtain ⟨z, hz, rfl⟩ := ht
    exact h.1 z hz
theorem map_cnt {g : Int → Int} (L : List Int) (z : Int) : cntL (L.map fun z => ⟨z, g z⟩) z = if z ∈ L then g z else 0 := by
  induction L with
  | nil => rfl
  | cons x r ih =>
    by_cases e : x = z
    · subst e
      rw [List.map_cons, cnt_head rfl, if_pos (by simp)]
    · rw [List.map_cons, cnt_tail e, ih]
      simp [Ne.symm e]
theorem filter_si {p : Int → Bool} : ∀ {L : List Int}, SI L → SI (L.filter p) := by
  intro L
  induction L with
  | nil => intro _; trivial
  | cons x r ih =>
    intro h
    rw [List.filter_cons]
    split
    · exact ⟨fun y hy => h.1 y (List.mem_filter.1 hy).1, ih h.2⟩
    · exact ih h.2
theorem ag_si : ∀ {l : List Tk}, Vd l → SI (l.map Tk.ag) := by
  intro l
  induction l with
  | nil => intro _; trivial
  | cons x r ih =>
    intro h
    refine ⟨fun y hy => ?_, ih h.tail⟩
    simp only [List.mem_map] at hy
    obtain ⟨t, ht, rfl⟩ := hy
    exact h.2.1 t ht
theorem oneT_vd (a : Int) : Vd (oneT a) := ⟨by simp, (fun t ht => by cases ht), trivial⟩
theorem no_ag {l : List Tk} {z : Int} (h : ¬ ∃ t ∈ l, t.ag = z) : cntL l z = 0 := cnt_notin fun t ht e => h ⟨t, ht, e⟩
theorem jn_eq (a b : List Tk) : jnL a b = rjL a b := by
  cases h : validL a && validL b
  · simp only [jnL, rjL, h, cond_false]
  · simp only [jnL, rjL, h, cond_true]
    simp only [Bool.and_eq_true, valid_iff] at h
    obtain ⟨ha, hb⟩ := h
    obtain ⟨s1, s2⟩ := ags_spec _ a b (Nat.le_refl _) ha.1 hb.1
    have e : mkL (agsL a b).length (inF (agsL a b)) (rjC a b (agsL a b)) = (agsL a b).map fun z => ⟨z, max2 (cntL a z) (cntL b z)⟩ := mkL_map (agsL a b) fun z => max2 (cntL a z) (cntL b z)
    obtain ⟨j1, j2⟩ := joinL_spec ha.1 hb.1
    rw [e]
    refine Vd.ext j1 (map_vd s1 fun z hz => ?_) fun z => ?_
    · rw [max2_eq]
      have h1 := cnt_nonneg ha.1 z
      have h2 := cnt_nonneg hb.1 z
      rcases (s2 z).1 hz with h | h
      · have := (cnt_pos ha.1).2 h; omega
      · have := (cnt_pos hb.1).2 h; omega
    · rw [j2, map_cnt, max2_eq]
      split
      · rfl
      · rename_i hz
        have hz := fun h => hz ((s2 z).2 h)
        rw [no_ag fun h => hz (.inl h), no_ag fun h => hz (.inr h)]
        rfl
theorem adv_eq (c : List Tk) (a : Int) : advanceL c a = raL c a := by
  cases h : validL c && !(cntL c a == 2147483647)
  · simp only [advanceL, raL, h, cond_false]
  · simp only [advanceL, raL, h, cond_true]
    simp only [Bool.and_eq_true, valid_iff] at h
    obtain ⟨hc, hm⟩ := h
    obtain ⟨s1, s2⟩ := ags_spec _ c (oneT a) (Nat.le_refl _) hc.1 (oneT_vd a)
    have e : mkL (agsL c (oneT a)).length (inF (agsL c (oneT a))) (raC c a (agsL c (oneT a))) = (agsL c (oneT a)).map fun z => ⟨z, bif z == a then w64 (cntL c z + 1) else cntL c z⟩ := mkL_map (agsL c (oneT a)) fun z => bif z == a then w64 (cntL c z + 1) else cntL c z
    obtain ⟨j1, j2, _⟩ := advR_spec (a := a) hc.1 (fun t ht => by have := hc.2 t ht; omega)
    have hn := cnt_nonneg hc.1 a
    have hx := cnt_le hc a
    have hw : w64 (cntL c a + 1) = cntL c a + 1 := w64_eq (by omega) (by omega)
    have hin : a ∈ agsL c (oneT a) := (s2 a).2 (.inr ⟨⟨a, 1⟩, by simp [oneT], rfl⟩)
    rw [e, advL_eq]
    refine Vd.ext j1 (map_vd s1 fun z hz => ?_) fun z => ?_
    · cases e : (z == a)
      · have e : z ≠ a := by simpa using e
        rw [cond_false]
        rcases (s2 z).1 hz with h | ⟨t, ht, e'⟩
        · have := (cnt_pos hc.1).2 h; omega
        · simp [oneT] at ht
          subst ht
          exact absurd e'.symm e
      · have e : z = a := by simpa using e
        subst e
        rw [cond_true, hw]
        omega
    · rw [j2, map_cnt]
      by_cases e : z = a
      · subst e
        rw [if_pos rfl, if_pos hin, beq_self_eq_true, cond_true, hw]
      · have e' : (z == a) = false := by simpa using e
        rw [if_neg e, e', cond_false]
        split
        · rfl
        · rename_i hz
          exact no_ag fun h => hz ((s2 z).2 (.inl h))
/-! ### Meet -/
def mP (a b : List Tk) (z : Int) : Bool := decide (min2 (cntL a z) (cntL b z) > 0)
def mG (a b : List Tk) (z : Int) : Tk := ⟨z, min2 (cntL a z) (cntL b z)⟩
theorem fm_spec {a b : List Tk} {L : List Int} (hs : SI L) (hL : ∀ z, 0 < cntL a z → z ∈ L) (ha : Vd a) (hb : Vd b) : Vd ((L.filter (mP a b)).map (mG a b)) ∧ ∀ z, cntL ((L.filter (mP a b)).map (mG a b)) z = min (cntL a z) (cntL b z) := by
  refine ⟨map_vd (g := fun z => min2 (cntL a z) (cntL b z)) (filter_si hs) fun z hz => ?_, fun z => (map_cnt (g := fun z => min2 (cntL a z) (cntL b z)) _ z).trans ?_⟩
  · have := (List.mem_filter.1 hz).2
    simp only [mP, decide_eq_true_eq] at this
    omega
  · have h1 := cnt_nonneg ha z
    have h2 := cnt_nonneg hb z
    split
    · exact min2_eq _ _
    · rename_i h
      rw [List.mem_filter] at h
      by_cases hp : 0 < min (cntL a z) (cntL b z)
      · exact absurd ⟨hL z (by omega), by simp only [mP, min2_eq, decide_eq_true_eq]; exact hp⟩ h
      · omega
theorem skipF_spec (b : List Tk) (x : Int) : ∀ (f j : Nat), b.length - j = f → j ≤ b.length → j ≤ skipF b x f j ∧ skipF b x f j ≤ b.length ∧ (∀ i, j ≤ i → i < skipF b x f j → agF b i < x) ∧ (skipF b x f j < b.length → x ≤ agF b (skipF b x f j)) := by
  intro f
  induction f with
  | zero =>
    intro j h1 h2
    exact ⟨Nat.le_refl _, h2, fun i h3 h4 => absurd h4 (by show ¬ i < j; omega), fun h => absurd h (by show ¬ j < _; omega)⟩
  | succ f ih =>
    intro j h1 h2
    simp only [skipF]
    cases h : decide ((j : Int) < (b.length : Int)) && decide (agF b j < x)
    · simp only [cond_false]
      refine ⟨Nat.le_refl _, h2, fun i h3 h4 => by omega, fun hj => ?_⟩
      simp only [Bool.and_eq_false_iff, decide_eq_false_iff_not] at h
      omega
    · simp only [cond_true]
      simp only [Bool.and_eq_true, decide_eq_true_eq] at h
      obtain ⟨i1, i2, i3, i4⟩ := ih (j + 1) (by omega) (by omega)
      refine ⟨by omega, i2, fun i h3 h4 => ?_, i4⟩
      rcases Nat.lt_or_ge j i with h5 | h5
      · exact i3 i (by omega) h4
      · obtain rfl : i = j := by omega
        exact h.2
theorem bel_spec {a b : List Tk} (ha : Vd a) : ∀ i, i < a.length → belJ a b (i + 1) ≤ b.length ∧ (∀ k, k < belJ a b (i + 1) → agF b k < agF a i) ∧ (belJ a b (i + 1) < b.length → agF a i ≤ agF b (belJ a b (i + 1))) := by
  intro i
  induction i with
  | zero =>
    intro _
    obtain ⟨_, h2, h3, h4⟩ := skipF_spec b (agF a 0) (b.length - 0) 0 rfl (Nat.zero_le _)
    exact ⟨h2, fun k hk => h3 k (Nat.zero_le _) hk, h4⟩
  | succ i ih =>
    intro hi
    obtain ⟨i1, i2, _⟩ := ih (by omega)
    obtain ⟨_, h2, h3, h4⟩ := skipF_spec b (agF a (i + 1)) (b.length - belJ a b (i + 1)) (belJ a b (i + 1)) rfl i1
    refine ⟨h2, fun k hk => ?_, h4⟩
    rcases Nat.lt_or_ge k (belJ a b (i + 1)) with h | h
    · have := i2 k h
      have := ha.lt (i := i) (j := i + 1) (by omega) hi
      omega
    · exact h3 k h hk
theorem cnt_at' {b : List Tk} (hb : Vd b) {x : Int} {k : Nat} (h2 : ∀ i, i < k → agF b i < x) (h3 : k < b.length → x ≤ agF b k) : cntL b x = if k < b.length ∧ agF b k = x then ctF b k else 0 := by
  split
  · rename_i h
    obtain ⟨t, ht, e1, e2⟩ := at_mem h.1
    rw [← h.2, ← e1, cnt_mem hb ht, e2]
  · rename_i h
    refine cnt_notin fun t ht e => ?_
    obtain ⟨i, hi, e1, _⟩ := mem_at ht
    rw [e] at e1
    rcases Nat.lt_trichotomy i k with h5 | h5 | h5
    · have := h2 i h5; omega
    · subst h5; exact h ⟨hi, e1⟩
    · have := hb.lt h5 hi
      have := h3 (by omega)
      omega
theorem cnt_bel {a b : List Tk} (ha : Vd a) (hb : Vd b) {i : Nat} (hi : i < a.length) : cntL b (agF a i) = if belJ a b (i + 1) < b.length ∧ agF b (belJ a b (i + 1)) = agF a i then ctF b (belJ a b (i + 1)) else 0 := by
  obtain ⟨_, h2, h3⟩ := bel_spec (b := b) ha i hi
  exact cnt_at' hb h2 h3
theorem cnt_idx {a : List Tk} (ha : Vd a) {i : Nat} (hi : i < a.length) : cntL a (agF a i) = ctF a i := by
  obtain ⟨t, ht, e1, e2⟩ := at_mem hi
  rw [← e1, cnt_mem ha ht, e2]
theorem bel_eq {a b : List Tk} (ha : Vd a) (hb : Vd b) {i : Nat} (hi : i < a.length) : belB a b i = rlB a b i := by
  have h1 := cnt_bel ha hb hi
  have h2 := (idx_of_vd ha i hi).1
  have h3 := (bel_spec (b := b) ha i hi).1
  simp only [belB, rlB]
  by_cases h : belJ a b (i + 1) < b.length ∧ agF b (belJ a b (i + 1)) = agF a i
  · rw [if_pos h] at h1
    have e1 : ((belJ a b (i + 1) : Int) == (b.length : Int)) = false := by simp; omega
    rw [h1, e1, h.2, bne_self_eq_false, beq_self_eq_true]
    by_cases hc : ctF b (belJ a b (i + 1)) < ctF a i
    · have e2 : (ctF b (belJ a b (i + 1)) == ctF a i) = false := by simp; omega
      simp [e2, hc]
    · simp [hc]
  · rw [if_neg h] at h1
    rw [h1]
    have e2 : decide (ctF a i > 0) = true := by simp; omega
    have e3 : ((belJ a b (i + 1) : Int) == (b.length : Int) || agF b (belJ a b (i + 1)) != agF a i) = true := by
      rw [Bool.or_eq_true]
      by_cases hl : belJ a b (i + 1) < b.length
      · right; simp; exact fun e => h ⟨hl, e⟩
      · left; simp; omega
    rw [e2, e3]
    rfl
theorem allN_congr {n : Nat} {p q : Nat → Bool} (h : ∀ i, i < n → p i = q i) : allN n p = allN n q := by
  induction n with
  | zero => rfl
  | succ n ih => simp only [allN, h n (by omega), ih fun i hi => h i (by omega)]
theorem less_eq (a b : List Tk) : lessL a b = rlL a b := by
  simp only [lessL, rlL]
  cases ha : validL a
  · rfl
  · cases hb : validL b
    · rfl
    · simp only [Bool.true_and, belL]
      exact allN_congr fun i hi => bel_eq (valid_iff.1 ha).1 (valid_iff.1 hb).1 hi
theorem conc_eq (a b : List Tk) : concL a b = rcL a b := by
  have h1 := less_eq a b
  have h2 := less_eq b a
  simp only [concL, rcL, ← h1, ← h2, lessL]
  cases validL a <;> cases validL b <;> simp
theorem met_eq {a b : List Tk} (ha : Vd a) (hb : Vd b) : ∀ i, i ≤ a.length → metO a b i = (((a.take i).map Tk.ag).filter (mP a b)).map (mG a b) := by
  intro i
  induction i with
  | zero => intro _; rfl
  | succ i ih =>
    intro hi
    have hi' : i < a.length := by omega
    rw [take_snoc hi', List.map_append, List.filter_append, List.map_append, ← ih (by omega)]
    have h1 := cnt_bel ha hb hi'
    have h2 := (idx_of_vd ha i hi').1
    have h3 := cnt_idx ha hi'
    simp only [metO]
    by_cases h : belJ a b (i + 1) < b.length ∧ agF b (belJ a b (i + 1)) = agF a i
    · rw [if_pos h] at h1
      obtain ⟨t, ht, _, e⟩ := at_mem h.1
      obtain ⟨k, hk, _, e'⟩ := mem_at ht
      have h4 := (idx_of_vd hb _ h.1).1
      have e1 : (decide ((belJ a b (i + 1) : Int) < (b.length : Int)) && agF b (belJ a b (i + 1)) == agF a i) = true := by simp [h.2]; omega
      have e2 : mP a b (agF a i) = true := by simp only [mP, h1, h3, min2_eq, decide_eq_true_eq]; omega
      rw [e1, cond_true]
      simp only [List.map_cons, List.map_nil, List.filter_cons, e2, if_true, List.filter_nil, mG, h1, h3]
    · rw [if_neg h] at h1
      have e1 : (decide ((belJ a b (i + 1) : Int) < (b.length : Int)) && agF b (belJ a b (i + 1)) == agF a i) = false := by
        rw [Bool.and_eq_false_iff]
        by_cases hl : belJ a b (i + 1) < b.length
        · right; simp; exact fun e => h ⟨hl, e⟩
        · left; simp; omega
      have e2 : mP a b (agF a i) = false := by simp only [mP, h1, h3, min2_eq, decide_eq_false_iff_not]; omega
      rw [e1, cond_false]
      simp [List.filter_cons, e2]
theorem rm_eq (a b : List Tk) (L : List Int) : ∀ i, i ≤ L.length → rmO a b L i = ((L.take i).filter (mP a b)).map (mG a b) := by
  intro i
  induction i with
  | zero => intro _; rfl
  | succ i ih =>
    intro hi
    have hi' : i < L.length := by omega
    have ht : L.take (i + 1) = L.take i ++ [inF L i] := by rw [List.take_succ_eq_append_getElem hi', inF_get L i hi']
    rw [ht, List.filter_append, List.map_append, ← ih (by omega)]
    simp only [rmO]
    cases h : decide (rmC a b L i > 0)
    · have e2 : mP a b (inF L i) = false := h
      simp [List.filter_cons, e2]
    · have e2 : mP a b (inF L i) = true := h
      simp only [cond_true, List.filter_cons, e2, if_true, List.filter_nil, List.map_cons, List.map_nil, mG]
      rfl
theorem metO_spec {a b : List Tk} (ha : Vd a) (hb : Vd b) : Vd (metO a b a.length) ∧ ∀ z, cntL (metO a b a.length) z = min (cntL a z) (cntL b z) := by
  rw [met_eq ha hb _ (Nat.le_refl _), List.take_length]
  refine fm_spec (ag_si ha) (fun z hz => ?_) ha hb
  obtain ⟨t, ht, e⟩ := (cnt_pos ha).1 hz
  exact List.mem_map.2 ⟨t, ht, e⟩
theorem meet_eq (a b : List Tk) : meetL a b = rmL a b := by
  cases h : validL a && validL b
  · simp only [meetL, rmL, h, cond_false]
  · simp only [meetL, rmL, h, cond_true]
    simp only [Bool.and_eq_true, valid_iff] at h
    obtain ⟨ha, hb⟩ := h
    obtain ⟨s1, s2⟩ := ags_spec _ a b (Nat.le_refl _) ha.1 hb.1
    obtain ⟨m1, m2⟩ := metO_spec ha.1 hb.1
    rw [rm_eq a b _ _ (Nat.le_refl _), List.take_length]
    obtain ⟨f1, f2⟩ := fm_spec (L := agsL a b) s1 (fun z hz => (s2 z).2 (.inl ((cnt_pos ha.1).1 hz))) ha.1 hb.1
    exact Vd.ext m1 f1 fun z => by rw [m2, f2]
/-! ### How clocks compare -/
theorem less_iff {a b : List Tk} : lessL a b = true ↔ VC a ∧ VC b ∧ ∀ z, cntL a z ≤ cntL b z := by
  rw [less_eq]
  simp only [rlL, Bool.and_eq_true, valid_iff, allN_iff]
  constructor
  · rintro ⟨ha, hb, h⟩
    refine ⟨ha, hb, fun z => ?_⟩
    by_cases hz : 0 < cntL a z
    · obtain ⟨t, ht, e⟩ := (cnt_pos ha.1).1 hz
      obtain ⟨i, hi, e1, e2⟩ := mem_at ht
      have := h i hi
      simp only [rlB, Bool.not_eq_true', decide_eq_false_iff_not] at this
      rw [← cnt_idx ha.1 hi, e1, e] at this
      omega
    · have := cnt_nonneg hb.1 z; omega
  · rintro ⟨ha, hb, h⟩
    refine ⟨ha, hb, fun i hi => ?_⟩
    simp only [rlB, Bool.not_eq_true', decide_eq_false_iff_not]
    have := h (agF a i)
    rw [cnt_idx ha.1 hi] at this
    omega
theorem same_iff {a b : List Tk} : sameL a b = true ↔ a = b := by
  simp only [sameL, Bool.and_eq_true, decide_eq_true_eq, allN_iff]
  constructor
  · rintro ⟨h1, h2⟩
    refine List.ext_getElem h1 fun i h3 h4 => ?_
    have := h2 i h3
    simp only [sameAt, Bool.and_eq_true, beq_iff_eq] at this
    rw [← nthT_get _ _ h3, ← nthT_get _ _ h4]
    exact Tk.ext' this.1 this.2
  · rintro rfl
    exact ⟨rfl, fun i _ => by simp [sameAt]⟩
end Go.Proofs.Ythdmdlipifpbhaa
