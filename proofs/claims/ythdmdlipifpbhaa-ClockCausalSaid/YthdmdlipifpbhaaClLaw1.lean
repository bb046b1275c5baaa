/-
  The clock layer: plain facts on clocks as sorted lists.
-/
import Derived.Test.YthdmdlipifpbhaaClSpec
namespace Go.Proofs.Ythdmdlipifpbhaa
open Go Go.Proofs.Ythdmdlipifpbhaa.Sx
/-- Agents strictly increase, counts are positive. -/
def Vd : List Tk → Prop
  | [] => True
  | x :: r => 1 ≤ x.ct ∧ (∀ t ∈ r, x.ag < t.ag) ∧ Vd r
theorem Vd.tail {x : Tk} {r : List Tk} (h : Vd (x :: r)) : Vd r := h.2.2
theorem cnt_notin {l : List Tk} {a : Int} (h : ∀ t ∈ l, t.ag ≠ a) : cntL l a = 0 := by
  induction l with
  | nil => rfl
  | cons x r ih =>
    have h1 : (x.ag == a) = false := by simpa using h x (by simp)
    simp only [cntL, h1, cond_false]
    exact ih fun t ht => h t (by simp [ht])
theorem cnt_head {x : Tk} {r : List Tk} {a : Int} (h : x.ag = a) : cntL (x :: r) a = x.ct := by
  have h1 : (x.ag == a) = true := by simpa using h
  simp only [cntL, h1, cond_true]
theorem cnt_tail {x : Tk} {r : List Tk} {a : Int} (h : x.ag ≠ a) : cntL (x :: r) a = cntL r a := by
  have h1 : (x.ag == a) = false := by simpa using h
  simp only [cntL, h1, cond_false]
theorem cnt_nonneg {l : List Tk} (h : Vd l) (a : Int) : 0 ≤ cntL l a := by
  induction l with
  | nil => simp [cntL]
  | cons x r ih =>
    by_cases e : x.ag = a
    · rw [cnt_head e]; have := h.1; omega
    · rw [cnt_tail e]; exact ih h.tail
theorem cnt_pos {l : List Tk} (h : Vd l) {a : Int} : 0 < cntL l a ↔ ∃ t ∈ l, t.ag = a := by
  induction l with
  | nil => simp [cntL]
  | cons x r ih =>
    by_cases e : x.ag = a
    · rw [cnt_head e]
      have := h.1
      constructor
      · intro _; exact ⟨x, by simp, e⟩
      · intro _; omega
    · rw [cnt_tail e, ih h.tail]
      constructor
      · rintro ⟨t, ht, e'⟩; exact ⟨t, by simp [ht], e'⟩
      · rintro ⟨t, ht, e'⟩
        rcases List.mem_cons.1 ht with rfl | ht
        · exact absurd e' e
        · exact ⟨t, ht, e'⟩
theorem cnt_mem {l : List Tk} (h : Vd l) {t : Tk} (ht : t ∈ l) : cntL l t.ag = t.ct := by
  induction l with
  | nil => cases ht
  | cons x r ih =>
    rcases List.mem_cons.1 ht with rfl | ht
    · exact cnt_head rfl
    · have : x.ag ≠ t.ag := by have := h.2.1 t ht; omega
      rw [cnt_tail this]
      exact ih h.tail ht
theorem cnt_below {l : List Tk} {a : Int} (h : ∀ t ∈ l, a < t.ag) : cntL l a = 0 := cnt_notin fun t ht e => by have := h t ht; omega
theorem Tk.ext' {x y : Tk} (h1 : x.ag = y.ag) (h2 : x.ct = y.ct) : x = y := by cases x; cases y; simp at h1 h2; simp [h1, h2]
/-- Clocks with the same counts are the same. -/
theorem Vd.ext : ∀ {a b : List Tk}, Vd a → Vd b → (∀ x, cntL a x = cntL b x) → a = b := by
  intro a
  induction a with
  | nil =>
    intro b _ hb h
    cases b with
    | nil => rfl
    | cons y s =>
      have := h y.ag
      rw [cnt_head rfl] at this
      have := hb.1
      simp [cntL] at *
      omega
  | cons x r ih =>
    intro b ha hb h
    cases b with
    | nil =>
      have := h x.ag
      rw [cnt_head rfl] at this
      have := ha.1
      simp [cntL] at *
      omega
    | cons y s =>
      have e : x.ag = y.ag := by
        rcases Int.lt_trichotomy x.ag y.ag with hlt | he | hgt
        · have h1 := h x.ag
          rw [cnt_head rfl, cnt_below (l := y :: s) (fun t ht => by
            rcases List.mem_cons.1 ht with rfl | ht
            · exact hlt
            · have := hb.2.1 t ht; omega)] at h1
          have := ha.1
          omega
        · exact he
        · have h1 := h y.ag
          rw [cnt_head rfl, cnt_below (l := x :: r) (fun t ht => by
            rcases List.mem_cons.1 ht with rfl | ht
            · exact hgt
            · have := ha.2.1 t ht; omega)] at h1
          have := hb.1
          omega
      have e2 : x.ct = y.ct := by
        have h1 := h x.ag
        rwa [cnt_head rfl, cnt_head e.symm] at h1
      obtain rfl := Tk.ext' e e2
      congr 1
      refine ih ha.tail hb.tail fun z => ?_
      by_cases ez : x.ag = z
      · subst ez
        rw [cnt_below ha.2.1, cnt_below hb.2.1]
      · have := h z
        rwa [cnt_tail ez, cnt_tail ez] at this
theorem max2_eq (x y : Int) : max2 x y = max x y := by unfold max2; split <;> omega
theorem min2_eq (x y : Int) : min2 x y = min x y := by unfold min2; split <;> omega
/-- All agents are above x. -/
def Abv (x : Int) (l : List Tk) : Prop := ∀ t ∈ l, x < t.ag
theorem join_spec : ∀ (f : Nat) (a b : List Tk), a.length + b.length ≤ f → Vd a → Vd b → Vd (joinF f a b) ∧ (∀ z, cntL (joinF f a b) z = max (cntL a z) (cntL b z)) ∧ ∀ z, Abv z a → Abv z b → Abv z (joinF f a b) := by
  intro f
  induction f with
  | zero =>
    intro a b h _ _
    have ha : a = [] := List.eq_nil_of_length_eq_zero (by omega)
    have hb : b = [] := List.eq_nil_of_length_eq_zero (by omega)
    subst ha hb
    exact ⟨trivial, fun z => by simp [joinF, cntL], fun z _ _ t ht => by simp [joinF] at ht⟩
  | succ f ih =>
    intro a b h ha hb
    cases a with
    | nil => exact ⟨hb, fun z => by simp only [joinF, cntL]; have := cnt_nonneg hb z; omega, fun z _ h2 => h2⟩
    | cons x r =>
      cases b with
      | nil => exact ⟨ha, fun z => by simp only [joinF]; have h1 := cnt_nonneg ha z; rw [show cntL [] z = 0 from rfl]; omega, fun z h1 _ => h1⟩
      | cons y s =>
        simp only [List.length_cons] at h
        simp only [joinF]
        have axr : Abv x.ag r := ha.2.1
        have ays : Abv y.ag s := hb.2.1
        have key : ∀ (u : Tk) (j : List Tk) (p q : List Tk), Vd j → (∀ z, cntL j z = max (cntL p z) (cntL q z)) → (∀ z, Abv z p → Abv z q → Abv z j) → 1 ≤ u.ct → Abv u.ag p → Abv u.ag q → (∀ z, u.ag ≠ z → cntL (x :: r) z = cntL p z ∧ cntL (y :: s) z = cntL q z) → (u.ct = max (cntL (x :: r) u.ag) (cntL (y :: s) u.ag)) → (∀ z, Abv z (x :: r) → Abv z (y :: s) → z < u.ag ∧ Abv z p ∧ Abv z q) →
            Vd (u :: j) ∧ (∀ z, cntL (u :: j) z = max (cntL (x :: r) z) (cntL (y :: s) z)) ∧ ∀ z, Abv z (x :: r) → Abv z (y :: s) → Abv z (u :: j) := by
          intro u j p q h1 h2 h3 h4 h5 h6 h7 h8 h9
          refine ⟨⟨h4, h3 _ h5 h6, h1⟩, fun z => ?_, fun z hz1 hz2 t ht => ?_⟩
          · by_cases e : u.ag = z
            · subst e; rw [cnt_head rfl, h8]
            · rw [cnt_tail e, h2, (h7 z e).1, (h7 z e).2]
          · obtain ⟨e1, e2, e3⟩ := h9 z hz1 hz2
            rcases List.mem_cons.1 ht with rfl | ht
            · exact e1
            · exact h3 z e2 e3 t ht
        cases h1 : (x.ag == y.ag && x.ct == y.ct)
        · simp only [cond_false]
          cases h2 : decide (x.ag < y.ag)
          · simp only [cond_false]
            have h2 : ¬ x.ag < y.ag := by simpa using h2
            cases h3 : decide (x.ag > y.ag)
            · simp only [cond_false]
              have h3 : ¬ x.ag > y.ag := by simpa using h3
              have e : x.ag = y.ag := by omega
              obtain ⟨i1, i2, i3⟩ := ih r s (by omega) ha.tail hb.tail
              refine key ⟨x.ag, max2 x.ct y.ct⟩ _ r s i1 i2 i3 (by rw [max2_eq]; have := ha.1; show 1 ≤ max x.ct y.ct; omega) axr (by rw [e]; exact ays) (fun z hz => ⟨cnt_tail hz, cnt_tail (by rw [← e]; exact hz)⟩) ?_ (fun z h1 h2 => ⟨h1 x (by simp), fun t ht => h1 t (by simp [ht]), fun t ht => h2 t (by simp [ht])⟩)
              rw [cnt_head rfl, cnt_head e.symm, max2_eq]
            · simp only [cond_true]
              have h3 : x.ag > y.ag := by simpa using h3
              obtain ⟨i1, i2, i3⟩ := ih (x :: r) s (by simp; omega) ha hb.tail
              have ab : Abv y.ag (x :: r) := fun t ht => by
                rcases List.mem_cons.1 ht with rfl | ht
                · exact h3
                · have := axr t ht; omega
              refine key y _ (x :: r) s i1 i2 i3 hb.1 ab ays (fun z hz => ⟨rfl, cnt_tail hz⟩) ?_ (fun z h1 h2 => ⟨h2 y (by simp), h1, fun t ht => h2 t (by simp [ht])⟩)
              rw [cnt_below ab, cnt_head rfl]
              have := hb.1
              omega
          · simp only [cond_true]
            have h2 : x.ag < y.ag := by simpa using h2
            obtain ⟨i1, i2, i3⟩ := ih r (y :: s) (by simp; omega) ha.tail hb
            have ab : Abv x.ag (y :: s) := fun t ht => by
              rcases List.mem_cons.1 ht with rfl | ht
              · exact h2
              · have := ays t ht; omega
            refine key x _ r (y :: s) i1 i2 i3 ha.1 axr ab (fun z hz => ⟨cnt_tail hz, rfl⟩) ?_ (fun z h1 h2 => ⟨h1 x (by simp), fun t ht => h1 t (by simp [ht]), h2⟩)
            rw [cnt_below ab, cnt_head rfl]
            have := ha.1
            omega
        · simp only [cond_true]
          simp only [Bool.and_eq_true, beq_iff_eq] at h1
          obtain ⟨i1, i2, i3⟩ := ih r s (by omega) ha.tail hb.tail
          refine key x _ r s i1 i2 i3 ha.1 axr (by rw [h1.1]; exact ays) (fun z hz => ⟨cnt_tail hz, cnt_tail (by rw [← h1.1]; exact hz)⟩) ?_ (fun z h1 h2 => ⟨h1 x (by simp), fun t ht => h1 t (by simp [ht]), fun t ht => h2 t (by simp [ht])⟩)
          rw [cnt_head rfl, cnt_head h1.1.symm, h1.2]
          omega
theorem joinL_spec {a b : List Tk} (ha : Vd a) (hb : Vd b) : Vd (joinL a b) ∧ ∀ z, cntL (joinL a b) z = max (cntL a z) (cntL b z) := by
  obtain ⟨h1, h2, _⟩ := join_spec _ a b (Nat.le_refl _) ha hb
  exact ⟨h1, h2⟩
/-- advanced, list by list. -/
def advR : List Tk → Int → List Tk
  | [], a => [⟨a, 1⟩]
  | x :: r, a => bif decide (x.ag ≥ a) then (bif x.ag == a then ⟨x.ag, w64 (x.ct + 1)⟩ :: r else ⟨a, 1⟩ :: x :: r) else x :: advR r a
theorem take_snoc {l : List Tk} {i : Nat} (h : i < l.length) : l.take (i + 1) = l.take i ++ [⟨agF l i, ctF l i⟩] := by
  rw [List.take_succ_eq_append_getElem h]
  congr 2
  simp only [agF, ctF, nthT_get l i h]
theorem drop_cons' {a : List Tk} {i : Nat} (h : i < a.length) : a.drop i = ⟨agF a i, ctF a i⟩ :: a.drop (i + 1) := by
  rw [List.drop_eq_getElem_cons h]
  congr 1
  simp only [agF, ctF, nthT_get a i h]
theorem adv_inv (l : List Tk) (a : Int) : ∀ i, i ≤ l.length → (advD l a i = false → advO l a i = l.take i ∧ advR l a = l.take i ++ advR (l.drop i) a) ∧ (advD l a i = true → advO l a i ++ l.drop i = advR l a) := by
  intro i
  induction i with
  | zero => intro _; exact ⟨fun _ => ⟨rfl, by simp⟩, fun h => by simp [advD] at h⟩
  | succ i ih =>
    intro hi
    obtain ⟨h1, h2⟩ := ih (by omega)
    have hlt : i < l.length := by omega
    have hd := drop_cons' hlt
    simp only [advD, advO]
    cases hD : advD l a i
    · obtain ⟨e1, e2⟩ := h1 hD
      cases hg : decide (agF l i ≥ a)
      · refine ⟨fun _ => ⟨?_, ?_⟩, fun h => by cases h⟩
        · rw [e1, take_snoc hlt]; rfl
        · rw [e2, take_snoc hlt, hd]
          simp only [advR, hg, cond_false, List.append_assoc, List.cons_append, List.nil_append]
      · refine ⟨(fun h => by cases h), fun _ => ?_⟩
        rw [e2, hd, e1]
        simp only [advR, hg, Bool.not_false, Bool.true_and, cond_true]
        cases he : (agF l i == a)
        · simp
        · simp
    · refine ⟨fun h => by simp at h, fun _ => ?_⟩
      rw [← h2 hD, hd]
      simp
theorem advL_eq (l : List Tk) (a : Int) : advL l a = advR l a := by
  obtain ⟨h1, h2⟩ := adv_inv l a l.length (Nat.le_refl _)
  unfold advL
  cases hD : advD l a l.length
  · obtain ⟨e1, e2⟩ := h1 hD
    rw [e2, cond_false, e1]
    simp [advR]
  · rw [cond_true, ← h2 hD]
    simp
theorem advR_spec {a : Int} : ∀ {l : List Tk}, Vd l → (∀ t ∈ l, t.ct < 9223372036854775807) → Vd (advR l a) ∧ (∀ z, cntL (advR l a) z = if z = a then cntL l a + 1 else cntL l z) ∧ ∀ z, z < a → Abv z l → Abv z (advR l a) := by
  intro l
  induction l with
  | nil =>
    intro _ _
    refine ⟨⟨by simp, (fun t ht => by cases ht), trivial⟩, fun z => ?_, fun z hz _ t ht => ?_⟩
    · by_cases e : a = z
      · subst e; rw [advR, cnt_head rfl]; simp [cntL]
      · rw [advR, cnt_tail e]; simp [cntL, Ne.symm e]
    · simp [advR] at ht; subst ht; exact hz
  | cons x r ih =>
    intro h hm
    obtain ⟨i1, i2, i3⟩ := ih h.tail (fun t ht => hm t (by simp [ht]))
    have hx := hm x (by simp)
    have hx1 := h.1
    have hw : w64 (x.ct + 1) = x.ct + 1 := w64_eq (by omega) (by omega)
    simp only [advR]
    cases h1 : decide (x.ag ≥ a)
    · have h1 : ¬ x.ag ≥ a := by simpa using h1
      simp only [cond_false]
      refine ⟨⟨h.1, i3 x.ag (by omega) h.2.1, i1⟩, fun z => ?_, fun z hz hz2 t ht => ?_⟩
      · by_cases e : x.ag = z
        · subst e
          rw [cnt_head rfl, if_neg (by omega), cnt_head rfl]
        · rw [cnt_tail e, i2 z, cnt_tail e, cnt_tail (show x.ag ≠ a by omega)]
      · rcases List.mem_cons.1 ht with rfl | ht
        · exact hz2 _ (by simp)
        · exact i3 z hz (fun t ht => hz2 t (by simp [ht])) t ht
    · have h1 : x.ag ≥ a := by simpa using h1
      simp only [cond_true]
      cases h2 : (x.ag == a)
      · have h2 : x.ag ≠ a := by simpa using h2
        have ab : Abv a (x :: r) := fun t ht => by
          rcases List.mem_cons.1 ht with rfl | ht
          · omega
          · have := h.2.1 t ht; omega
        simp only [cond_false]
        refine ⟨⟨by simp, ab, h⟩, fun z => ?_, fun z hz hz2 t ht => ?_⟩
        · by_cases e : a = z
          · subst e
            rw [cnt_head rfl, if_pos rfl, cnt_below ab]
            rfl
          · rw [cnt_tail e, if_neg (Ne.symm e)]
        · rcases List.mem_cons.1 ht with rfl | ht
          · exact hz
          · exact hz2 t ht
      · have h2 : x.ag = a := by simpa using h2
        subst h2
        simp only [cond_true]
        refine ⟨⟨by show 1 ≤ w64 (x.ct + 1); rw [hw]; omega, h.2.1, h.tail⟩, fun z => ?_, fun z hz hz2 t ht => ?_⟩
        · by_cases e : x.ag = z
          · subst e
            rw [cnt_head rfl, if_pos rfl, cnt_head rfl]
            exact hw
          · rw [cnt_tail (x := ⟨x.ag, w64 (x.ct + 1)⟩) e, if_neg (Ne.symm e), cnt_tail e]
        · rcases List.mem_cons.1 ht with rfl | ht
          · exact hz
          · exact hz2 t (by simp [ht])
end Go.Proofs.Ythdmdlipifpbhaa
