/-
  The relation layer: laws of closures, compositions, inverses and reductions, plainly.
-/
import Derived.Test.YtcbmbnlgilampaaRw30
namespace Go.Proofs.Ytcbmbnlgilampaa
open Go Go.Proofs.Ytcbmbnlgilampaa.Sx
set_option linter.unusedSimpArgs false
set_option linter.unusedVariables false

theorem setF_norm {N : Int} {g : Pf} (h0 : 0 ≤ N) (hs : Sup N.toNat g) : setF (normL N g) = g := by
  funext x y
  rw [Bool.eq_iff_iff, normL_iff]
  constructor
  · exact fun h => h.2.2.2.2
  · intro h
    have := hs _ _ h
    exact ⟨by omega, by omega, by omega, by omega, h⟩
theorem valid_norm {N : Int} {g : Pf} (h0 : 0 ≤ N) (h1 : N ≤ 64) : validF N (normL N g) = true := by
  rw [validF_iff]
  refine ⟨h0, h1, fun p hp => ?_⟩
  obtain ⟨a, b, ha, hb, _, rfl⟩ := mem_allL.1 hp
  simp only
  omega
theorem both_of {N : Int} {a b : List Pq} (ha : validF N a = true) (hb : validF N b = true) : bothF N a N b = true := bothF_iff.2 ⟨ha, hb, rfl⟩
theorem wit_of {N : Int} {a b : List Pq} (ha : validF N a = true) (hb : validF N b = true) (h : ∀ x y, setF b x y = true → setF a x y = true) : witF N a N b = true := by
  have e : setF (a ++ b) = setF a := by
    funext x y
    rw [setF_app, Bool.eq_iff_iff, Bool.or_eq_true]
    exact ⟨fun h' => h'.elim id (h x y), .inl⟩
  rw [witF, both_of ha hb, e]; simp
theorem cmpK_iff {f g : Pf} {n : Nat} (hs : Sup n f) {x y : Int} : cmpK f g n x y = true ↔ ∃ k, f x k = true ∧ g k y = true := by
  simp only [cmpK, List.any_eq_true, List.mem_range, Bool.and_eq_true]
  constructor
  · rintro ⟨k, _, h1, h2⟩; exact ⟨k, h1, h2⟩
  · rintro ⟨k, h1, h2⟩
    have := hs _ _ h1
    obtain ⟨j, rfl⟩ := Int.eq_ofNat_of_zero_le this.2.2.1
    exact ⟨j, by omega, h1, h2⟩
theorem sup_cmp {f g : Pf} {n : Nat} (hf : Sup n f) (hg : Sup n g) : Sup n (cmpK f g n) := fun a b h => by
  obtain ⟨k, h1, h2⟩ := (cmpK_iff hf).1 h
  have := hf _ _ h1
  have := hg _ _ h2
  omega
theorem wF_trans {f : Pf} {n : Nat} (hs : Sup n f) {a b c : Int} (h1 : wF f n a b = true) (h2 : wF f n b c = true) : wF f n a c = true := (wF_iff hs).2 (((wF_iff hs).1 h1).trans ((wF_iff hs).1 h2))
theorem wF_incl {f : Pf} {n : Nat} {a b : Int} (h : f a b = true) : wF f n a b = true := wF_mono (m := 0) (Nat.zero_le _) h
theorem Tr.mono {f g : Pf} (h : ∀ a b, f a b = true → g a b = true) {a b : Int} (ht : Tr f a b) : Tr g a b := by
  induction ht with
  | one e => exact .one (h _ _ e)
  | tail _ e ih => exact .tail ih (h _ _ e)
theorem Tr.of_wF {f : Pf} {n : Nat} {a b : Int} (ht : Tr (wF f n) a b) : Tr f a b := by
  induction ht with
  | one e => exact wF_sound e
  | tail _ e ih => exact ih.trans (wF_sound e)
theorem wF_wF {f : Pf} {n : Nat} (hs : Sup n f) : wF (wF f n) n = wF f n := by
  funext a b
  rw [Bool.eq_iff_iff, wF_iff (sup_wF hs), wF_iff hs]
  exact ⟨fun h => h.of_wF, fun h => .one ((wF_iff hs).2 h)⟩
theorem Tr.head_split {f : Pf} {a b : Int} (h : Tr f a b) : f a b = true ∨ ∃ c, f a c = true ∧ Tr f c b := by
  induction h with
  | one e => exact .inl e
  | tail h e ih =>
    rcases ih with h1 | ⟨c, h1, h2⟩
    · exact .inr ⟨_, h1, .one e⟩
    · exact .inr ⟨c, h1, .tail h2 e⟩
/-- The closure is the relation and its composition with the closure. -/
theorem wF_split {f : Pf} {n : Nat} (hs : Sup n f) {a b : Int} : (f a b || cmpK f (wF f n) n a b) = wF f n a b := by
  rw [Bool.eq_iff_iff, Bool.or_eq_true, cmpK_iff hs, wF_iff hs]
  constructor
  · rintro (h | ⟨c, h1, h2⟩)
    · exact .one h
    · exact (Tr.one h1).trans ((wF_iff hs).1 h2)
  · intro h
    rcases h.head_split with h | ⟨c, h1, h2⟩
    · exact .inl h
    · exact .inr ⟨c, h1, (wF_iff hs).2 h2⟩
theorem sup_app {n : Nat} {a b : List Pq} (ha : Sup n (setF a)) (hb : Sup n (setF b)) : Sup n (setF (a ++ b)) := fun x y h => by
  rw [setF_app, Bool.or_eq_true] at h
  exact h.elim (ha x y) (hb x y)
theorem sup_swap {n : Nat} {a : List Pq} (ha : Sup n (setF a)) : Sup n (setF (swapL a)) := fun x y h => by
  rw [setF_swap] at h
  have := ha _ _ h
  omega

/-! ### Reductions of acyclic relations -/
/-- How many lie strictly between. -/
def btw (k : Pf) (n : Nat) (a b : Int) : Nat := ((List.range n).filter (fun z : Nat => k a z && k z b)).length
theorem red_closes {k : Pf} {n : Nat} (hs : Sup n k) (ht : ∀ a b c, k a b = true → k b c = true → k a c = true) (hac : ∀ a, k a a = false) : ∀ (m : Nat) (a b : Int), btw k n a b < m → k a b = true → Tr (redF k n) a b := by
  intro m
  induction m with
  | zero => intro a b h; omega
  | succ m ih =>
    intro a b hm hab
    cases hr : redF k n a b
    · rw [redF, hab, Bool.true_and, Bool.not_eq_false', cmpK_iff hs] at hr
      obtain ⟨z, h1, h2⟩ := hr
      have hz := hs _ _ h1
      obtain ⟨w, rfl⟩ := Int.eq_ofNat_of_zero_le hz.2.2.1
      have l1 : btw k n a w < btw k n a b := by
        refine filter_len_lt (fun x _ hx => ?_) (y := w) (List.mem_range.2 (by omega)) ?_ ?_
        · rw [Bool.and_eq_true] at hx ⊢
          exact ⟨hx.1, ht _ _ _ hx.2 h2⟩
        · rw [hac, Bool.and_false]
        · rw [h1, h2]; rfl
      have l2 : btw k n w b < btw k n a b := by
        refine filter_len_lt (fun x _ hx => ?_) (y := w) (List.mem_range.2 (by omega)) ?_ ?_
        · rw [Bool.and_eq_true] at hx ⊢
          exact ⟨ht _ _ _ h1 hx.1, hx.2⟩
        · rw [hac, Bool.false_and]
        · rw [h1, h2]; rfl
      exact (ih a w (by omega) h1).trans (ih w b (by omega) h2)
    · exact .one hr
theorem acy_iff {k : Pf} {n : Nat} (hs : Sup n k) : acyF n k = true ↔ ∀ a, k a a = false := by
  simp only [acyF, List.all_eq_true, List.mem_range, Bool.not_eq_true']
  constructor
  · intro h a
    cases e : k a a
    · rfl
    · have := hs _ _ e
      obtain ⟨b, rfl⟩ := Int.eq_ofNat_of_zero_le this.1
      rw [h b (by omega)] at e; cases e
  · exact fun h a _ => h a
theorem sup_red {k : Pf} {n : Nat} (hs : Sup n k) : Sup n (redF k n) := fun a b h => by
  rw [redF, Bool.and_eq_true] at h
  exact hs _ _ h.1
theorem red_wF {f : Pf} {n : Nat} (hs : Sup n f) (hac : acyF n (wF f n) = true) : wF (redF (wF f n) n) n = wF f n := by
  funext a b
  rw [Bool.eq_iff_iff, wF_iff (sup_red (sup_wF hs))]
  constructor
  · intro h
    exact (wF_iff hs).2 (Tr.of_wF (n := n) (h.mono fun x y hxy => by rw [redF, Bool.and_eq_true] at hxy; exact hxy.1))
  · intro h
    exact red_closes (sup_wF hs) (fun _ _ _ => wF_trans hs) ((acy_iff (sup_wF hs)).1 hac) _ a b (Nat.lt_succ_self _) h
/-- A cycle is found exactly where there is one. -/
theorem fnd_iff {N : Int} {l : List Pq} (hv : validF N l = true) : fndF N l = !acyF N.toNat (clo N l) := by
  have hs := sup_set hv
  rw [fndF, hv, Bool.true_and]
  rcases cyG_ok (f := setF l) (n := N.toNat) N.toNat with ⟨h1, h2⟩ | ⟨h1, h2, h3, h4⟩
  · have e1 : decide (0 ≤ cyS N l) = false := decide_eq_false (by rw [cyS, h1]; omega)
    have e2 : acyF N.toNat (clo N l) = true := by
      refine (acy_iff (sup_wF hs)).2 fun a => ?_
      show clo N l a a = false
      cases e : clo N l a a
      · rfl
      · have htr := (wF_iff hs).1 e
        have hsp := htr.sup hs
        obtain ⟨b, rfl⟩ := Int.eq_ofNat_of_zero_le hsp.1
        exact absurd (h2 b (by omega)) (disG_found hs htr)
    rw [e1, e2]; rfl
  · have e1 : decide (0 ≤ cyS N l) = true := decide_eq_true h1
    have e2 : acyF N.toNat (clo N l) = false := by
      rw [Bool.eq_false_iff]
      intro h
      have hac := (acy_iff (sup_wF hs)).1 h
      have h0 : 0 ≤ cyS N l := h1
      obtain ⟨s1, s2, s3, s4⟩ := cyS_ok h0
      obtain ⟨x, hx⟩ := Int.eq_ofNat_of_zero_le h0
      have hd : disG (setF l) N.toNat (cyS N l) N.toNat x = (((cyN N l).toNat - 1 + 1 : Nat) : Int) := by
        rw [hx, Int.toNat_natCast] at s2
        rw [cyO, hx] at s2
        rw [hx, ← s2]; omega
      have htr := disG_tr hd
      rw [hx] at htr
      have := (wF_iff hs).2 htr
      rw [hac] at this; cases this
    rw [e1, e2]; rfl
/-- The last one of a found cycle leads to the first. -/
theorem cyc_shut {N : Int} {l : List Pq} (h : fndF N l = true) : 0 < (cycL N l).length ∧ (cycL N l).length ≤ 64 ∧ setF l (nthD 0 (cycL N l) ((cycL N l).length - 1)) (nthD 0 (cycL N l) 0) = true := by
  have h' := h
  rw [fndF, Bool.and_eq_true] at h'
  have hs := of_decide_eq_true h'.2
  obtain ⟨s1, s2, s3, s4⟩ := cyS_ok hs
  have hN := (validF_iff.1 h'.1)
  have hc : cycL N l = pthL (cyP N l) (cyN N l).toNat := by rw [cycL, h]; rfl
  rw [hc, pthL_len]
  refine ⟨by omega, by omega, ?_⟩
  rw [nthD_pthL (by omega), nthD_pthL (by omega)]
  obtain ⟨x, x1, x2, x3⟩ := cyP_ok hs ((cyN N l).toNat - 1) (by omega)
  have e : cyO N l x = 1 := by rw [x3]; omega
  have := disG_last (f := setF l) (n := N.toNat) (to := cyS N l) (i := N.toNat) (a := x) e
  rw [x1]
  exact this
end Go.Proofs.Ytcbmbnlgilampaa
