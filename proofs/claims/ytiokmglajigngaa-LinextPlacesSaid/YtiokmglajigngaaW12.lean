/-
  A part of the proof (W12).
-/
import Derived.Test.YtiokmglajigngaaW11
namespace Go.Proofs.Ytiokmglajigngaa
open Go Go.Proofs.Ytiokmglajigngaa.Sx
set_option maxRecDepth 100000
set_option linter.unusedSimpArgs false
set_option linter.unusedVariables false
theorem siz_le : ∀ (n m : Nat), siz n m ≤ n := by
  intro n
  induction n with
  | zero => intro m; exact Nat.le_refl _
  | succ n ih => intro m; have := ih (m / 2); rw [siz]; omega
theorem siz_or : ∀ (n x m : Nat), x < n → m.testBit x = false → siz n (m ||| 2 ^ x) = siz n m + 1 := by
  intro n
  induction n with
  | zero => intro x m h; omega
  | succ n ih =>
    intro x m hx hb
    rw [siz, siz]
    cases x with
    | zero =>
      have h0 : m % 2 = 0 := by
        rw [Nat.testBit_zero] at hb
        have : ¬ m % 2 = 1 := of_decide_eq_false hb
        omega
      have h1 : (m ||| 2 ^ 0) % 2 = 1 := by rw [Nat.pow_zero]; have := Nat.or_mod_two_pow (a := m) (b := 1) (n := 1); rw [Nat.pow_one, h0] at this; exact this
      have h2 : (m ||| 2 ^ 0) / 2 = m / 2 := by rw [Nat.or_div_two]; simp
      rw [h1, h2, h0]; omega
    | succ x =>
      have h1 : (m ||| 2 ^ (x + 1)) % 2 = m % 2 := by
        have := Nat.or_mod_two_pow (a := m) (b := 2 ^ (x + 1)) (n := 1)
        rw [Nat.pow_one, Nat.pow_succ, Nat.mul_mod_left, Nat.or_zero] at this
        rw [Nat.pow_succ]; exact this
      have h2 : (m ||| 2 ^ (x + 1)) / 2 = m / 2 ||| 2 ^ x := by
        rw [Nat.or_div_two, Nat.pow_succ, Nat.mul_div_cancel _ (by omega)]
      rw [h1, h2, ih x (m / 2) (by omega) (by rw [Nat.testBit_succ] at hb; exact hb)]
      omega
theorem siz_bit {n m : Nat} (hn : n ≤ 64) (hm : m < 2 ^ n) : siz 64 m ≤ n := by
  have := siz_lt (n := n) (64 - n) m hm
  rw [show n + (64 - n) = 64 by omega] at this
  rw [this]; exact siz_le n m
theorem fr_bit {B : List Int} {s x : Nat} (hs : s < 2 ^ 64) (hx : x < 64) (h : frR B s x = true) : s.testBit x = false := by
  rw [frR, Int.toNat_natCast, wrap_shl hx, bits_and hs (one_lt hx), and_zero, Bool.and_eq_true] at h
  simpa using h.1
theorem siz_fr {B : List Int} {s x : Nat} (hs : s < 2 ^ 64) (hx : x < 64) (h : frR B s x = true) : siz 64 (s ||| 2 ^ x) = siz 64 s + 1 := siz_or 64 x s hx (fr_bit hs hx h)
theorem dsX_ind {B : List Int} {s : Nat} {L : List Nat} {Q : Nat → Prop} (hL : ∀ m ∈ L, Q m) {n : Nat} (hst : ∀ x, x < n → frR B s x = true → Q (s ||| 2 ^ x)) : ∀ x, x ≤ n → ∀ m ∈ dsX B s L x, Q m := by
  intro x
  induction x with
  | zero => intro _; exact hL
  | succ x ih =>
    intro hx m hm
    rw [dsX] at hm
    cases hc : (frR B s x && !((dsX B s L x).contains (s ||| 2 ^ x))) <;> rw [hc] at hm
    · exact ih (by omega) m hm
    · rw [cond_true] at hm
      simp only [Bool.and_eq_true] at hc
      rcases List.mem_append.1 hm with h | h
      · exact ih (by omega) m h
      · rw [List.mem_singleton.1 h]; exact hst x (by omega) hc.1
theorem dsI_ind {B : List Int} {n : Nat} {Q : Nat → Prop} (h0 : Q 0) (hst : ∀ s x, s < 2 ^ n → Q s → x < n → frR B s x = true → Q (s ||| 2 ^ x)) : ∀ i, ∀ m ∈ dsI B n i, Q m := by
  intro i
  induction i with
  | zero => intro m hm; simp only [dsI, List.mem_singleton] at hm; subst hm; exact h0
  | succ i ih =>
    intro m hm
    rw [dsI] at hm
    cases hc : Nat.blt i (dsI B n i).length <;> rw [hc] at hm
    · exact ih m hm
    · have hmem := nthD_mem 0 (show i < (dsI B n i).length by simpa using hc)
      exact dsX_ind ih (fun x hx hf => hst _ x (dsI_lt i _ hmem) (ih _ hmem) hx hf) n (Nat.le_refl _) m hm
theorem dsX_has {B : List Int} {s : Nat} {L : List Nat} {y : Nat} (hf : frR B s y = true) : ∀ {x : Nat}, y < x → (s ||| 2 ^ y) ∈ dsX B s L x := by
  intro x h
  induction x with
  | zero => omega
  | succ x ih =>
    rw [dsX]
    by_cases e : y = x
    · subst e
      rw [hf, Bool.true_and]
      cases hc : (dsX B s L y).contains (s ||| 2 ^ y)
      · simp
      · rw [Bool.not_true, cond_false]; exact List.contains_iff_mem.1 hc
    · have := ih (by omega)
      cases (frR B s x && !((dsX B s L x).contains (s ||| 2 ^ x)))
      · exact this
      · exact List.mem_append.2 (.inl this)
/-- By increasing size, and none much larger than that of number i. -/
def BySize (L : List Nat) (c : Nat) : Prop := L.Pairwise (fun a b => siz 64 a ≤ siz 64 b) ∧ ∀ b ∈ L, siz 64 b ≤ c
theorem dsX_size {B : List Int} {s : Nat} {L : List Nat} (hs : s < 2 ^ 64) (hL : BySize L (siz 64 s + 1)) : ∀ x, x ≤ 64 → BySize (dsX B s L x) (siz 64 s + 1) := by
  intro x
  induction x with
  | zero => intro _; exact hL
  | succ x ih =>
    intro hx
    have ih := ih (by omega)
    rw [dsX]
    cases hc : (frR B s x && !((dsX B s L x).contains (s ||| 2 ^ x)))
    · exact ih
    · simp only [Bool.and_eq_true] at hc
      have e := siz_fr hs (by omega) hc.1
      rw [cond_true]
      refine ⟨List.pairwise_append.2 ⟨ih.1, List.pairwise_singleton _ _, fun a ha b hb => ?_⟩, fun b hb => ?_⟩
      · rw [List.mem_singleton.1 hb, e]; exact ih.2 a ha
      · rcases List.mem_append.1 hb with h | h
        · exact ih.2 b h
        · rw [List.mem_singleton.1 h, e]; exact Nat.le_refl _
theorem pw_nth {L : List Nat} (h : L.Pairwise (fun a b => siz 64 a ≤ siz 64 b)) {i j : Nat} (hij : i ≤ j) (hj : j < L.length) : siz 64 (nthD 0 L i) ≤ siz 64 (nthD 0 L j) := by
  rw [nthD_get _ _ _ (show i < L.length by omega), nthD_get _ _ _ hj]
  rcases Nat.lt_or_eq_of_le hij with h1 | h1
  · exact List.pairwise_iff_getElem.1 h i j (by omega) hj h1
  · subst h1; exact Nat.le_refl _
theorem dsI_size {B : List Int} {n : Nat} (hn : n ≤ 64) : ∀ i, (dsI B n i).Pairwise (fun a b => siz 64 a ≤ siz 64 b) ∧ (i < (dsI B n i).length → ∀ b ∈ dsI B n i, siz 64 b ≤ siz 64 (nthD 0 (dsI B n i) i) + 1) := by
  intro i
  induction i with
  | zero => exact ⟨List.pairwise_singleton _ _, fun _ b hb => by simp only [dsI, List.mem_singleton] at hb; subst hb; exact Nat.le_succ _⟩
  | succ i ih =>
    rw [dsI]
    cases hc : Nat.blt i (dsI B n i).length
    · refine ⟨ih.1, fun h => ?_⟩
      have : ¬ i < (dsI B n i).length := fun h => by rw [show Nat.blt i (dsI B n i).length = true by simpa using h] at hc; cases hc
      rw [cond_false] at h
      omega
    · have hi : i < (dsI B n i).length := by simpa using hc
      have hlt := lt64 (dsI_lt (B := B) (n := n) i _ (nthD_mem 0 hi)) hn
      have hb := dsX_size (B := B) hlt ⟨ih.1, ih.2 hi⟩ n hn
      rw [cond_true]
      refine ⟨hb.1, fun h b hbm => ?_⟩
      have h1 := hb.2 b hbm
      have h2 := pw_nth hb.1 (show i ≤ i + 1 by omega) h
      obtain ⟨t, ht⟩ := dsX_pre (B := B) (s := nthD 0 (dsI B n i) i) (L := dsI B n i) n
      have h3 : nthD 0 (dsX B (nthD 0 (dsI B n i) i) (dsI B n i) n) i = nthD 0 (dsI B n i) i := by rw [ht, nthD_lt _ hi]
      rw [h3] at h2
      omega
theorem dsE_lt {B : List Int} : ∀ m ∈ dsE B, m < 2 ^ B.length := dsI_lt 65537
theorem dsE_pw {B : List Int} (hn : B.length ≤ 64) : (dsE B).Pairwise (fun a b => siz 64 a ≤ siz 64 b) := (dsI_size hn 65537).1
/-- What follows a downset lies behind it. -/
theorem dsE_next {B : List Int} (hn : B.length ≤ 64) (hok : okD B = true) {i x : Nat} (hi : i < (dsE B).length) (hx : x < B.length) (hf : frR B ((nthD 0 (dsE B) i : Nat) : Int) x = true) : (nthD 0 (dsE B) i ||| 2 ^ x) ∈ (dsE B).drop (i + 1) := by
  have hlen := (dsO_ok hok).2.2
  have hlt := lt64 (dsE_lt _ (nthD_mem 0 hi)) hn
  have hsz := siz_fr hlt (by omega) hf
  -- it is there
  have hmem : (nthD 0 (dsE B) i ||| 2 ^ x) ∈ dsE B := by
    obtain ⟨t, ht⟩ := dsI_pre (B := B) (n := B.length) (i := i + 1) (j := 65537) (by omega)
    obtain ⟨u, hu⟩ := dsI_pre (B := B) (n := B.length) (i := i) (j := 65537) (by omega)
    have hil : i < (dsI B B.length i).length := by
      refine Classical.byContradiction fun hno => ?_
      have := dsI_stab (B := B) (n := B.length) (i := i) (by omega) (j := 65537) (by omega)
      unfold dsE at hi
      rw [this] at hi
      omega
    have hnth : nthD 0 (dsE B) i = nthD 0 (dsI B B.length i) i := by unfold dsE; rw [hu, nthD_lt _ hil]
    rw [hnth] at hf ⊢
    have h1 := dsX_has (L := dsI B B.length i) hf hx
    have h2 : dsX B (nthD 0 (dsI B B.length i) i) (dsI B B.length i) B.length = dsI B B.length (i + 1) := dsJ_all hil
    rw [h2] at h1
    unfold dsE
    rw [ht]
    exact List.mem_append.2 (.inl h1)
  obtain ⟨j, hj, e⟩ := List.mem_iff_getElem.1 hmem
  have hij : i < j := by
    refine Classical.byContradiction fun hno => ?_
    have := pw_nth (dsE_pw hn) (show j ≤ i by omega) hi
    rw [nthD_get _ _ _ hj, e, hsz] at this
    omega
  refine List.mem_iff_getElem.2 ⟨j - (i + 1), by rw [List.length_drop]; omega, ?_⟩
  rw [List.getElem_drop]
  have e3 : i + 1 + (j - (i + 1)) = j := by omega
  simp only [e3, e]
theorem sumF_mono {B : List Int} {s : Nat} {c : Nat → Nat} {x : Nat} : ∀ {y : Nat}, x ≤ y → sumF B s c x ≤ sumF B s c y := by
  intro y h
  induction h with
  | refl => exact Nat.le_refl _
  | step _ ih => exact Nat.le_trans ih (Nat.le_add_right _ _)
theorem sumF_congr {B : List Int} {s : Nat} {c d : Nat → Nat} : ∀ {x : Nat}, (∀ y, y < x → frR B s y = true → c (s ||| 2 ^ y) = d (s ||| 2 ^ y)) → sumF B s c x = sumF B s d x := by
  intro x
  induction x with
  | zero => intro _; rfl
  | succ x ih =>
    intro h
    rw [sumF, sumF, ih fun y hy => h y (by omega)]
    cases hf : frR B s x
    · rfl
    · rw [cond_true, cond_true, h x (by omega) hf]
theorem sumF_term {B : List Int} {s x y : Nat} {c : Nat → Nat} (hx : x < y) (hf : frR B s x = true) : c (s ||| 2 ^ x) ≤ sumF B s c y := by
  have := sumF_mono (B := B) (s := s) (c := c) (x := x + 1) hx
  rw [sumF, hf, cond_true] at this
  omega
theorem cmp_sum {B : List Int} {s : Nat} (hn : B.length ≤ 64) (hs : s < 2 ^ B.length) (hne : siz 64 s ≠ B.length) : cmp B s = sumF B s (cmp B) B.length := by
  have h1 := siz_bit hn hs
  obtain ⟨k, hk⟩ : ∃ k, B.length - siz 64 s = k + 1 := ⟨B.length - siz 64 s - 1, by omega⟩
  rw [cmp, hk, cmpF]
  refine sumF_congr fun y hy hf => ?_
  rw [cmp, siz_fr (lt64 hs hn) (by omega) hf, show B.length - (siz 64 s + 1) = k by omega]
theorem cmp_full {B : List Int} {s : Nat} (h : siz 64 s = B.length) : cmp B s = 1 := by rw [cmp, h, Nat.sub_self]; rfl
theorem cmp_step {B : List Int} {s x : Nat} (hn : B.length ≤ 64) (hs : s < 2 ^ B.length) (hx : x < B.length) (hf : frR B s x = true) : cmp B (s ||| 2 ^ x) ≤ cmp B s := by
  have h1 := siz_fr (lt64 hs hn) (by omega) hf
  have h2 : siz 64 (s ||| 2 ^ x) ≤ B.length := siz_bit hn (Nat.or_lt_two_pow hs (Nat.pow_lt_pow_right (by omega) hx))
  rw [cmp_sum hn hs (by omega)]
  exact sumF_term hx hf
theorem cmp_leI {B : List Int} (hn : B.length ≤ 64) : ∀ i, ∀ s ∈ dsI B B.length i, cmp B s ≤ cmp B 0 :=
  dsI_ind (B := B) (n := B.length) (Q := fun s => cmp B s ≤ cmp B 0) (Nat.le_refl _) (fun s x hs hq hx hf => Nat.le_trans (cmp_step hn hs hx hf) hq)
theorem cmp_le {B : List Int} (hn : B.length ≤ 64) : ∀ s ∈ dsE B, cmp B s ≤ cmp B 0 := fun s hs => by
  unfold dsE at hs
  exact cmp_leI hn _ s hs
theorem cm_val {B : List Int} {S : List Nat} {t : Nat} (h : t ∈ S) : val0 (cmM B S (t : Int)) = (cmp B t : Int) := by
  have : S.any (fun m => (m : Int) == (t : Int)) = true := List.any_eq_true.2 ⟨t, h, by simp⟩
  rw [cmM, this, cond_true, Int.toNat_natCast]; rfl
theorem cm_cons {B : List Int} {S : List Nat} {t : Nat} {v : Int} (hv : v = (cmp B t : Int)) (j : Int) : (bif j == (t : Int) then some v else cmM B S j) = cmM B (t :: S) j := by
  subst hv
  simp only [cmM, List.any_cons]
  by_cases h : j = (t : Int)
  · subst h; simp
  · rw [beq_false_of_ne h, beq_false_of_ne (Ne.symm h), Bool.false_or, cond_false]
theorem drop_last {L : List Nat} {k : Nat} (hk : k < L.length) : L.drop (L.length - (k + 1)) = nthD 0 L (L.length - 1 - k) :: L.drop (L.length - k) := by
  have hlt : L.length - (k + 1) < L.length := by omega
  have e : L.length - 1 - k = L.length - (k + 1) := by omega
  have e2 : L.length - (k + 1) + 1 = L.length - k := by omega
  rw [List.drop_eq_getElem_cons hlt, e, nthD_get _ _ _ hlt, e2]
theorem dsK_drop {B : List Int} {k : Nat} (hk : k < (dsE B).length) : (dsE B).drop ((dsE B).length - (k + 1)) = dsK B k :: (dsE B).drop ((dsE B).length - k) := drop_last hk
theorem dsK_next {B : List Int} (hn : B.length ≤ 64) (hok : okD B = true) {k x : Nat} (hk : k < (dsE B).length) (hx : x < B.length) (hf : frR B ((dsK B k : Nat) : Int) x = true) : (dsK B k ||| 2 ^ x) ∈ (dsE B).drop ((dsE B).length - k) := by
  have e : ∀ n : Nat, k < n → n - 1 - k < n ∧ n - 1 - k + 1 = n - k := fun n h => by omega
  have := dsE_next hn hok (e _ hk).1 hx hf
  rw [(e _ hk).2] at this
  exact this
theorem dsE_zero {B : List Int} : nthD 0 (dsE B) 0 = 0 ∧ 0 < (dsE B).length := by
  obtain ⟨t, ht⟩ : ∃ t, dsE B = [0] ++ t := dsI_pre (B := B) (n := B.length) (i := 0) (j := 65537) (Nat.zero_le _)
  rw [ht]
  exact ⟨rfl, by simp⟩
theorem okC_iff {B : List Int} : okC B = true ↔ okD B = true ∧ cmp B 0 ≤ maxI := by
  rw [okC, Bool.and_eq_true, Nat.ble_eq]
theorem v44_eq (B : List Int) : (fnVc (tab [kDow [some (.us B)], kPop [], kFre [some (.us B)]] [(0, .of (lCo0 B 3)), (2, lCo1 B)]) Try.f44 [poV B.length 0 B] [arU B] (resMapi .u64 (some .i64) (cmM B (dsE B)) (.i .i64 0))) = (B.length = B.length ∧
 mkN (nthD (0 : Int) B) B.length = B ∧
 (↑B.length : Int) = (↑B.length : Int) ∧
 B.length ≤ (64 : Nat) ∧
 ((dsErr B != (0 : Int)) = true → False) ∧
 ((dsErr B != (0 : Int)) = false →
 ∃ (x : PUnit),
 (∃ (x : Nat),
 (x ≤ (dsE B).length ∧
 ∀ (s : Nat), List.Mem s (List.drop ((dsE B).length - x) (dsE B)) → cmp B s ≤ maxI) ∧
 (IntKind.i64.wrap ((↑(AV.us (dsOut B)).len : Int) - (1 : Int)) =
 (↑(dsE B).length : Int) - (1 : Int) - (↑x : Int) ∧
 True) ∧
 (∀ (x_1 : Int), none = cmM B (List.drop ((dsE B).length - x) (dsE B)) x_1) ∧ True) ∧
 ∀ (x_1 : Nat),
 (x_1 ≤ (dsE B).length ∧
 ∀ (s : Nat), List.Mem s (List.drop ((dsE B).length - x_1) (dsE B)) → cmp B s ≤ maxI) →
 (decide ((↑(dsE B).length : Int) - (1 : Int) - (↑x_1 : Int) ≥ (0 : Int)) = true →
 ((0 : Int) ≤ (↑(dsE B).length : Int) - (1 : Int) - (↑x_1 : Int) ∧
 (↑(dsE B).length : Int) - (1 : Int) - (↑x_1 : Int) < (↑(AV.us (dsOut B)).len : Int)) ∧
 ((↑(dsE B).length : Int) - (1 : Int) - (↑x_1 : Int)).toNat < (AV.us (dsOut B)).len ∧
 ((0 : Int) ≤
 nthD (0 : Int) (dsOut B) ((↑(dsE B).length : Int) - (1 : Int) - (↑x_1 : Int)).toNat ∧
 nthD (0 : Int) (dsOut B) ((↑(dsE B).length : Int) - (1 : Int) - (↑x_1 : Int)).toNat <
 (2 : Int) ^ (64 : Nat)) ∧
 (((↑(siz (64 : Nat)
 (nthD (0 : Int) (dsOut B)
 ((↑(dsE B).length : Int) - (1 : Int) - (↑x_1 : Int)).toNat).toNat) :
 Int) ==
 (↑B.length : Int)) =
 true →
 ∃ (x_2 : Nat),
 (x_2 ≤ (dsE B).length ∧
 ∀ (s : Nat),
 List.Mem s (List.drop ((dsE B).length - x_2) (dsE B)) → cmp B s ≤ maxI) ∧
 ((PLoop.of (lCo0 B (3 : Nat))).ann x).mu x_2 <
 ((PLoop.of (lCo0 B (3 : Nat))).ann x).mu x_1 ∧
 (((↑B.length : Int) = (↑B.length : Int) ∧ B.length = B.length) ∧
 True ∧
 (AV.us (dsOut B)).len = (AV.us (dsOut B)).len ∧
 dsErr B = dsErr B ∧
 True ∧
 IntKind.i64.wrap
 ((↑(dsE B).length : Int) - (1 : Int) - (↑x_1 : Int) -
 (1 : Int)) =
 (↑(dsE B).length : Int) - (1 : Int) - (↑x_2 : Int) ∧
 ((AV.us (dsOut B)).len = (AV.us (dsOut B)).len ∧
 dsErr B = dsErr B) ∧
 ((↑B.length : Int) = (↑B.length : Int) ∧ B.length = B.length) ∧
 ((AV.us (dsOut B)).len = (AV.us (dsOut B)).len ∧
 dsErr B = dsErr B) ∧
 (AV.us (dsOut B)).len = (AV.us (dsOut B)).len ∧
 dsErr B = dsErr B ∧
 dsErr B = dsErr B ∧
 false = false ∧
 True ∧
 (AV.us (dsOut B)).len = (AV.us (dsOut B)).len ∧
 (↑(AV.us (dsOut B)).len : Int) =
 (↑(AV.us (dsOut B)).len : Int) ∧
 IntKind.i64.wrap
 ((↑(AV.us (dsOut B)).len : Int) -
 (1 : Int)) =
 IntKind.i64.wrap
 ((↑(AV.us (dsOut B)).len : Int) -
 (1 : Int)) ∧
 True) ∧
 (B.length = B.length ∧
 (∀ (j : Nat), j < B.length → nthD (0 : Int) B j = nthD (0 : Int) B j) ∧
 True) ∧
 ((↑B.length : Int) = (↑B.length : Int) ∧ B.length = B.length) ∧
 ((AV.us (dsOut B)).len = (AV.us (dsOut B)).len ∧
 (∀ (j : Nat),
 j < (AV.us (dsOut B)).len →
 nthD (0 : Int) (dsOut B) j = nthD (0 : Int) (dsOut B) j) ∧
 True) ∧
 (∀ (x : Int),
 (bif
 x ==
 nthD (0 : Int) (dsOut B)
 ((↑(dsE B).length : Int) - (1 : Int) -
 (↑x_1 : Int)).toNat then
 some (1 : Int)
 else cmM B (List.drop ((dsE B).length - x_1) (dsE B)) x) =
 cmM B (List.drop ((dsE B).length - x_2) (dsE B)) x) ∧
 True) ∧
 (((↑(siz (64 : Nat)
 (nthD (0 : Int) (dsOut B)
 ((↑(dsE B).length : Int) - (1 : Int) - (↑x_1 : Int)).toNat).toNat) :
 Int) ==
 (↑B.length : Int)) =
 false →
 ∃ (x_2 : Nat),
 (∃ (x : Nat),
 (x ≤ B.length ∧
 x_2 < (dsE B).length ∧
 siz (64 : Nat) (dsK B x_2) ≠ B.length ∧
 sumF B (dsK B x_2) (cmp B) x ≤ maxI) ∧
 ((0 : Int) = (↑x : Int) ∧
 (0 : Int) = (↑(sumF B (dsK B x_2) (cmp B) x) : Int) ∧ True) ∧
 True) ∧
 ∀ (x_3 : Nat),
 x_3 ≤ B.length ∧
 x_2 < (dsE B).length ∧
 siz (64 : Nat) (dsK B x_2) ≠ B.length ∧
 sumF B (dsK B x_2) (cmp B) x_3 ≤ maxI →
 (decide ((↑x_3 : Int) < (↑B.length : Int)) = true →
 B.length = B.length ∧
 mkN (nthD (0 : Int) B) B.length = B ∧
 ((0 : Int) ≤ (↑x_3 : Int) ∧ (↑x_3 : Int) < (64 : Int)) ∧
 (↑x_3 : Int) + (1 : Int) ≤ (↑B.length : Int) ∧
 ((!frR B
 (nthD (0 : Int) (dsOut B)
 ((↑(dsE B).length : Int) - (1 : Int) -
 (↑x_1 : Int)).toNat)
 (↑x_3 : Int)) =
 true →
 ∃ (x : Nat),
 (x ≤ B.length ∧
 x_2 < (dsE B).length ∧
 siz (64 : Nat) (dsK B x_2) ≠ B.length ∧
 sumF B (dsK B x_2) (cmp B) x ≤ maxI) ∧
 ((lCo1 B).ann x_2).mu x < ((lCo1 B).ann x_2).mu x_3 ∧
 (((↑B.length : Int) = (↑B.length : Int) ∧
 B.length = B.length) ∧
 True ∧
 (AV.us (dsOut B)).len = (AV.us (dsOut B)).len ∧
 dsErr B = dsErr B ∧
 True ∧
 (↑(dsE B).length : Int) - (1 : Int) -
 (↑x_1 : Int) =
 (↑(dsE B).length : Int) - (1 : Int) -
 (↑x_1 : Int) ∧
 nthD (0 : Int) (dsOut B)
 ((↑(dsE B).length : Int) -
 (1 : Int) -
 (↑x_1 : Int)).toNat =
 nthD (0 : Int) (dsOut B)
 ((↑(dsE B).length : Int) -
 (1 : Int) -
 (↑x_1 : Int)).toNat ∧
 (↑(sumF B (dsK B x_2) (cmp B) x_3) :
 Int) =
 (↑(sumF B (dsK B x_2) (cmp B) x) :
 Int) ∧
 ((AV.us (dsOut B)).len =
 (AV.us (dsOut B)).len ∧
 dsErr B = dsErr B) ∧
 ((↑B.length : Int) =
 (↑B.length : Int) ∧
 B.length = B.length) ∧
 ((AV.us (dsOut B)).len =
 (AV.us (dsOut B)).len ∧
 dsErr B = dsErr B) ∧
 (AV.us (dsOut B)).len =
 (AV.us (dsOut B)).len ∧
 dsErr B = dsErr B ∧
 dsErr B = dsErr B ∧
 false = false ∧
 True ∧
 (AV.us
 (dsOut
 B)).len =
 (AV.us
 (dsOut
 B)).len ∧
 (↑(AV.us
 (dsOut
 B)).len :
 Int) =
 (↑(AV.us
 (dsOut
 B)).len :
 Int) ∧
 IntKind.i64.wrap
 ((↑(AV.us
 (dsOut
 B)).len :
 Int) -
 (1 :
 Int)) =
 IntKind.i64.wrap
 ((↑(AV.us
 (dsOut
 B)).len :
 Int) -
 (1 :
 Int)) ∧
 (↑(dsE
 B).length :
 Int) -
 (1 :
 Int) -
 (↑x_1 :
 Int) =
 (↑(dsE
 B).length :
 Int) -
 (1 :
 Int) -
 (↑x_1 :
 Int) ∧
 true = true ∧
 (AV.us
 (dsOut
 B)).len =
 (AV.us
 (dsOut
 B)).len ∧
 (↑(dsE
 B).length :
 Int) -
 (1 :
 Int) -
 (↑x_1 :
 Int) =
 (↑(dsE
 B).length :
 Int) -
 (1 :
 Int) -
 (↑x_1 :
 Int) ∧
 ((↑(dsE
 B).length :
 Int) -
 (1 :
 Int) -
 (↑x_1 :
 Int)).toNat =
 ((↑(dsE
 B).length :
 Int) -
 (1 :
 Int) -
 (↑x_1 :
 Int)).toNat ∧
 nthD
 (0 :
 Int)
 (dsOut
 B)
 ((↑(dsE
 B).length :
 Int) -
 (1 :
 Int) -
 (↑x_1 :
 Int)).toNat =
 nthD
 (0 :
 Int)
 (dsOut
 B)
 ((↑(dsE
 B).length :
 Int) -
 (1 :
 Int) -
 (↑x_1 :
 Int)).toNat ∧
 nthD
 (0 :
 Int)
 (dsOut
 B)
 ((↑(dsE
 B).length :
 Int) -
 (1 :
 Int) -
 (↑x_1 :
 Int)).toNat =
 nthD
 (0 :
 Int)
 (dsOut
 B)
 ((↑(dsE
 B).length :
 Int) -
 (1 :
 Int) -
 (↑x_1 :
 Int)).toNat ∧
 (↑(siz
 (64 :
 Nat)
 (nthD
 (0 :
 Int)
 (dsOut
 B)
 ((↑(dsE
 B).length :
 Int) -
 (1 :
 Int) -
 (↑x_1 :
 Int)).toNat).toNat) :
 Int) =
 (↑(siz
 (64 :
 Nat)
 (nthD
 (0 :
 Int)
 (dsOut
 B)
 ((↑(dsE
 B).length :
 Int) -
 (1 :
 Int) -
 (↑x_1 :
 Int)).toNat).toNat) :
 Int) ∧
 True ∧
 (↑B.length :
 Int) =
 (↑B.length :
 Int) ∧
 false =
 false ∧
 True ∧
 (↑B.length :
 Int) =
 (↑B.length :
 Int) ∧
 IntKind.i64.wrap
 ((↑x_3 :
 Int) +
 (1 :
 Int)) =
 (↑x :
 Int) ∧
 True) ∧
 (B.length = B.length ∧
 (∀ (j : Nat),
 j < B.length →
 nthD (0 : Int) B j = nthD (0 : Int) B j) ∧
 True) ∧
 ((↑B.length : Int) = (↑B.length : Int) ∧
 B.length = B.length) ∧
 ((AV.us (dsOut B)).len = (AV.us (dsOut B)).len ∧
 (∀ (j : Nat),
 j < (AV.us (dsOut B)).len →
 nthD (0 : Int) (dsOut B) j =
 nthD (0 : Int) (dsOut B) j) ∧
 True) ∧
 (∀ (x : Int),
 cmM B
 (List.drop ((dsE B).length - x_1)
 (dsE B))
 x =
 cmM B
 (List.drop ((dsE B).length - x_1)
 (dsE B))
 x) ∧
 True) ∧
 ((!frR B
 (nthD (0 : Int) (dsOut B)
 ((↑(dsE B).length : Int) - (1 : Int) -
 (↑x_1 : Int)).toNat)
 (↑x_3 : Int)) =
 false →
 ((0 : Int) ≤ (↑x_3 : Int) ∧
 (↑x_3 : Int) ≤ (↑IntKind.u64.bits : Int)) ∧
 (decide
 (val0
 (cmM B
 (List.drop ((dsE B).length - x_1) (dsE B))
 (bits BinOp.or IntKind.u64
 (nthD (0 : Int) (dsOut B)
 ((↑(dsE B).length : Int) - (1 : Int) -
 (↑x_1 : Int)).toNat)
 (IntKind.u64.wrap
 ((1 : Int) * (2 : Int) ^ x_3)))) >
 IntKind.i64.wrap
 ((9223372036854775807 : Int) -
 (↑(sumF B (dsK B x_2) (cmp B) x_3) : Int))) =
 true →
 False) ∧
 (decide
 (val0
 (cmM B
 (List.drop ((dsE B).length - x_1) (dsE B))
 (bits BinOp.or IntKind.u64
 (nthD (0 : Int) (dsOut B)
 ((↑(dsE B).length : Int) - (1 : Int) -
 (↑x_1 : Int)).toNat)
 (IntKind.u64.wrap
 ((1 : Int) * (2 : Int) ^ x_3)))) >
 IntKind.i64.wrap
 ((9223372036854775807 : Int) -
 (↑(sumF B (dsK B x_2) (cmp B) x_3) : Int))) =
 false →
 ∃ (x : Nat),
 (x ≤ B.length ∧
 x_2 < (dsE B).length ∧
 siz (64 : Nat) (dsK B x_2) ≠ B.length ∧
 sumF B (dsK B x_2) (cmp B) x ≤ maxI) ∧
 ((lCo1 B).ann x_2).mu x <
 ((lCo1 B).ann x_2).mu x_3 ∧
 (((↑B.length : Int) = (↑B.length : Int) ∧
 B.length = B.length) ∧
 True ∧
 (AV.us (dsOut B)).len =
 (AV.us (dsOut B)).len ∧
 dsErr B = dsErr B ∧
 True ∧
 (↑(dsE B).length : Int) - (1 : Int) -
 (↑x_1 : Int) =
 (↑(dsE B).length : Int) -
 (1 : Int) -
 (↑x_1 : Int) ∧
 nthD (0 : Int) (dsOut B)
 ((↑(dsE B).length : Int) -
 (1 : Int) -
 (↑x_1 : Int)).toNat =
 nthD (0 : Int) (dsOut B)
 ((↑(dsE B).length : Int) -
 (1 : Int) -
 (↑x_1 : Int)).toNat ∧
 IntKind.i64.wrap
 ((↑(sumF B (dsK B x_2)
 (cmp B) x_3) :
 Int) +
 val0
 (cmM B
 (List.drop
 ((dsE B).length -
 x_1)
 (dsE B))
 (bits BinOp.or
 IntKind.u64
 (nthD (0 : Int)
 (dsOut B)
 ((↑(dsE
 B).length :
 Int) -
 (1 : Int) -
 (↑x_1 :
 Int)).toNat)
 (IntKind.u64.wrap
 ((1 : Int) *
 (2 : Int) ^
 x_3))))) =
 (↑(sumF B (dsK B x_2) (cmp B)
 x) :
 Int) ∧
 ((AV.us (dsOut B)).len =
 (AV.us (dsOut B)).len ∧
 dsErr B = dsErr B) ∧
 ((↑B.length : Int) =
 (↑B.length : Int) ∧
 B.length = B.length) ∧
 ((AV.us (dsOut B)).len =
 (AV.us
 (dsOut B)).len ∧
 dsErr B = dsErr B) ∧
 (AV.us (dsOut B)).len =
 (AV.us
 (dsOut B)).len ∧
 dsErr B = dsErr B ∧
 dsErr B = dsErr B ∧
 false = false ∧
 True ∧
 (AV.us
 (dsOut
 B)).len =
 (AV.us
 (dsOut
 B)).len ∧
 (↑(AV.us
 (dsOut
 B)).len :
 Int) =
 (↑(AV.us
 (dsOut
 B)).len :
 Int) ∧
 IntKind.i64.wrap
 ((↑(AV.us
 (dsOut
 B)).len :
 Int) -
 (1 :
 Int)) =
 IntKind.i64.wrap
 ((↑(AV.us
 (dsOut
 B)).len :
 Int) -
 (1 :
 Int)) ∧
 (↑(dsE
 B).length :
 Int) -
 (1 :
 Int) -
 (↑x_1 :
 Int) =
 (↑(dsE
 B).length :
 Int) -
 (1 :
 Int) -
 (↑x_1 :
 Int) ∧
 true =
 true ∧
 (AV.us
 (dsOut
 B)).len =
 (AV.us
 (dsOut
 B)).len ∧
 (↑(dsE
 B).length :
 Int) -
 (1 :
 Int) -
 (↑x_1 :
 Int) =
 (↑(dsE
 B).length :
 Int) -
 (1 :
 Int) -
 (↑x_1 :
 Int) ∧
 ((↑(dsE
 B).length :
 Int) -
 (1 :
 Int) -
 (↑x_1 :
 Int)).toNat =
 ((↑(dsE
 B).length :
 Int) -
 (1 :
 Int) -
 (↑x_1 :
 Int)).toNat ∧
 nthD
 (0 :
 Int)
 (dsOut
 B)
 ((↑(dsE
 B).length :
 Int) -
 (1 :
 Int) -
 (↑x_1 :
 Int)).toNat =
 nthD
 (0 :
 Int)
 (dsOut
 B)
 ((↑(dsE
 B).length :
 Int) -
 (1 :
 Int) -
 (↑x_1 :
 Int)).toNat ∧
 nthD
 (0 :
 Int)
 (dsOut
 B)
 ((↑(dsE
 B).length :
 Int) -
 (1 :
 Int) -
 (↑x_1 :
 Int)).toNat =
 nthD
 (0 :
 Int)
 (dsOut
 B)
 ((↑(dsE
 B).length :
 Int) -
 (1 :
 Int) -
 (↑x_1 :
 Int)).toNat ∧
 (↑(siz
 (64 :
 Nat)
 (nthD
 (0 :
 Int)
 (dsOut
 B)
 ((↑(dsE
 B).length :
 Int) -
 (1 :
 Int) -
 (↑x_1 :
 Int)).toNat).toNat) :
 Int) =
 (↑(siz
 (64 :
 Nat)
 (nthD
 (0 :
 Int)
 (dsOut
 B)
 ((↑(dsE
 B).length :
 Int) -
 (1 :
 Int) -
 (↑x_1 :
 Int)).toNat).toNat) :
 Int) ∧
 True ∧
 (↑B.length :
 Int) =
 (↑B.length :
 Int) ∧
 false =
 false ∧
 True ∧
 (↑B.length :
 Int) =
 (↑B.length :
 Int) ∧
 IntKind.i64.wrap
 ((↑x_3 :
 Int) +
 (1 :
 Int)) =
 (↑x :
 Int) ∧
 True) ∧
 (B.length = B.length ∧
 (∀ (j : Nat),
 j < B.length →
 nthD (0 : Int) B j =
 nthD (0 : Int) B j) ∧
 True) ∧
 ((↑B.length : Int) = (↑B.length : Int) ∧
 B.length = B.length) ∧
 ((AV.us (dsOut B)).len =
 (AV.us (dsOut B)).len ∧
 (∀ (j : Nat),
 j < (AV.us (dsOut B)).len →
 nthD (0 : Int) (dsOut B) j =
 nthD (0 : Int) (dsOut B) j) ∧
 True) ∧
 (∀ (x : Int),
 cmM B
 (List.drop ((dsE B).length - x_1)
 (dsE B))
 x =
 cmM B
 (List.drop ((dsE B).length - x_1)
 (dsE B))
 x) ∧
 True))) ∧
 (decide ((↑x_3 : Int) < (↑B.length : Int)) = false →
 ∃ (x_4 : Nat),
 (x_4 ≤ (dsE B).length ∧
 ∀ (s : Nat),
 List.Mem s (List.drop ((dsE B).length - x_4) (dsE B)) →
 cmp B s ≤ maxI) ∧
 ((PLoop.of (lCo0 B (3 : Nat))).ann x).mu x_4 <
 ((PLoop.of (lCo0 B (3 : Nat))).ann x).mu x_1 ∧
 (((↑B.length : Int) = (↑B.length : Int) ∧ B.length = B.length) ∧
 True ∧
 (AV.us (dsOut B)).len = (AV.us (dsOut B)).len ∧
 dsErr B = dsErr B ∧
 True ∧
 IntKind.i64.wrap
 ((↑(dsE B).length : Int) - (1 : Int) -
 (↑x_1 : Int) -
 (1 : Int)) =
 (↑(dsE B).length : Int) - (1 : Int) - (↑x_4 : Int) ∧
 ((AV.us (dsOut B)).len = (AV.us (dsOut B)).len ∧
 dsErr B = dsErr B) ∧
 ((↑B.length : Int) = (↑B.length : Int) ∧
 B.length = B.length) ∧
 ((AV.us (dsOut B)).len = (AV.us (dsOut B)).len ∧
 dsErr B = dsErr B) ∧
 (AV.us (dsOut B)).len = (AV.us (dsOut B)).len ∧
 dsErr B = dsErr B ∧
 dsErr B = dsErr B ∧
 false = false ∧
 True ∧
 (AV.us (dsOut B)).len =
 (AV.us (dsOut B)).len ∧
 (↑(AV.us (dsOut B)).len : Int) =
 (↑(AV.us (dsOut B)).len : Int) ∧
 IntKind.i64.wrap
 ((↑(AV.us (dsOut B)).len :
 Int) -
 (1 : Int)) =
 IntKind.i64.wrap
 ((↑(AV.us (dsOut B)).len :
 Int) -
 (1 : Int)) ∧
 True) ∧
 (B.length = B.length ∧
 (∀ (j : Nat),
 j < B.length → nthD (0 : Int) B j = nthD (0 : Int) B j) ∧
 True) ∧
 ((↑B.length : Int) = (↑B.length : Int) ∧ B.length = B.length) ∧
 ((AV.us (dsOut B)).len = (AV.us (dsOut B)).len ∧
 (∀ (j : Nat),
 j < (AV.us (dsOut B)).len →
 nthD (0 : Int) (dsOut B) j =
 nthD (0 : Int) (dsOut B) j) ∧
 True) ∧
 (∀ (x : Int),
 (bif
 x ==
 nthD (0 : Int) (dsOut B)
 ((↑(dsE B).length : Int) - (1 : Int) -
 (↑x_1 : Int)).toNat then
 some (↑(sumF B (dsK B x_2) (cmp B) x_3) : Int)
 else
 cmM B (List.drop ((dsE B).length - x_1) (dsE B))
 x) =
 cmM B (List.drop ((dsE B).length - x_4) (dsE B)) x) ∧
 True))) ∧
 (decide ((↑(dsE B).length : Int) - (1 : Int) - (↑x_1 : Int) ≥ (0 : Int)) = false →
 (0 : Int) = (0 : Int) ∧
 ∀ (j : Int), cmM B (List.drop ((dsE B).length - x_1) (dsE B)) j = cmM B (dsE B) j))) := by kernel_rfl
theorem v44 (B : List Int) (hn : B.length ≤ 64) (hc : okC B = true) : fnVc (tab [kDow [some (.us B)], kPop [], kFre [some (.us B)]] [(0, .of (lCo0 B 3)), (2, lCo1 B)]) Try.f44 [poV B.length 0 B] [arU B] (resMapi .u64 (some .i64) (cmM B (dsE B)) (.i .i64 0)) := by
  rw [v44_eq]
  simp only [eq_self, true_and, and_true, implies_true, imp_self, mkN_ps, mkN_rs, mkN_self, mkN_len, PLoop.of, lCnt, AV.len, lDo0, lDo1, lCo0, lCo1]
  refine ⟨hn, fun he => ?_, fun he => ?_⟩
  · rw [(dsO_ok (okC_iff.1 hc).1).2.1] at he; cases he
  have hokD : okD B = true := by
    cases hb : okD B
    · rw [(dsO_no hb).2] at he; cases he
    · rfl
  obtain ⟨e1, e2, hlen⟩ := dsO_ok hokD
  rw [e1, toI_len]
  have h0 := dsE_zero (B := B)
  refine ⟨(), ⟨0, ⟨Nat.zero_le _, fun s hs => ?_⟩, ?_, fun j => ?_⟩, fun k hk => ⟨fun hlt => ?_, fun hlt => ?_⟩⟩
  · rw [Nat.sub_zero, List.drop_length] at hs; cases hs
  · rw [w64_eq (by omega) (by omega)]; simp
  · rw [Nat.sub_zero, List.drop_length]; rfl
  · have hk2 : k < (dsE B).length := by have := of_decide_eq_true hlt; omega
    have hi : ((dsE B).length - 1 - k : Int).toNat = (dsE B).length - 1 - k := by omega
    rw [hi, nthD_toI, show nthD 0 (dsE B) ((dsE B).length - 1 - k) = dsK B k from rfl]
    have hmem : dsK B k ∈ dsE B := nthD_mem 0 (by omega)
    have hs := dsE_lt _ hmem
    have hs64 := lt64 hs hn
    have hd := dsK_drop hk2
    have hw : IntKind.i64.wrap (((dsE B).length - 1 - k : Int) - 1) = ((dsE B).length - 1 - ((k + 1 : Nat) : Int) : Int) := by rw [w64_eq (by omega) (by omega)]; omega
    refine ⟨by omega, by omega, ⟨by omega, by omega⟩, fun hf => ?_, fun hf => ?_⟩
    · have hf : siz 64 (dsK B k) = B.length := by rw [Int.toNat_natCast] at hf; have := eq_of_beq hf; omega
      refine ⟨k + 1, ⟨by omega, fun s hs => ?_⟩, by omega, hw, fun j => ?_⟩
      · rw [hd] at hs
        rcases List.mem_cons.1 hs with e | h
        · rw [e, cmp_full hf, maxI]; omega
        · exact hk.2 s h
      · rw [hd]; exact cm_cons (by rw [cmp_full hf]; rfl) j
    · have hne : siz 64 (dsK B k) ≠ B.length := fun e => by rw [Int.toNat_natCast, e] at hf; simp at hf
      have hcs := cmp_sum hn hs hne
      refine ⟨k, ⟨0, ⟨Nat.zero_le _, hk2, hne, Nat.zero_le _⟩, rfl, rfl⟩, fun x hx => ⟨fun hlx => ?_, fun hlx => ?_⟩⟩
      · have hx2 := lt_len hlx
        have hwx := wrS (n := 64) (i := x) (by omega) (by omega)
        have hor := or_shl (x := x) hs64 (by omega)
        have hsx := hx.2.2.2
        have hsu : sumF B (dsK B k) (cmp B) (x + 1) = sumF B (dsK B k) (cmp B) x + bif frR B (dsK B k : Int) x then cmp B (dsK B k ||| 2 ^ x) else 0 := rfl
        refine ⟨⟨by omega, by omega⟩, by omega, fun hf => ?_, fun hf => ?_⟩
        · have hf : frR B (dsK B k : Int) x = false := by simpa using hf
          simp only [hf, cond_false, Nat.add_zero] at hsu
          exact ⟨x + 1, ⟨by omega, hk2, hne, by rw [hsu]; exact hsx⟩, by omega, by rw [hsu], hwx⟩
        · have hf : frR B (dsK B k : Int) x = true := by simpa using hf
          rw [hf, cond_true] at hsu
          rw [hor, cm_val (dsK_next hn hokD hk2 hx2 hf)]
          have hmo : sumF B (dsK B k) (cmp B) (x + 1) ≤ sumF B (dsK B k) (cmp B) B.length := sumF_mono (by omega)
          unfold maxI at hsx
          rw [w64_eq (by omega) (by omega)]
          refine ⟨⟨by omega, by simp [IntKind.bits]; omega⟩, fun ho => ?_, fun ho => ?_⟩
          · have ho := of_decide_eq_true ho
            have := cmp_le hn _ hmem
            have h9 := (okC_iff.1 hc).2
            rw [hcs] at this
            unfold maxI at h9
            omega
          · have ho := of_decide_eq_false ho
            exact ⟨x + 1, ⟨by omega, hk2, hne, by rw [hsu]; unfold maxI; omega⟩, by omega, by rw [w64_eq (by omega) (by omega), hsu]; omega, hwx⟩
      · have hx2 := ge_len hlx hx.1
        subst hx2
        refine ⟨k + 1, ⟨by omega, fun s hs => ?_⟩, by omega, hw, fun j => ?_⟩
        · rw [hd] at hs
          rcases List.mem_cons.1 hs with e | h
          · rw [e, hcs]; exact hx.2.2.2
          · exact hk.2 s h
        · rw [hd]; exact cm_cons (by rw [hcs]) j
  · have hk2 : k = (dsE B).length := by have := of_decide_eq_false hlt; omega
    rw [hk2, Nat.sub_self, List.drop_zero]
    exact fun j => rfl
theorem v44e_eq (B : List Int) : (fnVc (tab [kDow [some (.us B)], kPop [], kFre [some (.us B)]] [(0, .of (lCo0 B 3)), (2, lCo1 B)]) Try.f44 [poV B.length 0 B] [arU B] (plainIs (.tup [.nilmap, .i .i64 4]))) = (B.length = B.length ∧
 mkN (nthD (0 : Int) B) B.length = B ∧
 (↑B.length : Int) = (↑B.length : Int) ∧
 B.length ≤ (64 : Nat) ∧
 ((dsErr B != (0 : Int)) = true → True ∧ dsErr B = (4 : Int)) ∧
 ((dsErr B != (0 : Int)) = false →
 ∃ (x : PUnit),
 (∃ (x : Nat),
 (x ≤ (dsE B).length ∧
 ∀ (s : Nat), List.Mem s (List.drop ((dsE B).length - x) (dsE B)) → cmp B s ≤ maxI) ∧
 (IntKind.i64.wrap ((↑(AV.us (dsOut B)).len : Int) - (1 : Int)) =
 (↑(dsE B).length : Int) - (1 : Int) - (↑x : Int) ∧
 True) ∧
 (∀ (x_1 : Int), none = cmM B (List.drop ((dsE B).length - x) (dsE B)) x_1) ∧ True) ∧
 ∀ (x_1 : Nat),
 (x_1 ≤ (dsE B).length ∧
 ∀ (s : Nat), List.Mem s (List.drop ((dsE B).length - x_1) (dsE B)) → cmp B s ≤ maxI) →
 (decide ((↑(dsE B).length : Int) - (1 : Int) - (↑x_1 : Int) ≥ (0 : Int)) = true →
 ((0 : Int) ≤ (↑(dsE B).length : Int) - (1 : Int) - (↑x_1 : Int) ∧
 (↑(dsE B).length : Int) - (1 : Int) - (↑x_1 : Int) < (↑(AV.us (dsOut B)).len : Int)) ∧
 ((↑(dsE B).length : Int) - (1 : Int) - (↑x_1 : Int)).toNat < (AV.us (dsOut B)).len ∧
 ((0 : Int) ≤
 nthD (0 : Int) (dsOut B) ((↑(dsE B).length : Int) - (1 : Int) - (↑x_1 : Int)).toNat ∧
 nthD (0 : Int) (dsOut B) ((↑(dsE B).length : Int) - (1 : Int) - (↑x_1 : Int)).toNat <
 (2 : Int) ^ (64 : Nat)) ∧
 (((↑(siz (64 : Nat)
 (nthD (0 : Int) (dsOut B)
 ((↑(dsE B).length : Int) - (1 : Int) - (↑x_1 : Int)).toNat).toNat) :
 Int) ==
 (↑B.length : Int)) =
 true →
 ∃ (x_2 : Nat),
 (x_2 ≤ (dsE B).length ∧
 ∀ (s : Nat),
 List.Mem s (List.drop ((dsE B).length - x_2) (dsE B)) → cmp B s ≤ maxI) ∧
 ((PLoop.of (lCo0 B (3 : Nat))).ann x).mu x_2 <
 ((PLoop.of (lCo0 B (3 : Nat))).ann x).mu x_1 ∧
 (((↑B.length : Int) = (↑B.length : Int) ∧ B.length = B.length) ∧
 True ∧
 (AV.us (dsOut B)).len = (AV.us (dsOut B)).len ∧
 dsErr B = dsErr B ∧
 True ∧
 IntKind.i64.wrap
 ((↑(dsE B).length : Int) - (1 : Int) - (↑x_1 : Int) -
 (1 : Int)) =
 (↑(dsE B).length : Int) - (1 : Int) - (↑x_2 : Int) ∧
 ((AV.us (dsOut B)).len = (AV.us (dsOut B)).len ∧
 dsErr B = dsErr B) ∧
 ((↑B.length : Int) = (↑B.length : Int) ∧ B.length = B.length) ∧
 ((AV.us (dsOut B)).len = (AV.us (dsOut B)).len ∧
 dsErr B = dsErr B) ∧
 (AV.us (dsOut B)).len = (AV.us (dsOut B)).len ∧
 dsErr B = dsErr B ∧
 dsErr B = dsErr B ∧
 false = false ∧
 True ∧
 (AV.us (dsOut B)).len = (AV.us (dsOut B)).len ∧
 (↑(AV.us (dsOut B)).len : Int) =
 (↑(AV.us (dsOut B)).len : Int) ∧
 IntKind.i64.wrap
 ((↑(AV.us (dsOut B)).len : Int) -
 (1 : Int)) =
 IntKind.i64.wrap
 ((↑(AV.us (dsOut B)).len : Int) -
 (1 : Int)) ∧
 True) ∧
 (B.length = B.length ∧
 (∀ (j : Nat), j < B.length → nthD (0 : Int) B j = nthD (0 : Int) B j) ∧
 True) ∧
 ((↑B.length : Int) = (↑B.length : Int) ∧ B.length = B.length) ∧
 ((AV.us (dsOut B)).len = (AV.us (dsOut B)).len ∧
 (∀ (j : Nat),
 j < (AV.us (dsOut B)).len →
 nthD (0 : Int) (dsOut B) j = nthD (0 : Int) (dsOut B) j) ∧
 True) ∧
 (∀ (x : Int),
 (bif
 x ==
 nthD (0 : Int) (dsOut B)
 ((↑(dsE B).length : Int) - (1 : Int) -
 (↑x_1 : Int)).toNat then
 some (1 : Int)
 else cmM B (List.drop ((dsE B).length - x_1) (dsE B)) x) =
 cmM B (List.drop ((dsE B).length - x_2) (dsE B)) x) ∧
 True) ∧
 (((↑(siz (64 : Nat)
 (nthD (0 : Int) (dsOut B)
 ((↑(dsE B).length : Int) - (1 : Int) - (↑x_1 : Int)).toNat).toNat) :
 Int) ==
 (↑B.length : Int)) =
 false →
 ∃ (x_2 : Nat),
 (∃ (x : Nat),
 (x ≤ B.length ∧
 x_2 < (dsE B).length ∧
 siz (64 : Nat) (dsK B x_2) ≠ B.length ∧
 sumF B (dsK B x_2) (cmp B) x ≤ maxI) ∧
 ((0 : Int) = (↑x : Int) ∧
 (0 : Int) = (↑(sumF B (dsK B x_2) (cmp B) x) : Int) ∧ True) ∧
 True) ∧
 ∀ (x_3 : Nat),
 x_3 ≤ B.length ∧
 x_2 < (dsE B).length ∧
 siz (64 : Nat) (dsK B x_2) ≠ B.length ∧
 sumF B (dsK B x_2) (cmp B) x_3 ≤ maxI →
 (decide ((↑x_3 : Int) < (↑B.length : Int)) = true →
 B.length = B.length ∧
 mkN (nthD (0 : Int) B) B.length = B ∧
 ((0 : Int) ≤ (↑x_3 : Int) ∧ (↑x_3 : Int) < (64 : Int)) ∧
 (↑x_3 : Int) + (1 : Int) ≤ (↑B.length : Int) ∧
 ((!frR B
 (nthD (0 : Int) (dsOut B)
 ((↑(dsE B).length : Int) - (1 : Int) -
 (↑x_1 : Int)).toNat)
 (↑x_3 : Int)) =
 true →
 ∃ (x : Nat),
 (x ≤ B.length ∧
 x_2 < (dsE B).length ∧
 siz (64 : Nat) (dsK B x_2) ≠ B.length ∧
 sumF B (dsK B x_2) (cmp B) x ≤ maxI) ∧
 ((lCo1 B).ann x_2).mu x < ((lCo1 B).ann x_2).mu x_3 ∧
 (((↑B.length : Int) = (↑B.length : Int) ∧
 B.length = B.length) ∧
 True ∧
 (AV.us (dsOut B)).len = (AV.us (dsOut B)).len ∧
 dsErr B = dsErr B ∧
 True ∧
 (↑(dsE B).length : Int) - (1 : Int) -
 (↑x_1 : Int) =
 (↑(dsE B).length : Int) - (1 : Int) -
 (↑x_1 : Int) ∧
 nthD (0 : Int) (dsOut B)
 ((↑(dsE B).length : Int) -
 (1 : Int) -
 (↑x_1 : Int)).toNat =
 nthD (0 : Int) (dsOut B)
 ((↑(dsE B).length : Int) -
 (1 : Int) -
 (↑x_1 : Int)).toNat ∧
 (↑(sumF B (dsK B x_2) (cmp B) x_3) :
 Int) =
 (↑(sumF B (dsK B x_2) (cmp B) x) :
 Int) ∧
 ((AV.us (dsOut B)).len =
 (AV.us (dsOut B)).len ∧
 dsErr B = dsErr B) ∧
 ((↑B.length : Int) =
 (↑B.length : Int) ∧
 B.length = B.length) ∧
 ((AV.us (dsOut B)).len =
 (AV.us (dsOut B)).len ∧
 dsErr B = dsErr B) ∧
 (AV.us (dsOut B)).len =
 (AV.us (dsOut B)).len ∧
 dsErr B = dsErr B ∧
 dsErr B = dsErr B ∧
 false = false ∧
 True ∧
 (AV.us
 (dsOut
 B)).len =
 (AV.us
 (dsOut
 B)).len ∧
 (↑(AV.us
 (dsOut
 B)).len :
 Int) =
 (↑(AV.us
 (dsOut
 B)).len :
 Int) ∧
 IntKind.i64.wrap
 ((↑(AV.us
 (dsOut
 B)).len :
 Int) -
 (1 :
 Int)) =
 IntKind.i64.wrap
 ((↑(AV.us
 (dsOut
 B)).len :
 Int) -
 (1 :
 Int)) ∧
 (↑(dsE
 B).length :
 Int) -
 (1 :
 Int) -
 (↑x_1 :
 Int) =
 (↑(dsE
 B).length :
 Int) -
 (1 :
 Int) -
 (↑x_1 :
 Int) ∧
 true = true ∧
 (AV.us
 (dsOut
 B)).len =
 (AV.us
 (dsOut
 B)).len ∧
 (↑(dsE
 B).length :
 Int) -
 (1 :
 Int) -
 (↑x_1 :
 Int) =
 (↑(dsE
 B).length :
 Int) -
 (1 :
 Int) -
 (↑x_1 :
 Int) ∧
 ((↑(dsE
 B).length :
 Int) -
 (1 :
 Int) -
 (↑x_1 :
 Int)).toNat =
 ((↑(dsE
 B).length :
 Int) -
 (1 :
 Int) -
 (↑x_1 :
 Int)).toNat ∧
 nthD
 (0 :
 Int)
 (dsOut
 B)
 ((↑(dsE
 B).length :
 Int) -
 (1 :
 Int) -
 (↑x_1 :
 Int)).toNat =
 nthD
 (0 :
 Int)
 (dsOut
 B)
 ((↑(dsE
 B).length :
 Int) -
 (1 :
 Int) -
 (↑x_1 :
 Int)).toNat ∧
 nthD
 (0 :
 Int)
 (dsOut
 B)
 ((↑(dsE
 B).length :
 Int) -
 (1 :
 Int) -
 (↑x_1 :
 Int)).toNat =
 nthD
 (0 :
 Int)
 (dsOut
 B)
 ((↑(dsE
 B).length :
 Int) -
 (1 :
 Int) -
 (↑x_1 :
 Int)).toNat ∧
 (↑(siz
 (64 :
 Nat)
 (nthD
 (0 :
 Int)
 (dsOut
 B)
 ((↑(dsE
 B).length :
 Int) -
 (1 :
 Int) -
 (↑x_1 :
 Int)).toNat).toNat) :
 Int) =
 (↑(siz
 (64 :
 Nat)
 (nthD
 (0 :
 Int)
 (dsOut
 B)
 ((↑(dsE
 B).length :
 Int) -
 (1 :
 Int) -
 (↑x_1 :
 Int)).toNat).toNat) :
 Int) ∧
 True ∧
 (↑B.length :
 Int) =
 (↑B.length :
 Int) ∧
 false =
 false ∧
 True ∧
 (↑B.length :
 Int) =
 (↑B.length :
 Int) ∧
 IntKind.i64.wrap
 ((↑x_3 :
 Int) +
 (1 :
 Int)) =
 (↑x :
 Int) ∧
 True) ∧
 (B.length = B.length ∧
 (∀ (j : Nat),
 j < B.length →
 nthD (0 : Int) B j = nthD (0 : Int) B j) ∧
 True) ∧
 ((↑B.length : Int) = (↑B.length : Int) ∧
 B.length = B.length) ∧
 ((AV.us (dsOut B)).len = (AV.us (dsOut B)).len ∧
 (∀ (j : Nat),
 j < (AV.us (dsOut B)).len →
 nthD (0 : Int) (dsOut B) j =
 nthD (0 : Int) (dsOut B) j) ∧
 True) ∧
 (∀ (x : Int),
 cmM B
 (List.drop ((dsE B).length - x_1)
 (dsE B))
 x =
 cmM B
 (List.drop ((dsE B).length - x_1)
 (dsE B))
 x) ∧
 True) ∧
 ((!frR B
 (nthD (0 : Int) (dsOut B)
 ((↑(dsE B).length : Int) - (1 : Int) -
 (↑x_1 : Int)).toNat)
 (↑x_3 : Int)) =
 false →
 ((0 : Int) ≤ (↑x_3 : Int) ∧
 (↑x_3 : Int) ≤ (↑IntKind.u64.bits : Int)) ∧
 (decide
 (val0
 (cmM B
 (List.drop ((dsE B).length - x_1) (dsE B))
 (bits BinOp.or IntKind.u64
 (nthD (0 : Int) (dsOut B)
 ((↑(dsE B).length : Int) - (1 : Int) -
 (↑x_1 : Int)).toNat)
 (IntKind.u64.wrap
 ((1 : Int) * (2 : Int) ^ x_3)))) >
 IntKind.i64.wrap
 ((9223372036854775807 : Int) -
 (↑(sumF B (dsK B x_2) (cmp B) x_3) : Int))) =
 true →
 True ∧ (4 : Int) = (4 : Int)) ∧
 (decide
 (val0
 (cmM B
 (List.drop ((dsE B).length - x_1) (dsE B))
 (bits BinOp.or IntKind.u64
 (nthD (0 : Int) (dsOut B)
 ((↑(dsE B).length : Int) - (1 : Int) -
 (↑x_1 : Int)).toNat)
 (IntKind.u64.wrap
 ((1 : Int) * (2 : Int) ^ x_3)))) >
 IntKind.i64.wrap
 ((9223372036854775807 : Int) -
 (↑(sumF B (dsK B x_2) (cmp B) x_3) : Int))) =
 false →
 ∃ (x : Nat),
 (x ≤ B.length ∧
 x_2 < (dsE B).length ∧
 siz (64 : Nat) (dsK B x_2) ≠ B.length ∧
 sumF B (dsK B x_2) (cmp B) x ≤ maxI) ∧
 ((lCo1 B).ann x_2).mu x <
 ((lCo1 B).ann x_2).mu x_3 ∧
 (((↑B.length : Int) = (↑B.length : Int) ∧
 B.length = B.length) ∧
 True ∧
 (AV.us (dsOut B)).len =
 (AV.us (dsOut B)).len ∧
 dsErr B = dsErr B ∧
 True ∧
 (↑(dsE B).length : Int) - (1 : Int) -
 (↑x_1 : Int) =
 (↑(dsE B).length : Int) -
 (1 : Int) -
 (↑x_1 : Int) ∧
 nthD (0 : Int) (dsOut B)
 ((↑(dsE B).length : Int) -
 (1 : Int) -
 (↑x_1 : Int)).toNat =
 nthD (0 : Int) (dsOut B)
 ((↑(dsE B).length : Int) -
 (1 : Int) -
 (↑x_1 : Int)).toNat ∧
 IntKind.i64.wrap
 ((↑(sumF B (dsK B x_2)
 (cmp B) x_3) :
 Int) +
 val0
 (cmM B
 (List.drop
 ((dsE B).length -
 x_1)
 (dsE B))
 (bits BinOp.or
 IntKind.u64
 (nthD (0 : Int)
 (dsOut B)
 ((↑(dsE
 B).length :
 Int) -
 (1 : Int) -
 (↑x_1 :
 Int)).toNat)
 (IntKind.u64.wrap
 ((1 : Int) *
 (2 : Int) ^
 x_3))))) =
 (↑(sumF B (dsK B x_2) (cmp B)
 x) :
 Int) ∧
 ((AV.us (dsOut B)).len =
 (AV.us (dsOut B)).len ∧
 dsErr B = dsErr B) ∧
 ((↑B.length : Int) =
 (↑B.length : Int) ∧
 B.length = B.length) ∧
 ((AV.us (dsOut B)).len =
 (AV.us
 (dsOut B)).len ∧
 dsErr B = dsErr B) ∧
 (AV.us (dsOut B)).len =
 (AV.us
 (dsOut B)).len ∧
 dsErr B = dsErr B ∧
 dsErr B = dsErr B ∧
 false = false ∧
 True ∧
 (AV.us
 (dsOut
 B)).len =
 (AV.us
 (dsOut
 B)).len ∧
 (↑(AV.us
 (dsOut
 B)).len :
 Int) =
 (↑(AV.us
 (dsOut
 B)).len :
 Int) ∧
 IntKind.i64.wrap
 ((↑(AV.us
 (dsOut
 B)).len :
 Int) -
 (1 :
 Int)) =
 IntKind.i64.wrap
 ((↑(AV.us
 (dsOut
 B)).len :
 Int) -
 (1 :
 Int)) ∧
 (↑(dsE
 B).length :
 Int) -
 (1 :
 Int) -
 (↑x_1 :
 Int) =
 (↑(dsE
 B).length :
 Int) -
 (1 :
 Int) -
 (↑x_1 :
 Int) ∧
 true =
 true ∧
 (AV.us
 (dsOut
 B)).len =
 (AV.us
 (dsOut
 B)).len ∧
 (↑(dsE
 B).length :
 Int) -
 (1 :
 Int) -
 (↑x_1 :
 Int) =
 (↑(dsE
 B).length :
 Int) -
 (1 :
 Int) -
 (↑x_1 :
 Int) ∧
 ((↑(dsE
 B).length :
 Int) -
 (1 :
 Int) -
 (↑x_1 :
 Int)).toNat =
 ((↑(dsE
 B).length :
 Int) -
 (1 :
 Int) -
 (↑x_1 :
 Int)).toNat ∧
 nthD
 (0 :
 Int)
 (dsOut
 B)
 ((↑(dsE
 B).length :
 Int) -
 (1 :
 Int) -
 (↑x_1 :
 Int)).toNat =
 nthD
 (0 :
 Int)
 (dsOut
 B)
 ((↑(dsE
 B).length :
 Int) -
 (1 :
 Int) -
 (↑x_1 :
 Int)).toNat ∧
 nthD
 (0 :
 Int)
 (dsOut
 B)
 ((↑(dsE
 B).length :
 Int) -
 (1 :
 Int) -
 (↑x_1 :
 Int)).toNat =
 nthD
 (0 :
 Int)
 (dsOut
 B)
 ((↑(dsE
 B).length :
 Int) -
 (1 :
 Int) -
 (↑x_1 :
 Int)).toNat ∧
 (↑(siz
 (64 :
 Nat)
 (nthD
 (0 :
 Int)
 (dsOut
 B)
 ((↑(dsE
 B).length :
 Int) -
 (1 :
 Int) -
 (↑x_1 :
 Int)).toNat).toNat) :
 Int) =
 (↑(siz
 (64 :
 Nat)
 (nthD
 (0 :
 Int)
 (dsOut
 B)
 ((↑(dsE
 B).length :
 Int) -
 (1 :
 Int) -
 (↑x_1 :
 Int)).toNat).toNat) :
 Int) ∧
 True ∧
 (↑B.length :
 Int) =
 (↑B.length :
 Int) ∧
 false =
 false ∧
 True ∧
 (↑B.length :
 Int) =
 (↑B.length :
 Int) ∧
 IntKind.i64.wrap
 ((↑x_3 :
 Int) +
 (1 :
 Int)) =
 (↑x :
 Int) ∧
 True) ∧
 (B.length = B.length ∧
 (∀ (j : Nat),
 j < B.length →
 nthD (0 : Int) B j =
 nthD (0 : Int) B j) ∧
 True) ∧
 ((↑B.length : Int) = (↑B.length : Int) ∧
 B.length = B.length) ∧
 ((AV.us (dsOut B)).len =
 (AV.us (dsOut B)).len ∧
 (∀ (j : Nat),
 j < (AV.us (dsOut B)).len →
 nthD (0 : Int) (dsOut B) j =
 nthD (0 : Int) (dsOut B) j) ∧
 True) ∧
 (∀ (x : Int),
 cmM B
 (List.drop ((dsE B).length - x_1)
 (dsE B))
 x =
 cmM B
 (List.drop ((dsE B).length - x_1)
 (dsE B))
 x) ∧
 True))) ∧
 (decide ((↑x_3 : Int) < (↑B.length : Int)) = false →
 ∃ (x_4 : Nat),
 (x_4 ≤ (dsE B).length ∧
 ∀ (s : Nat),
 List.Mem s (List.drop ((dsE B).length - x_4) (dsE B)) →
 cmp B s ≤ maxI) ∧
 ((PLoop.of (lCo0 B (3 : Nat))).ann x).mu x_4 <
 ((PLoop.of (lCo0 B (3 : Nat))).ann x).mu x_1 ∧
 (((↑B.length : Int) = (↑B.length : Int) ∧ B.length = B.length) ∧
 True ∧
 (AV.us (dsOut B)).len = (AV.us (dsOut B)).len ∧
 dsErr B = dsErr B ∧
 True ∧
 IntKind.i64.wrap
 ((↑(dsE B).length : Int) - (1 : Int) -
 (↑x_1 : Int) -
 (1 : Int)) =
 (↑(dsE B).length : Int) - (1 : Int) - (↑x_4 : Int) ∧
 ((AV.us (dsOut B)).len = (AV.us (dsOut B)).len ∧
 dsErr B = dsErr B) ∧
 ((↑B.length : Int) = (↑B.length : Int) ∧
 B.length = B.length) ∧
 ((AV.us (dsOut B)).len = (AV.us (dsOut B)).len ∧
 dsErr B = dsErr B) ∧
 (AV.us (dsOut B)).len = (AV.us (dsOut B)).len ∧
 dsErr B = dsErr B ∧
 dsErr B = dsErr B ∧
 false = false ∧
 True ∧
 (AV.us (dsOut B)).len =
 (AV.us (dsOut B)).len ∧
 (↑(AV.us (dsOut B)).len : Int) =
 (↑(AV.us (dsOut B)).len : Int) ∧
 IntKind.i64.wrap
 ((↑(AV.us (dsOut B)).len :
 Int) -
 (1 : Int)) =
 IntKind.i64.wrap
 ((↑(AV.us (dsOut B)).len :
 Int) -
 (1 : Int)) ∧
 True) ∧
 (B.length = B.length ∧
 (∀ (j : Nat),
 j < B.length → nthD (0 : Int) B j = nthD (0 : Int) B j) ∧
 True) ∧
 ((↑B.length : Int) = (↑B.length : Int) ∧ B.length = B.length) ∧
 ((AV.us (dsOut B)).len = (AV.us (dsOut B)).len ∧
 (∀ (j : Nat),
 j < (AV.us (dsOut B)).len →
 nthD (0 : Int) (dsOut B) j =
 nthD (0 : Int) (dsOut B) j) ∧
 True) ∧
 (∀ (x : Int),
 (bif
 x ==
 nthD (0 : Int) (dsOut B)
 ((↑(dsE B).length : Int) - (1 : Int) -
 (↑x_1 : Int)).toNat then
 some (↑(sumF B (dsK B x_2) (cmp B) x_3) : Int)
 else
 cmM B (List.drop ((dsE B).length - x_1) (dsE B))
 x) =
 cmM B (List.drop ((dsE B).length - x_4) (dsE B)) x) ∧
 True))) ∧
 (decide ((↑(dsE B).length : Int) - (1 : Int) - (↑x_1 : Int) ≥ (0 : Int)) = false →
 False ∧ (0 : Int) = (4 : Int)))) := by kernel_rfl
theorem v44e (B : List Int) (hn : B.length ≤ 64) (hc : okC B = false) : fnVc (tab [kDow [some (.us B)], kPop [], kFre [some (.us B)]] [(0, .of (lCo0 B 3)), (2, lCo1 B)]) Try.f44 [poV B.length 0 B] [arU B] (plainIs (.tup [.nilmap, .i .i64 4])) := by
  rw [v44e_eq]
  simp only [eq_self, true_and, and_true, implies_true, imp_self, mkN_ps, mkN_rs, mkN_self, mkN_len, PLoop.of, lCnt, AV.len, lDo0, lDo1, lCo0, lCo1]
  refine ⟨hn, fun he => ?_, fun he => ?_⟩
  · have hno : okD B = false := by
      cases hb : okD B
      · rfl
      · rw [(dsO_ok hb).2.1] at he; cases he
    exact (dsO_no hno).2
  have hokD : okD B = true := by
    cases hb : okD B
    · rw [(dsO_no hb).2] at he; cases he
    · rfl
  obtain ⟨e1, e2, hlen⟩ := dsO_ok hokD
  rw [e1, toI_len]
  have h0 := dsE_zero (B := B)
  refine ⟨(), ⟨0, ⟨Nat.zero_le _, fun s hs => ?_⟩, ?_, fun j => ?_⟩, fun k hk => ⟨fun hlt => ?_, fun hlt => ?_⟩⟩
  · rw [Nat.sub_zero, List.drop_length] at hs; cases hs
  · rw [w64_eq (by omega) (by omega)]; simp
  · rw [Nat.sub_zero, List.drop_length]; rfl
  · have hk2 : k < (dsE B).length := by have := of_decide_eq_true hlt; omega
    have hi : ((dsE B).length - 1 - k : Int).toNat = (dsE B).length - 1 - k := by omega
    rw [hi, nthD_toI, show nthD 0 (dsE B) ((dsE B).length - 1 - k) = dsK B k from rfl]
    have hmem : dsK B k ∈ dsE B := nthD_mem 0 (by omega)
    have hs := dsE_lt _ hmem
    have hs64 := lt64 hs hn
    have hd := dsK_drop hk2
    have hw : IntKind.i64.wrap (((dsE B).length - 1 - k : Int) - 1) = ((dsE B).length - 1 - ((k + 1 : Nat) : Int) : Int) := by rw [w64_eq (by omega) (by omega)]; omega
    refine ⟨by omega, by omega, ⟨by omega, by omega⟩, fun hf => ?_, fun hf => ?_⟩
    · have hf : siz 64 (dsK B k) = B.length := by rw [Int.toNat_natCast] at hf; have := eq_of_beq hf; omega
      refine ⟨k + 1, ⟨by omega, fun s hs => ?_⟩, by omega, hw, fun j => ?_⟩
      · rw [hd] at hs
        rcases List.mem_cons.1 hs with e | h
        · rw [e, cmp_full hf, maxI]; omega
        · exact hk.2 s h
      · rw [hd]; exact cm_cons (by rw [cmp_full hf]; rfl) j
    · have hne : siz 64 (dsK B k) ≠ B.length := fun e => by rw [Int.toNat_natCast, e] at hf; simp at hf
      have hcs := cmp_sum hn hs hne
      refine ⟨k, ⟨0, ⟨Nat.zero_le _, hk2, hne, Nat.zero_le _⟩, rfl, rfl⟩, fun x hx => ⟨fun hlx => ?_, fun hlx => ?_⟩⟩
      · have hx2 := lt_len hlx
        have hwx := wrS (n := 64) (i := x) (by omega) (by omega)
        have hor := or_shl (x := x) hs64 (by omega)
        have hsx := hx.2.2.2
        have hsu : sumF B (dsK B k) (cmp B) (x + 1) = sumF B (dsK B k) (cmp B) x + bif frR B (dsK B k : Int) x then cmp B (dsK B k ||| 2 ^ x) else 0 := rfl
        refine ⟨⟨by omega, by omega⟩, by omega, fun hf => ?_, fun hf => ?_⟩
        · have hf : frR B (dsK B k : Int) x = false := by simpa using hf
          simp only [hf, cond_false, Nat.add_zero] at hsu
          exact ⟨x + 1, ⟨by omega, hk2, hne, by rw [hsu]; exact hsx⟩, by omega, by rw [hsu], hwx⟩
        · have hf : frR B (dsK B k : Int) x = true := by simpa using hf
          rw [hf, cond_true] at hsu
          rw [hor, cm_val (dsK_next hn hokD hk2 hx2 hf)]
          have hmo : sumF B (dsK B k) (cmp B) (x + 1) ≤ sumF B (dsK B k) (cmp B) B.length := sumF_mono (by omega)
          unfold maxI at hsx
          rw [w64_eq (by omega) (by omega)]
          refine ⟨⟨by omega, by simp [IntKind.bits]; omega⟩, fun ho => ?_⟩
          · have ho := of_decide_eq_false ho
            exact ⟨x + 1, ⟨by omega, hk2, hne, by rw [hsu]; unfold maxI; omega⟩, by omega, by rw [w64_eq (by omega) (by omega), hsu]; omega, hwx⟩
      · have hx2 := ge_len hlx hx.1
        subst hx2
        refine ⟨k + 1, ⟨by omega, fun s hs => ?_⟩, by omega, hw, fun j => ?_⟩
        · rw [hd] at hs
          rcases List.mem_cons.1 hs with e | h
          · rw [e, hcs]; exact hx.2.2.2
          · exact hk.2 s h
        · rw [hd]; exact cm_cons (by rw [hcs]) j
  · have hk2 : k = (dsE B).length := by have := of_decide_eq_false hlt; omega
    exfalso
    rw [hk2, Nat.sub_self, List.drop_zero] at hk
    have h9 : okC B = true := okC_iff.2 ⟨hokD, hk.2 0 (by rw [← h0.1]; exact nthD_mem 0 h0.2)⟩
    rw [hc] at h9; cases h9
end Go.Proofs.Ytiokmglajigngaa
