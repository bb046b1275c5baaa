/-
  The linext layer: extensions, counts and ranks: laws in plain terms.
-/
import Derived.Test.YtiokmglajigngaaU22
namespace Go.Proofs.Ytiokmglajigngaa
open Go Go.Proofs.Ytiokmglajigngaa.Sx
theorem len_subD {α : Type} [DecidableEq α] : ∀ (l m : List α), l.Nodup → (∀ x ∈ l, x ∈ m) → l.length ≤ m.length := by
  intro l
  induction l with
  | nil => intro m _ _; simp
  | cons x l ih =>
    intro m hn hs
    have h1 := List.nodup_cons.1 hn
    have hx := hs x List.mem_cons_self
    have := ih (m.erase x) h1.2 fun y hy => by
      have hne : y ≠ x := fun e => h1.1 (e ▸ hy)
      exact (List.mem_erase_of_ne hne).2 (hs y (List.mem_cons_of_mem _ hy))
    rw [List.length_erase_of_mem hx] at this
    have hpos : 0 < m.length := List.length_pos_of_mem hx
    simp only [List.length_cons]; omega
theorem dsX_nodup {B : List Int} {s : Nat} {L : List Nat} (hL : L.Nodup) : ∀ x, (dsX B s L x).Nodup := by
  intro x
  induction x with
  | zero => exact hL
  | succ x ih =>
    rw [dsX]
    cases hc : (frR B s x && !((dsX B s L x).contains (s ||| 2 ^ x)))
    · exact ih
    · simp only [Bool.and_eq_true, Bool.not_eq_true'] at hc
      have hno : (s ||| 2 ^ x) ∉ dsX B s L x := fun h => by rw [List.contains_iff_mem.2 h] at hc; cases hc.2
      rw [cond_true, List.nodup_append]
      refine ⟨ih, by simp, fun a ha b hb => ?_⟩
      rw [List.mem_singleton.1 hb]
      exact fun e => hno (e ▸ ha)
theorem dsI_nodup {B : List Int} {n : Nat} : ∀ i, (dsI B n i).Nodup := by
  intro i
  induction i with
  | zero => simp [dsI]
  | succ i ih =>
    rw [dsI]
    cases Nat.blt i (dsI B n i).length
    · exact ih
    · exact dsX_nodup ih n
theorem dsE_nodup {B : List Int} : (dsE B).Nodup := dsI_nodup 65537
theorem dsI_le {B : List Int} {n : Nat} (i : Nat) : (dsI B n i).length ≤ 2 ^ n := by
  have := len_subD (dsI B n i) (List.range (2 ^ n)) (dsI_nodup i) fun x hx => List.mem_range.2 (dsI_lt i x hx)
  simpa using this
theorem dsE_le {B : List Int} : (dsE B).length ≤ 2 ^ B.length := dsI_le 65537
theorem okD_small {B : List Int} (h : B.length ≤ 16) : okD B = true := by
  have h1 := dsE_le (B := B)
  have h2 : 2 ^ B.length ≤ 2 ^ 16 := Nat.pow_le_pow_right (by omega) h
  exact Nat.ble_eq_true_of_le (Nat.le_trans h1 h2)
theorem sumF_le {B : List Int} {s : Nat} {c : Nat → Nat} {v : Nat} (h : ∀ t, c t ≤ v) : ∀ x, sumF B s c x ≤ x * v := by
  intro x
  induction x with
  | zero => rw [sumF, Nat.zero_mul]; exact Nat.le_refl _
  | succ x ih =>
    rw [sumF, Nat.succ_mul]
    cases frR B s x
    · rw [cond_false]; omega
    · rw [cond_true]; have := h (s ||| 2 ^ x); omega
theorem cmpF_le {B : List Int} : ∀ (k s : Nat), cmpF B k s ≤ B.length ^ k := by
  intro k
  induction k with
  | zero => intro s; exact Nat.le_refl _
  | succ k ih =>
    intro s
    rw [cmpF, Nat.pow_succ, Nat.mul_comm]
    exact sumF_le ih _
theorem cmp_bound {B : List Int} : cmp B 0 ≤ B.length ^ B.length := by
  rw [cmp, siz_zero, Nat.sub_zero]; exact cmpF_le _ _
theorem okC_small {B : List Int} (h : B.length ≤ 9) : okC B = true := by
  refine okC_iff.2 ⟨okD_small (by omega), Nat.le_trans cmp_bound ?_⟩
  generalize B.length = n at h
  have : ∀ m : Fin 10, m.1 ^ m.1 ≤ maxI := by decide +kernel
  exact this ⟨n, by omega⟩

/-! ### Extensions and their number -/
theorem flatMap_len {f : Int → List (List Int)} {l : List Int} : (l.flatMap f).length = (l.map (fun x => (f x).length)).sum := by
  induction l with
  | nil => rfl
  | cons x r ih => rw [List.flatMap_cons, List.length_append, ih, List.map_cons, List.sum_cons]
theorem sum_app (a b : List Nat) : (a ++ b).sum = a.sum + b.sum := by
  induction a with
  | nil => simp
  | cons x r ih => rw [List.cons_append, List.sum_cons, List.sum_cons, ih]; omega
/-- What is known of a relation here. -/
structure Rl (N : Int) (l : List Pq) : Prop where
  ok : okP N l = true
  okD : okD (befP N l) = true
theorem Rl.fr {N : Int} {l : List Pq} (h : Rl N l) {P : List Int} (hP : Dn N (befP N l) P) {x : Nat} (hx : x < N.toNat) : frR (befP N l) (maskM P) x = okN l P x := by
  obtain ⟨e, _, _, _, hv⟩ := befP_ok h.ok
  rw [e]; exact frR_ok hv hP.rng hx
theorem Rl.snoc {N : Int} {l : List Pq} (h : Rl N l) {P : List Int} (hP : Dn N (befP N l) P) {x : Nat} (hx : x < N.toNat) (ho : okN l P x = true) : Dn N (befP N l) (P ++ [(x : Int)]) := by
  obtain ⟨_, hN, hN2, hn, _⟩ := befP_ok h.ok
  exact dn_snoc hP hN hn h.okD (by omega) (by rw [h.fr hP hx]; exact ho)
theorem ext_len {N : Int} {l : List Pq} (h : Rl N l) : ∀ (k : Nat) (P : List Int), Dn N (befP N l) P → P.length + k = N.toNat → (extP N l P).length = cmp (befP N l) (maskM P) := by
  obtain ⟨e, hN, hN2, hn, hv⟩ := befP_ok h.ok
  intro k
  induction k with
  | zero =>
    intro P hP hk
    rw [extP_full (by omega), cmp_full (by rw [hP.sz]; omega)]
    rfl
  | succ k ih =>
    intro P hP hk
    rw [extP_step (by omega), flatMap_len, dn_sum hP hn (by omega), hN2]
    have key : ∀ x, x ≤ N.toNat → ((nxtK l P x).map (fun y => (extP N l (P ++ [y])).length)).sum = sumF (befP N l) (maskM P) (cmp (befP N l)) x := by
      intro x
      induction x with
      | zero => intro _; rfl
      | succ x ihx =>
        intro hx
        rw [nxtK_step, List.map_append, sum_app, ihx (by omega), sumF, h.fr hP (by omega)]
        congr 1
        cases ho : okN l P x
        · rfl
        · rw [cond_true, cond_true, List.map_singleton, List.sum_singleton, ih _ (h.snoc hP (by omega) ho) (by rw [List.length_append, List.length_singleton]; omega), mask_snoc]
    exact key _ (Nat.le_refl _)
theorem ext_len0 {N : Int} {l : List Pq} (h : Rl N l) : (extP N l []).length = cmp (befP N l) 0 := ext_len h N.toNat [] dn_nil (by simp)
/-- The element with number r, one step on. -/
theorem ext_nth {N : Int} {l : List Pq} (h : Rl N l) {P : List Int} (hP : Dn N (befP N l) P) (hl : P.length < N.toNat) {r y : Nat} (hy : y < N.toNat) (h1 : r < sumF (befP N l) (maskM P) (cmp (befP N l)) (y + 1)) (h2 : sumF (befP N l) (maskM P) (cmp (befP N l)) y ≤ r) :
    nthD [] (extP N l P) r = nthD [] (extP N l (P ++ [(y : Int)])) (r - sumF (befP N l) (maskM P) (cmp (befP N l)) y) := by
  have hlen : ∀ x, x ≤ N.toNat → ((nxtK l P x).flatMap (fun z => extP N l (P ++ [z]))).length = sumF (befP N l) (maskM P) (cmp (befP N l)) x := by
    intro x
    induction x with
    | zero => intro _; rfl
    | succ x ihx =>
      intro hx
      rw [nxtK_step, List.flatMap_append, List.length_append, ihx (by omega), sumF, h.fr hP (by omega)]
      congr 1
      cases ho : okN l P x
      · rfl
      · rw [cond_true, cond_true, List.flatMap_singleton, ext_len h (N.toNat - (P.length + 1)) _ (h.snoc hP (by omega) ho) (by rw [List.length_append, List.length_singleton]; omega), mask_snoc]
  obtain ⟨f1, f2⟩ := fr_of_sum h1 h2
  rw [h.fr hP hy] at f1
  have hpre : ∃ t, nxtL N l P = nxtK l P y ++ [(y : Int)] ++ t := by
    have : ∀ j, y + 1 ≤ j → ∃ t, nxtK l P j = nxtK l P (y + 1) ++ t := by
      intro j hj
      induction hj with
      | refl => exact ⟨[], by simp⟩
      | @step j _ ih => obtain ⟨t, ht⟩ := ih; rw [nxtK_step, ht, List.append_assoc]; exact ⟨_, rfl⟩
    obtain ⟨t, ht⟩ := this N.toNat hy
    rw [nxtK_step, f1] at ht
    exact ⟨t, ht⟩
  obtain ⟨t, ht⟩ := hpre
  have hl1 := hlen y (by omega)
  rw [extP_step hl, ht, List.flatMap_append, List.flatMap_append, List.flatMap_singleton, nthD_lt, nthD_ge _ (by omega), hl1]
  rw [List.length_append, hl1, ext_len h (N.toNat - (P.length + 1)) _ (h.snoc hP hy f1) (by rw [List.length_append, List.length_singleton]; omega), mask_snoc]
  omega

/-! ### The extension with a number -/
theorem Rl.nt {N : Int} {l : List Pq} (h : Rl N l) {r : Nat} (hr : r < cmp (befP N l) 0) {k : Nat} (hk : k ≤ N.toNat) : NtI N (befP N l) r k := by
  obtain ⟨_, hN, hN2, hn, _⟩ := befP_ok h.ok
  exact nt_all hN hn h.okD hr k (by omega)
theorem Rl.step {N : Int} {l : List Pq} (h : Rl N l) {r : Nat} (hr : r < cmp (befP N l) 0) {k : Nat} (hk : k < N.toNat) : ∃ y : Nat, y < N.toNat ∧ okN l (ntS (befP N l) r k).1 y = true ∧ ntS (befP N l) r (k + 1) = ((ntS (befP N l) r k).1 ++ [(y : Int)], (ntS (befP N l) r k).2 - sumF (befP N l) (maskM (ntS (befP N l) r k).1) (cmp (befP N l)) y) ∧
    (ntS (befP N l) r k).2 < sumF (befP N l) (maskM (ntS (befP N l) r k).1) (cmp (befP N l)) (y + 1) ∧ sumF (befP N l) (maskM (ntS (befP N l) r k).1) (cmp (befP N l)) y ≤ (ntS (befP N l) r k).2 := by
  obtain ⟨_, hN, hN2, hn, _⟩ := befP_ok h.ok
  have hI := h.nt hr (show k ≤ N.toNat by omega)
  obtain ⟨y, h1, h2, h3, h4, h5⟩ := nt_step hN hn h.okD hI (by omega)
  refine ⟨y, by omega, ?_, ntS_succ h2, h4, h5⟩
  rw [← h.fr hI.dn (by omega)]; exact h3
theorem nt_ext {N : Int} {l : List Pq} (h : Rl N l) {r : Nat} (hr : r < cmp (befP N l) 0) : ∀ k, k ≤ N.toNat → nthD [] (extP N l []) r = nthD [] (extP N l (ntS (befP N l) r k).1) (ntS (befP N l) r k).2 := by
  intro k
  induction k with
  | zero => intro _; rfl
  | succ k ih =>
    intro hk
    have hI := h.nt hr (show k ≤ N.toNat by omega)
    obtain ⟨y, h1, h2, h3, h4, h5⟩ := h.step hr (show k < N.toNat by omega)
    rw [ih (by omega), h3, ext_nth h hI.dn (by rw [hI.len]; omega) h1 h4 h5]
theorem nt_last {N : Int} {l : List Pq} (h : Rl N l) {r : Nat} (hr : r < cmp (befP N l) 0) : (ntS (befP N l) r N.toNat).2 = 0 := by
  obtain ⟨_, hN, hN2, hn, _⟩ := befP_ok h.ok
  have hI := h.nt hr (Nat.le_refl _)
  have := hI.lt
  rw [cmp_full (by rw [hI.dn.sz, hI.len]; omega)] at this
  omega
theorem ext_get {N : Int} {l : List Pq} (h : Rl N l) {r : Nat} (hr : r < cmp (befP N l) 0) : nthD [] (extP N l []) r = (ntS (befP N l) r N.toNat).1 := by
  have hI := h.nt hr (Nat.le_refl _)
  rw [nt_ext h hr _ (Nat.le_refl _), nt_last h hr, extP_full hI.len]
  rfl
theorem nt_take {N : Int} {l : List Pq} (h : Rl N l) {r : Nat} (hr : r < cmp (befP N l) 0) {k : Nat} : ∀ j, k ≤ j → j ≤ N.toNat → (ntS (befP N l) r j).1.take k = (ntS (befP N l) r k).1 := by
  intro j hkj
  induction hkj with
  | refl => intro hj; have hI := h.nt hr hj; rw [List.take_of_length_le (by rw [hI.len]; omega)]
  | @step j hkj ih =>
    intro hj
    have hkj : k ≤ j := hkj
    have hI := h.nt hr (show j ≤ N.toNat by omega)
    obtain ⟨y, h1, h2, h3, h4, h5⟩ := h.step hr (show j < N.toNat by omega)
    rw [h3]
    show ((ntS (befP N l) r j).1 ++ [(y : Int)]).take k = _
    rw [List.take_append_of_le_length (by rw [hI.len]; omega), ih (by omega)]
/-- It is a linear extension. -/
theorem nt_isX {N : Int} {l : List Pq} (h : Rl N l) {r : Nat} (hr : r < cmp (befP N l) 0) : isX N l (ntS (befP N l) r N.toNat).1 = true := by
  obtain ⟨_, hN, hN2, hn, hv⟩ := befP_ok h.ok
  have hI := h.nt hr (Nat.le_refl _)
  have hat : ∀ k, k < N.toNat → okN l ((ntS (befP N l) r N.toNat).1.take k) (nthD 0 (ntS (befP N l) r N.toNat).1 k) = true := fun k hk => by
    obtain ⟨y, h1, h2, h3, _⟩ := h.step hr hk
    have e1 := nt_take h hr (k := k) N.toNat (by omega) (Nat.le_refl _)
    have e2 := nt_take h hr (k := k + 1) N.toNat (by omega) (Nat.le_refl _)
    have hIk := h.nt hr (show k ≤ N.toNat by omega)
    rw [e1]
    have e3 : nthD 0 (ntS (befP N l) r N.toNat).1 k = (y : Int) := by
      have : nthD 0 ((ntS (befP N l) r N.toNat).1.take (k + 1)) k = nthD 0 (ntS (befP N l) r N.toNat).1 k := by
        have hlt : k < ((ntS (befP N l) r N.toNat).1.take (k + 1)).length := by rw [List.length_take, hI.len]; omega
        rw [nthD_get _ _ _ hlt, nthD_get _ _ _ (by rw [hI.len]; exact hk), List.getElem_take]
      rw [← this, e2, h3]
      show nthD 0 ((ntS (befP N l) r k).1 ++ [(y : Int)]) k = _
      have hk2 : k = (ntS (befP N l) r k).1.length := hIk.len.symm
      conv => lhs; rw [show nthD 0 ((ntS (befP N l) r k).1 ++ [(y : Int)]) k = nthD 0 ((ntS (befP N l) r k).1 ++ [(y : Int)]) (ntS (befP N l) r k).1.length from by rw [← hk2]]
      rw [nthD_at]
    rw [e3]; exact h2
  have hlen := hI.len
  have hrng := hI.dn.rng
  generalize hog : (ntS (befP N l) r N.toNat).1 = o at *
  have hnd : ∀ k, k ≤ N.toNat → (o.take k).Nodup := by
    intro k
    induction k with
    | zero => intro _; exact List.nodup_nil
    | succ k ih =>
      intro hk
      rw [take_succ' 0 (by omega)]
      exact nodup_snoc (ih (by omega)) (okN_iff.1 (hat k (by omega))).1
  have hno := hnd N.toNat (Nat.le_refl _)
  rw [List.take_of_length_le (by omega)] at hno
  have hN3 : ((N.toNat : Nat) : Int) = N := by omega
  have hall := perm_all (n := N.toNat) (by rw [hN3]; exact hrng) hno hlen
  refine isX_iff.2 ⟨hv, hlen, hall, fun p hp => ?_⟩
  have hq := (validF_iff.1 hv).2.2 p hp
  have hmem := List.all_eq_true.1 hall p.2.toNat (List.mem_range.2 (by omega))
  rw [Int.toNat_of_nonneg hq.2.2.1] at hmem
  obtain ⟨k, hk, e⟩ := List.mem_iff_getElem.1 (hasI_iff.1 hmem)
  rw [← nthD_get 0 _ _ hk] at e
  have h1 := hat k (by omega)
  have h2 := okN_iff.1 h1
  rw [posI_at o 0 k hk (by rw [← e]; exact h2.1) e]
  have h3 := h2.2 p.1 (by rw [e]; exact hp)
  have hgen : ∀ (o : List Int) (i : Int) (k : Nat) (a : Int), a ∈ o.take k → posI a o i < i + k := by
    intro o
    induction o with
    | nil => intro i k a h; simp at h
    | cons z r ih =>
      intro i k a h
      cases k with
      | zero => simp at h
      | succ k =>
        rw [posI]
        cases hz : (z == a)
        · rw [cond_false]
          rw [List.take_succ_cons] at h
          rcases List.mem_cons.1 h with e | h
          · rw [e, beq_self_eq_true] at hz; cases hz
          · have := ih (i + 1) k a h; omega
        · rw [cond_true]; omega
  exact hgen o 0 k p.1 h3
/-- Its rank is its number. -/
theorem nt_rank {N : Int} {l : List Pq} (h : Rl N l) {r : Nat} (hr : r < cmp (befP N l) 0) : ∀ k, k ≤ N.toNat → rkT (befP N l) (ntS (befP N l) r N.toNat).1 k + (ntS (befP N l) r k).2 = r := by
  intro k
  induction k with
  | zero => intro _; rw [rkT]; show 0 + r = r; omega
  | succ k ih =>
    intro hk
    have ih := ih (by omega)
    obtain ⟨y, h1, h2, h3, h4, h5⟩ := h.step hr (show k < N.toNat by omega)
    have hI := h.nt hr (Nat.le_refl _)
    have hIk := h.nt hr (show k ≤ N.toNat by omega)
    have e1 := nt_take h hr (k := k) N.toNat (by omega) (Nat.le_refl _)
    have e2 := nt_take h hr (k := k + 1) N.toNat (by omega) (Nat.le_refl _)
    have e3 : nthD 0 (ntS (befP N l) r N.toNat).1 k = (y : Int) := by
      have ht := take_succ' 0 (show k < (ntS (befP N l) r N.toNat).1.length by rw [hI.len]; exact hk)
      rw [e2, h3, e1] at ht
      have := List.append_cancel_left ht
      simpa using this.symm
    rw [rkT, e1, e3, Int.toNat_natCast, h3]
    show _ + ((ntS (befP N l) r k).2 - _) = r
    omega
theorem nt_rk {N : Int} {l : List Pq} (h : Rl N l) {r : Nat} (hr : r < cmp (befP N l) 0) : rkT (befP N l) (ntS (befP N l) r N.toNat).1 N.toNat = r := by
  have := nt_rank h hr N.toNat (Nat.le_refl _)
  rw [nt_last h hr] at this
  exact this
theorem cmp_pos {N : Int} {l : List Pq} (h : Rl N l) : ∀ (k : Nat) (P : List Int), Dn N (befP N l) P → P.length + k = N.toNat → 0 < cmp (befP N l) (maskM P) := by
  obtain ⟨e, hN, hN2, hn, hv⟩ := befP_ok h.ok
  intro k
  induction k with
  | zero => intro P hP hk; rw [cmp_full (by rw [hP.sz]; omega)]; exact Nat.one_pos
  | succ k ih =>
    intro P hP hk
    obtain ⟨x, hx, ho⟩ := okN_some (pre := P) h.ok (by omega)
    have h1 := ih _ (h.snoc hP hx ho) (by rw [List.length_append, List.length_singleton]; omega)
    rw [mask_snoc] at h1
    rw [dn_sum hP hn (by omega)]
    exact Nat.lt_of_lt_of_le h1 (sumF_term (by omega) (by rw [h.fr hP hx]; exact ho))
theorem cmp_pos0 {N : Int} {l : List Pq} (h : Rl N l) : 0 < cmp (befP N l) 0 := cmp_pos h N.toNat [] dn_nil (by simp)
/-- The smallest one is the one with number 0. -/
theorem fst_nt {N : Int} {l : List Pq} (h : Rl N l) : ∀ k, k ≤ N.toNat → ntS (befP N l) 0 k = (rfL N l k, 0) := by
  intro k
  induction k with
  | zero => intro _; rfl
  | succ k ih =>
    intro hk
    have ih := ih (by omega)
    obtain ⟨y, h1, h2, h3, h4, h5⟩ := h.step (cmp_pos0 h) (show k < N.toNat by omega)
    have hI := h.nt (cmp_pos0 h) (show k ≤ N.toNat by omega)
    have hz : (List.range y).all (fun z : Nat => !okN l (ntS (befP N l) 0 k).1 z) = true := by
      refine List.all_eq_true.2 fun z hz => ?_
      have hz := List.mem_range.1 hz
      cases ho : okN l (ntS (befP N l) 0 k).1 z
      · rfl
      · have hp := cmp_pos h (N.toNat - (k + 1)) _ (h.snoc hI.dn (by omega) ho) (by rw [List.length_append, List.length_singleton, hI.len]; omega)
        rw [mask_snoc] at hp
        have := sumF_term (B := befP N l) (s := maskM (ntS (befP N l) 0 k).1) (c := cmp (befP N l)) hz (by rw [h.fr hI.dn (by omega)]; exact ho)
        rw [ih] at h5 hp this
        have h5 : sumF (befP N l) (maskM (rfL N l k)) (cmp (befP N l)) y ≤ 0 := h5
        have hp : 0 < cmp (befP N l) (maskM (rfL N l k) ||| 2 ^ z) := hp
        have this : cmp (befP N l) (maskM (rfL N l k) ||| 2 ^ z) ≤ sumF (befP N l) (maskM (rfL N l k)) (cmp (befP N l)) y := this
        omega
    have hh := hdN_first h1 hz h2
    rw [h3, rfL, ih] at *
    have hh : hdN N l (rfL N l k) = (y : Int) := hh
    rw [hh]
    simp
theorem fst_ext {N : Int} {l : List Pq} (h : Rl N l) : fstL N l = nthD [] (extP N l []) 0 := by
  rw [ext_get h (cmp_pos0 h), fst_nt h _ (Nat.le_refl _), fstL, h.ok]; rfl
end Go.Proofs.Ytiokmglajigngaa
