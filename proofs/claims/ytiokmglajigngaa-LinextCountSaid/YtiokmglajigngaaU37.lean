/-
  The linext layer: the reference's levels in plain terms.
-/
import Derived.Test.YtiokmglajigngaaU36
import Derived.Test.YtiokmglajigngaaU23
namespace Go.Proofs.Ytiokmglajigngaa
open Go Go.Proofs.Ytiokmglajigngaa.Sx
set_option maxRecDepth 100000
set_option linter.unusedSimpArgs false
set_option linter.unusedVariables false
theorem fr_iffL {N : Int} {l : List Pq} {s x : Nat} (hv : validF N l = true) (hs : s < 2 ^ 64) (hx : x < N.toNat) : frR (befL N.toNat l) s x = true ↔ s.testBit x = false ∧ ∀ a : Nat, ((a : Int), (x : Int)) ∈ l → s.testBit a = true := by
  obtain ⟨q1, q2, q3⟩ := validF_iff.1 hv
  have hb := befM_lt (l := l) (x := x) (n := N.toNat) fun p hp => by have := q3 p hp; omega
  have hb64 := lt64 hb (by omega)
  rw [frR, Int.toNat_natCast, wrap_shl (by omega), bits_and hs (one_lt (by omega)), nthD_befL hx, bits_andNot, and_zero, Bool.and_eq_true, Bool.not_eq_true', diff_zero hb64]
  constructor
  · rintro ⟨h1, h2⟩
    exact ⟨h1, fun a ha => h2 a (by rw [befM_bit fun p hp => (q3 p hp).1]; exact setF_iff.2 ha)⟩
  · rintro ⟨h1, h2⟩
    exact ⟨h1, fun i hi => h2 i (by rw [befM_bit fun p hp => (q3 p hp).1] at hi; exact setF_iff.1 hi)⟩
theorem bit_val {m x : Nat} (hm : m < 2 ^ 64) (hx : x < 64) : bitS (m : Int) (x : Int) = bif m.testBit x then 1 else 0 := by
  have hd : m / 2 ^ x < 2 ^ 64 := Nat.lt_of_le_of_lt (Nat.div_le_self _ _) hm
  have e : (m : Int) / 2 ^ x = ((m / 2 ^ x : Nat) : Int) := by push_cast; rfl
  have h1 : bits .and .u64 ((m / 2 ^ x : Nat) : Int) ((1 : Nat) : Int) = ((m / 2 ^ x &&& 1 : Nat) : Int) := bits_and hd (by omega)
  rw [bitS, wrB (by omega) (by omega), Int.toNat_natCast, e]
  refine h1.trans ?_
  rw [Nat.and_one_is_mod, Nat.testBit_eq_decide_div_mod_eq]
  rcases Nat.mod_two_eq_zero_or_one (m / 2 ^ x) with h | h <;> rw [h] <;> rfl
theorem or_val {m k : Nat} (hm : m < 2 ^ 64) (hk : k < 64) : orS (m : Int) k = ((m ||| 2 ^ k : Nat) : Int) := by
  rw [orS, wrB (x := (k : Int)) (by omega) (by omega), Int.toNat_natCast, wrap_shl hk, bits_or hm (one_lt hk), shl_pow]
theorem can_fr {N : Int} {l : List Pq} {m x : Nat} (hv : validF N l = true) (hm : m < 2 ^ 64) (hx : x < N.toNat) : canF l (m : Int) (x : Int) = frR (befL N.toNat l) m x := by
  obtain ⟨q1, q2, q3⟩ := validF_iff.1 hv
  rw [Bool.eq_iff_iff, fr_iffL hv hm hx, canF, Bool.and_eq_true, bit_val hm (by omega), List.all_eq_true]
  constructor
  · rintro ⟨h1, h2⟩
    refine ⟨(by cases h : m.testBit x <;> rw [h] at h1 <;> first | rfl | cases h1), fun a ha => ?_⟩
    have h3 := h2 _ ha
    have := (q3 _ ha).2.1
    rw [show ((x : Int) == (x : Int)) = true from beq_self_eq_true _, Bool.true_and, bit_val hm (by omega)] at h3
    cases h : m.testBit a <;> rw [h] at h3 <;> first | rfl | cases h3
  · rintro ⟨h1, h2⟩
    refine ⟨by rw [h1]; rfl, fun p hp => ?_⟩
    obtain ⟨p1, p2, _, _⟩ := q3 p hp
    obtain ⟨a, ha⟩ := Int.eq_ofNat_of_zero_le p1
    by_cases e : p.2 = (x : Int)
    · have hb := h2 a (by rw [← ha, ← e]; exact hp)
      rw [ha, bit_val hm (by omega), hb]
      simp
    · rw [show (p.2 == (x : Int)) = false from beq_false_of_ne e]; rfl

/-! ### Adding to a level -/
def fsts (L : List Pq) : List Int := L.map (fun p => p.1)
theorem mem_addL {s w q : Int} : ∀ {L : List Pq}, q ∈ fsts (addL L s w) ↔ q ∈ fsts L ∨ q = s
  | [] => by simp [addL, fsts]
  | p :: r => by
    rw [addL]
    cases h : p.1 == s
    · rw [cond_false]
      have ih := mem_addL (s := s) (w := w) (q := q) (L := r)
      simp only [fsts, List.map_cons, List.mem_cons] at ih ⊢
      rw [ih, or_assoc]
    · rw [cond_true]
      have h : p.1 = s := by simpa using h
      simp only [fsts, List.map_cons, List.mem_cons]
      constructor
      · intro h; exact .inl h
      · rintro (h2 | h2)
        · exact h2
        · exact .inl (by rw [h2, h])
theorem addL_nodup {s w : Int} : ∀ {L : List Pq}, (fsts L).Nodup → (fsts (addL L s w)).Nodup
  | [], _ => by simp [addL, fsts]
  | p :: r, hn => by
    simp only [fsts, List.map_cons, List.nodup_cons] at hn
    rw [addL]
    cases h : p.1 == s
    · rw [cond_false]
      simp only [fsts, List.map_cons, List.nodup_cons]
      have h : p.1 ≠ s := by simpa using h
      refine ⟨fun hm => ?_, addL_nodup hn.2⟩
      rcases mem_addL.1 hm with h1 | h1
      · exact hn.1 h1
      · exact h h1
    · rw [cond_true]
      simp only [fsts, List.map_cons, List.nodup_cons]
      exact hn
theorem addL_pos {s w : Int} (hw : 0 ≤ w) : ∀ {L : List Pq}, (∀ p ∈ L, 0 ≤ p.2) → ∀ p ∈ addL L s w, 0 ≤ p.2
  | [], _, p, hp => by simp [addL] at hp; rw [hp]; exact hw
  | q :: r, h, p, hp => by
    have hq := h q (.head _)
    rw [addL] at hp
    cases e : q.1 == s <;> rw [e] at hp
    · rw [cond_false] at hp
      rcases List.mem_cons.1 hp with rfl | h1
      · exact hq
      · exact addL_pos hw (fun p hp => h p (.tail _ hp)) p h1
    · rw [cond_true] at hp
      rcases List.mem_cons.1 hp with rfl | h1
      · show 0 ≤ q.2 + w; omega
      · exact h p (.tail _ h1)
/-- The ways, weighted. -/
def wsum (f : Int → Int) : List Pq → Int
  | [] => 0
  | p :: r => p.2 * f p.1 + wsum f r
theorem wsum_addL {f : Int → Int} {s w : Int} : ∀ {L : List Pq}, wsum f (addL L s w) = wsum f L + w * f s
  | [] => by simp [addL, wsum]
  | p :: r => by
    rw [addL]
    cases h : p.1 == s
    · rw [cond_false, wsum, wsum, wsum_addL (L := r)]; omega
    · rw [cond_true]
      have h : p.1 = s := by simpa using h
      rw [wsum, wsum, h, Int.add_mul]; omega
theorem wsum_app {f : Int → Int} : ∀ {L M : List Pq}, wsum f (L ++ M) = wsum f L + wsum f M
  | [], M => by simp [wsum]
  | p :: r, M => by rw [List.cons_append, wsum, wsum, wsum_app (L := r)]; omega
theorem wsum_nonneg {f : Int → Int} (hf : ∀ s, 0 ≤ f s) : ∀ {L : List Pq}, (∀ p ∈ L, 0 ≤ p.2) → 0 ≤ wsum f L
  | [], _ => Int.le_refl _
  | p :: r, h => by
    have h1 := wsum_nonneg hf (L := r) fun q hq => h q (.tail _ hq)
    have h2 := Int.mul_nonneg (h p (.head _)) (hf p.1)
    rw [wsum]; omega
theorem wsum_le {f : Int → Int} {c : Int} (hf : ∀ s, f s ≤ c) : ∀ {L : List Pq}, (∀ p ∈ L, 0 ≤ p.2) → wsum f L ≤ c * wsum (fun _ => 1) L
  | [], _ => by simp [wsum]
  | p :: r, h => by
    have h1 := wsum_le hf (L := r) fun q hq => h q (.tail _ hq)
    have h2 := Int.mul_le_mul_of_nonneg_left (hf p.1) (h p (.head _))
    have h3 : c * (p.2 * 1 + wsum (fun _ => 1) r) = p.2 * c + c * wsum (fun _ => 1) r := by rw [Int.mul_add, Int.mul_one, Int.mul_comm c p.2]
    rw [wsum, wsum, h3]; omega
theorem wsum_mem : ∀ {L : List Pq}, (∀ p ∈ L, 0 ≤ p.2) → ∀ p ∈ L, p.2 ≤ wsum (fun _ => 1) L
  | q :: r, h, p, hp => by
    have h1 := wsum_nonneg (f := fun _ => 1) (fun _ => by omega) (L := r) fun q hq => h q (.tail _ hq)
    have h2 := h q (.head _)
    rw [wsum]
    rcases List.mem_cons.1 hp with rfl | hp
    · omega
    · have := wsum_mem (L := r) (fun q hq => h q (.tail _ hq)) p hp
      omega
theorem wsum_take {f : Int → Int} {L : List Pq} {i : Nat} (h : i < L.length) : wsum f (L.take (i + 1)) = wsum f (L.take i) + (nthD (0, 0) L i).2 * f (nthD (0, 0) L i).1 := by
  rw [take_succ' (0, 0) h, wsum_app, wsum, wsum]; omega
theorem wsum_takele {L : List Pq} (h : ∀ p ∈ L, 0 ≤ p.2) (i : Nat) : wsum (fun _ => 1) (L.take i) ≤ wsum (fun _ => 1) L := by
  conv => rhs; rw [← List.take_append_drop i L]
  rw [wsum_app]
  have := wsum_nonneg (f := fun _ => 1) (fun _ => by omega) (L := L.drop i) fun p hp => h p (List.mem_of_mem_drop hp)
  omega

/-! ### Levels -/
/-- A level of sets of n elements, perhaps in the making. -/
structure Lv (N : Int) (l : List Pq) (n : Nat) (L : List Pq) : Prop where
  nd : (fsts L).Nodup
  mem : ∀ q ∈ fsts L, ∃ m : Nat, q = (m : Int) ∧ m ∈ dsE (befL N.toNat l) ∧ siz 64 m = n
  pos : ∀ p ∈ L, 0 ≤ p.2
structure Ok9 (N : Int) (l : List Pq) : Prop where
  ok : okP N l = true
  n9 : N ≤ 9
theorem Ok9.v {N : Int} {l : List Pq} (h : Ok9 N l) : validF N l = true := by have := h.ok; rw [okP, Bool.and_eq_true] at this; exact this.1
theorem Ok9.d {N : Int} {l : List Pq} (h : Ok9 N l) : okD (befL N.toNat l) = true := okD_small (by rw [befL_len]; have := h.n9; omega)
theorem ds_lt {N : Int} {l : List Pq} (h : Ok9 N l) {m : Nat} (hm : m ∈ dsE (befL N.toNat l)) : m < 2 ^ N.toNat ∧ m < 2 ^ 64 := by
  have h1 := dsE_lt m hm
  rw [befL_len] at h1
  exact ⟨h1, lt64 h1 (by have := h.n9; omega)⟩
theorem lvK_ok {N : Int} {l : List Pq} (h : Ok9 N l) {n m : Nat} (hm : m ∈ dsE (befL N.toNat l)) (hs : siz 64 m = n) {w : Int} (hw : 0 ≤ w) {L : List Pq} (hL : Lv N l (n + 1) L) : ∀ k, k ≤ N.toNat →
    Lv N l (n + 1) (lvK l L m w k) ∧ (∀ q, q ∈ fsts (lvK l L m w k) ↔ q ∈ fsts L ∨ ∃ x : Nat, x < k ∧ frR (befL N.toNat l) m x = true ∧ q = ((m ||| 2 ^ x : Nat) : Int)) ∧
    ∀ (f : Int → Int) (c : Nat → Nat), (∀ t : Nat, f t = (c t : Int)) → wsum f (lvK l L m w k) = wsum f L + w * (sumF (befL N.toNat l) m c k : Int) := by
  intro k
  have hn9 := h.n9
  induction k with
  | zero => intro _; exact ⟨hL, fun q => ⟨.inl, fun h => h.elim id fun ⟨x, hx, _⟩ => absurd hx (Nat.not_lt_zero _)⟩, fun f c _ => by simp [lvK, sumF]⟩
  | succ k ih =>
    intro hk
    obtain ⟨i1, i2, i3⟩ := ih (by omega)
    have hm64 := (ds_lt h hm).2
    rw [lvK, can_fr h.v hm64 (by omega)]
    cases hf : frR (befL N.toNat l) m k
    · rw [cond_false]
      refine ⟨i1, fun q => ?_, fun f c hc => by rw [i3 f c hc, sumF, hf, cond_false, Nat.add_zero]⟩
      rw [i2 q]
      refine or_congr Iff.rfl ⟨fun ⟨x, h1, h2⟩ => ⟨x, by omega, h2⟩, fun ⟨x, h1, h2, h3⟩ => ⟨x, ?_, h2, h3⟩⟩
      rcases Nat.lt_or_ge x k with h4 | h4
      · exact h4
      · have : x = k := by omega
        subst this
        rw [hf] at h2; cases h2
    · rw [cond_true, or_val hm64 (by omega)]
      have hnew : (m ||| 2 ^ k) ∈ dsE (befL N.toNat l) := dsE_step (by rw [befL_len]; omega) h.d hm (by rw [befL_len]; omega) hf
      have hsz : siz 64 (m ||| 2 ^ k) = n + 1 := by rw [siz_fr hm64 (by omega) hf, hs]
      refine ⟨⟨addL_nodup i1.nd, fun q hq => ?_, addL_pos hw i1.pos⟩, fun q => ?_, fun f c hc => ?_⟩
      · rcases mem_addL.1 hq with h1 | rfl
        · exact i1.mem q h1
        · exact ⟨_, rfl, hnew, hsz⟩
      · rw [mem_addL, i2 q, or_assoc]
        refine or_congr Iff.rfl ⟨?_, ?_⟩
        · rintro (⟨x, h1, h2⟩ | rfl)
          · exact ⟨x, by omega, h2⟩
          · exact ⟨k, by omega, hf, rfl⟩
        · rintro ⟨x, h1, h2, h3⟩
          rcases Nat.lt_or_ge x k with h4 | h4
          · exact .inl ⟨x, h4, h2, h3⟩
          · have : x = k := by omega
            subst this
            exact .inr h3
      · rw [wsum_addL, i3 f c hc, hc, sumF, hf, cond_true, Int.natCast_add, Int.mul_add]; omega
theorem Lv.nil {N : Int} {l : List Pq} {n : Nat} : Lv N l n [] := ⟨List.nodup_nil, fun q h => (by cases h), fun p h => (by cases h)⟩
theorem fst_mem {L : List Pq} {i : Nat} (h : i < L.length) : (nthD (0, 0) L i).1 ∈ fsts L := List.mem_map.2 ⟨_, nthM' (0, 0) h, rfl⟩
theorem lvI_ok {N : Int} {l : List Pq} (h : Ok9 N l) {n : Nat} {P : List Pq} (hP : Lv N l n P) : ∀ i, i ≤ P.length →
    Lv N l (n + 1) (lvI N l P i) ∧ (∀ q, q ∈ fsts (lvI N l P i) ↔ ∃ m : Nat, (m : Int) ∈ fsts (P.take i) ∧ ∃ x : Nat, x < N.toNat ∧ frR (befL N.toNat l) m x = true ∧ q = ((m ||| 2 ^ x : Nat) : Int)) ∧
    ∀ (f : Int → Int) (c : Nat → Nat), (∀ t : Nat, f t = (c t : Int)) → wsum f (lvI N l P i) = wsum (fun s => (sumF (befL N.toNat l) s.toNat c N.toNat : Int)) (P.take i) := by
  intro i
  induction i with
  | zero => intro _; exact ⟨Lv.nil, fun q => ⟨fun h => (by cases h), fun ⟨m, hm, _⟩ => by simp [fsts] at hm⟩, fun f c _ => rfl⟩
  | succ i ih =>
    intro hi
    obtain ⟨i1, i2, i3⟩ := ih (by omega)
    have hi' : i < P.length := by omega
    obtain ⟨m, e, hm, hs⟩ := hP.mem _ (fst_mem hi')
    have hw := hP.pos _ (nthM' (0, 0) hi')
    rw [lvI, e]
    obtain ⟨k1, k2, k3⟩ := lvK_ok h hm hs hw i1 N.toNat (Nat.le_refl _)
    refine ⟨k1, fun q => ?_, fun f c hc => ?_⟩
    · rw [k2 q, i2 q]
      have ht : ∀ z : Int, z ∈ fsts (P.take (i + 1)) ↔ z ∈ fsts (P.take i) ∨ z = (m : Int) := fun z => by
        rw [take_succ' (0, 0) hi', fsts, List.map_append, List.mem_append, List.map_cons, List.map_nil, List.mem_singleton, e]; rfl
      constructor
      · rintro (⟨m', h1, h2⟩ | h2)
        · exact ⟨m', (ht _).2 (.inl h1), h2⟩
        · exact ⟨m, (ht _).2 (.inr rfl), h2⟩
      · rintro ⟨m', h1, h2⟩
        rcases (ht _).1 h1 with h1 | h1
        · exact .inl ⟨m', h1, h2⟩
        · have : m' = m := by omega
          subst this
          exact .inr h2
    · rw [k3 f c hc, i3 f c hc, wsum_take hi', e]; rfl
theorem lvN_ok {N : Int} {l : List Pq} (h : Ok9 N l) : ∀ n, Lv N l n (lvN N l n) := by
  intro n
  induction n with
  | zero => exact ⟨by simp [lvN, fsts], fun q hq => ⟨0, by simpa [lvN, fsts] using hq, zero_mem, siz_zero 64⟩, fun p hp => by simp [lvN] at hp; rw [hp]; show (0 : Int) ≤ 1; omega⟩
  | succ n ih => exact (lvI_ok h ih _ (Nat.le_refl _)).1
theorem sum1_le {B : List Int} {s : Nat} : ∀ n, sumF B s (fun _ => 1) n ≤ n := by
  intro n
  induction n with
  | zero => exact Nat.le_refl _
  | succ n ih => rw [sumF]; cases frR B s n <;> simp only [cond_true, cond_false] <;> omega
theorem lvI_w {N : Int} {l : List Pq} (h : Ok9 N l) {n : Nat} {P : List Pq} (hP : Lv N l n P) {i : Nat} (hi : i ≤ P.length) : wsum (fun _ => 1) (lvI N l P i) ≤ 9 * wsum (fun _ => 1) (P.take i) := by
  have hn9 := h.n9
  rw [(lvI_ok h hP i hi).2.2 (fun _ => 1) (fun _ => 1) (fun _ => rfl)]
  exact wsum_le (fun s => by have := sum1_le (B := befL N.toNat l) (s := s.toNat) N.toNat; omega) fun p hp => hP.pos p (List.mem_of_mem_take hp)
theorem lvN_w {N : Int} {l : List Pq} (h : Ok9 N l) : ∀ n, wsum (fun _ => 1) (lvN N l n) ≤ 9 ^ n := by
  intro n
  induction n with
  | zero => exact Int.le_refl 1
  | succ n ih =>
    have h1 := lvI_w h (lvN_ok h n) (Nat.le_refl _)
    rw [List.take_length] at h1
    have e : (9 : Int) ^ (n + 1) = 9 ^ n * 9 := Int.pow_succ _ _
    rw [lvN]; omega
theorem p9 {n : Nat} (h : n ≤ 9) : (9 : Int) ^ n ≤ 387420489 := by
  have : ∀ i : Fin 10, (9 : Int) ^ i.1 ≤ 387420489 := by decide +kernel
  exact this ⟨n, by omega⟩
/-- What is known of a level in the making. -/
theorem lvK_all {N : Int} {l : List Pq} (h : Ok9 N l) {n i k : Nat} (hn : n < N.toNat) (hi : i < (lvN N l n).length) (hk : k ≤ N.toNat) :
    Lv N l (n + 1) (lvK l (lvI N l (lvN N l n) i) (nthD (0, 0) (lvN N l n) i).1 (nthD (0, 0) (lvN N l n) i).2 k) ∧
    ∀ p ∈ lvK l (lvI N l (lvN N l n) i) (nthD (0, 0) (lvN N l n) i).1 (nthD (0, 0) (lvN N l n) i).2 k, p.2 ≤ 387420489 := by
  have hn9 := h.n9
  have hP := lvN_ok h n
  obtain ⟨m, e, hm, hs⟩ := hP.mem _ (fst_mem hi)
  have hw := hP.pos _ (nthM' (0, 0) hi)
  obtain ⟨i1, i2, i3⟩ := lvI_ok h hP i (Nat.le_of_lt hi)
  rw [e]
  obtain ⟨k1, k2, k3⟩ := lvK_ok h hm hs hw i1 k hk
  refine ⟨k1, fun p hp => Int.le_trans (wsum_mem k1.pos p hp) ?_⟩
  rw [k3 (fun _ => 1) (fun _ => 1) (fun _ => rfl)]
  have h1 := lvI_w h hP (Nat.le_of_lt hi)
  have h2 := sum1_le (B := befL N.toNat l) (s := m) k
  have h3 := wsum_take (f := fun _ => 1) hi
  have h4 := wsum_takele hP.pos (i + 1)
  have h5 := lvN_w h n
  have h6 := p9 (n := n + 1) (by omega)
  have e9 : (9 : Int) ^ (n + 1) = 9 ^ n * 9 := Int.pow_succ _ _
  have h7 : (nthD (0, 0) (lvN N l n) i).2 * ((sumF (befL N.toNat l) m (fun _ => 1) k : Nat) : Int) ≤ (nthD (0, 0) (lvN N l n) i).2 * 9 := Int.mul_le_mul_of_nonneg_left (by omega) hw
  omega
theorem Lv.len {N : Int} {l : List Pq} (h : Ok9 N l) {n : Nat} {L : List Pq} (hL : Lv N l n L) : L.length ≤ 512 := by
  have h1 := len_subD (fsts L) (toI (dsE (befL N.toNat l))) hL.nd fun q hq => by
    obtain ⟨m, rfl, hm, _⟩ := hL.mem q hq
    exact List.mem_map.2 ⟨m, hm, rfl⟩
  have h2 := dsE_le (B := befL N.toNat l)
  rw [befL_len] at h2
  have h3 : 2 ^ N.toNat ≤ 2 ^ 9 := Nat.pow_le_pow_right (by omega) (by have := h.n9; omega)
  rw [fsts, List.length_map, toI, List.length_map] at h1
  omega
/-- All sets of at most n elements. -/
def allS (N : Int) (l : List Pq) : Nat → List Int
  | 0 => fsts (lvN N l 0)
  | n + 1 => allS N l n ++ fsts (lvN N l (n + 1))
theorem allS_len {N : Int} {l : List Pq} : ∀ n, (allS N l n).length = lvT N l n := by
  intro n
  induction n with
  | zero => rfl
  | succ n ih => rw [allS, List.length_append, ih, lvT, fsts, List.length_map]
theorem allS_mem {N : Int} {l : List Pq} (h : Ok9 N l) {q : Int} : ∀ n, q ∈ allS N l n → ∃ m : Nat, q = (m : Int) ∧ m ∈ dsE (befL N.toNat l) ∧ siz 64 m ≤ n := by
  intro n
  induction n with
  | zero => intro hq; obtain ⟨m, h1, h2, h3⟩ := (lvN_ok h 0).mem q hq; exact ⟨m, h1, h2, by omega⟩
  | succ n ih =>
    intro hq
    rcases List.mem_append.1 hq with hq | hq
    · obtain ⟨m, h1, h2, h3⟩ := ih hq; exact ⟨m, h1, h2, by omega⟩
    · obtain ⟨m, h1, h2, h3⟩ := (lvN_ok h (n + 1)).mem q hq; exact ⟨m, h1, h2, by omega⟩
theorem allS_snoc {N : Int} {l : List Pq} (h : Ok9 N l) {n : Nat} (hA : (allS N l n).Nodup) {L : List Pq} (hL : Lv N l (n + 1) L) : (allS N l n ++ fsts L).Nodup := by
  refine List.nodup_append.2 ⟨hA, hL.nd, fun a ha b hb e => ?_⟩
  subst e
  obtain ⟨m, e1, _, h1⟩ := allS_mem h n ha
  obtain ⟨m', e2, _, h2⟩ := hL.mem a hb
  have : m = m' := by omega
  subst this
  omega
theorem allS_nodup {N : Int} {l : List Pq} (h : Ok9 N l) : ∀ n, (allS N l n).Nodup := by
  intro n
  induction n with
  | zero => exact (lvN_ok h 0).nd
  | succ n ih => exact allS_snoc h ih (lvN_ok h (n + 1))
theorem lvT_le {N : Int} {l : List Pq} (h : Ok9 N l) {n : Nat} {L : List Pq} (hL : Lv N l (n + 1) L) : lvT N l n + L.length ≤ 512 := by
  have h1 := len_subD (allS N l n ++ fsts L) (toI (dsE (befL N.toNat l))) (allS_snoc h (allS_nodup h n) hL) fun q hq => by
    rcases List.mem_append.1 hq with hq | hq
    · obtain ⟨m, rfl, hm, _⟩ := allS_mem h n hq
      exact List.mem_map.2 ⟨m, hm, rfl⟩
    · obtain ⟨m, rfl, hm, _⟩ := hL.mem q hq
      exact List.mem_map.2 ⟨m, hm, rfl⟩
  have h2 := dsE_le (B := befL N.toNat l)
  rw [befL_len] at h2
  have h3 : 2 ^ N.toNat ≤ 2 ^ 9 := Nat.pow_le_pow_right (by omega) (by have := h.n9; omega)
  rw [List.length_append, allS_len, fsts, List.length_map, toI, List.length_map] at h1
  omega
theorem lv_all {N : Int} {l : List Pq} (h : Ok9 N l) : ∀ m ∈ dsE (befL N.toNat l), (m : Int) ∈ fsts (lvN N l (siz 64 m)) := by
  intro m hm
  have hn9 := h.n9
  unfold dsE at hm
  rw [befL_len] at hm
  refine dsI_ind (Q := fun m => (m : Int) ∈ fsts (lvN N l (siz 64 m))) (by rw [siz_zero]; simp [lvN, fsts]) (fun s x hs hq hx hf => ?_) _ m hm
  rw [siz_fr (lt64 hs (by omega)) (by omega) hf, lvN]
  rw [((lvI_ok h (lvN_ok h (siz 64 s)) _ (Nat.le_refl _)).2.1 _), List.take_length]
  exact ⟨s, hq, x, hx, hf, rfl⟩
theorem allS_lv {N : Int} {l : List Pq} {q : Int} {i : Nat} : ∀ n, i ≤ n → q ∈ fsts (lvN N l i) → q ∈ allS N l n := by
  intro n
  induction n with
  | zero => intro hi hq; have : i = 0 := by omega
            subst this; exact hq
  | succ n ih =>
    intro hi hq
    rcases Nat.lt_or_ge i (n + 1) with h | h
    · exact List.mem_append_left _ (ih (by omega) hq)
    · have : i = n + 1 := by omega
      subst this
      exact List.mem_append_right _ hq
theorem lvT_eq {N : Int} {l : List Pq} (h : Ok9 N l) : lvT N l N.toNat = (dsE (befL N.toNat l)).length := by
  have hn9 := h.n9
  have e1 : (toI (dsE (befL N.toNat l))).length = (dsE (befL N.toNat l)).length := List.length_map _
  rw [← allS_len, ← e1]
  refine Nat.le_antisymm (len_subD _ _ (allS_nodup h _) fun q hq => ?_) (len_subD _ _ ?_ fun q hq => ?_)
  · obtain ⟨m, rfl, hm, _⟩ := allS_mem h _ hq
    exact List.mem_map.2 ⟨m, hm, rfl⟩
  · exact List.Pairwise.map _ (fun a b hab e => hab (by omega)) dsE_nodup
  · obtain ⟨m, hm, rfl⟩ := List.mem_map.1 hq
    exact allS_lv _ (siz_bit (by omega) (ds_lt h hm).1) (lv_all h m hm)

/-! ### The last level -/
theorem lv_cmp {N : Int} {l : List Pq} (h : Ok9 N l) : ∀ n k, wsum (fun s => (cmpF (befL N.toNat l) k s.toNat : Int)) (lvN N l n) = (cmpF (befL N.toNat l) (n + k) 0 : Int) := by
  intro n
  induction n with
  | zero => intro k; simp [lvN, wsum]
  | succ n ih =>
    intro k
    have h1 := (lvI_ok h (lvN_ok h n) _ (Nat.le_refl _)).2.2 (fun s => (cmpF (befL N.toNat l) k s.toNat : Int)) (cmpF (befL N.toNat l) k) (fun t => by rw [Int.toNat_natCast])
    rw [List.take_length] at h1
    rw [lvN, h1, show n + 1 + k = n + (k + 1) by omega, ← ih (k + 1)]
    congr 1
    funext s
    rw [cmpF, befL_len]
theorem full_eq {n m m' : Nat} (hn : n ≤ 64) (h : siz 64 m = n) (h' : siz 64 m' = n) (hm : m < 2 ^ n) (hm' : m' < 2 ^ n) : m = m' := by
  have key : ∀ {m : Nat}, siz 64 m = n → m < 2 ^ n → ∀ i, m.testBit i = decide (i < n) := fun {m} h hm i => by
    by_cases hi : i < n
    · rw [decide_eq_true hi]
      cases hb : m.testBit i
      · have h1 := siz_or 64 i m (by omega) hb
        have h2 := siz_bit hn (Nat.or_lt_two_pow hm (Nat.pow_lt_pow_right (by omega) hi))
        omega
      · rfl
    · rw [decide_eq_false hi]
      exact Nat.testBit_lt_two_pow (Nat.lt_of_lt_of_le hm (Nat.pow_le_pow_right (by omega) (by omega)))
  exact Nat.eq_of_testBit_eq fun i => by rw [key h hm, key h' hm']
theorem lv_last {N : Int} {l : List Pq} (h : Ok9 N l) : waysL (lvN N l N.toNat) = [(cmp (befP N l) 0 : Int)] := by
  have hn9 := h.n9
  obtain ⟨e, _, hl, _, _⟩ := befP_ok h.ok
  have h1 := lv_cmp h N.toNat 0
  have hpos := cmp_pos0 (N := N) (l := l) ⟨h.ok, by rw [e]; exact h.d⟩
  have hc : cmp (befP N l) 0 = cmpF (befL N.toNat l) N.toNat 0 := by rw [cmp, siz_zero, Nat.sub_zero, hl, e]
  have hL := lvN_ok h N.toNat
  rw [Nat.add_zero, ← hc] at h1
  generalize hM : lvN N l N.toNat = M at *
  match M, h1, hL with
  | [], h1, _ => simp only [wsum] at h1; omega
  | [p], h1, _ =>
    simp only [wsum, cmpF] at h1
    rw [waysL, List.map_cons, List.map_nil, ← h1]
    simp
  | p :: q :: r, _, hL =>
    exfalso
    have hnd := hL.nd
    obtain ⟨a, e1, d1, s1⟩ := hL.mem p.1 (by simp [fsts])
    obtain ⟨b, e2, d2, s2⟩ := hL.mem q.1 (by simp [fsts])
    have hab := full_eq (n := N.toNat) (by omega) s1 s2 (ds_lt h d1).1 (ds_lt h d2).1
    simp only [fsts, List.map_cons, List.nodup_cons, List.mem_cons] at hnd
    exact hnd.1 (.inl (by rw [e1, e2, hab]))
end Go.Proofs.Ytiokmglajigngaa
