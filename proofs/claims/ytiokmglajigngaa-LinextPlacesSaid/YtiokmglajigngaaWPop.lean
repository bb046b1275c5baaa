/-
  A part of the proof (WPop).
-/
import Derived.Test.YtiokmglajigngaaW8
namespace Go.Proofs.Ytiokmglajigngaa
open Go Go.Proofs.Ytiokmglajigngaa.Sx
set_option maxRecDepth 100000
set_option linter.unusedSimpArgs false
set_option linter.unusedVariables false
theorem sup_wF {n : Nat} {f : Pf} (hs : Sup n f) : Sup n (wF f n) := fun a b h => ((wF_iff hs).1 h).sup hs
theorem wF_trans {f : Pf} {n : Nat} (hs : Sup n f) {a b c : Int} (h1 : wF f n a b = true) (h2 : wF f n b c = true) : wF f n a c = true := (wF_iff hs).2 (((wF_iff hs).1 h1).trans ((wF_iff hs).1 h2))
theorem wF_incl {f : Pf} {n : Nat} {a b : Int} (h : f a b = true) : wF f n a b = true := wF_mono (m := 0) (Nat.zero_le _) h
theorem acy_iff {k : Pf} {n : Nat} (hs : Sup n k) : acyF n k = true ↔ ∀ a, k a a = false := by
  simp only [acyF, List.all_eq_true, List.mem_range, Bool.not_eq_true']
  constructor
  · intro h a
    cases e : k a a
    · rfl
    · have := hs _ _ e
      obtain ⟨b, rfl⟩ := Int.eq_ofNat_of_zero_le this.1
      rw [h b (by omega)] at e; cases e
  · exact fun h a _ => h a
theorem posI_lt {n : Int} : ∀ (l : List Int) (i : Int), 0 ≤ i → decide (posI n l i < 0) = !hasI l n := by
  intro l
  induction l with
  | nil => intro i _; rfl
  | cons x r ih =>
    intro i hi
    have e : hasI (x :: r) n = (x == n || hasI r n) := rfl
    rw [e, posI]
    by_cases h : (x == n) = true
    · rw [h, cond_true, Bool.true_or, Bool.not_true]; exact decide_eq_false (by omega)
    · rw [Bool.eq_false_iff.2 h, cond_false, Bool.false_or]; exact ih _ (by omega)
theorem hasI_iff {l : List Int} {x : Int} : hasI l x = true ↔ x ∈ l := by
  simp only [hasI, List.any_eq_true, beq_iff_eq]
  constructor
  · rintro ⟨y, h, rfl⟩; exact h
  · intro h; exact ⟨x, h, rfl⟩
theorem maskM_app {pre : List Int} {x : Int} : maskM (pre ++ [x]) = maskM pre ||| 1 <<< x.toNat := by simp [maskM, List.foldl_append]
theorem maskM_go {i : Nat} : ∀ (l : List Int) (m : Nat), (∀ x ∈ l, 0 ≤ x) → (l.foldl (fun m x => m ||| 1 <<< x.toNat) m).testBit i = (m.testBit i || hasI l i) := by
  intro l
  induction l with
  | nil => intro m _; simp [hasI]
  | cons x l ih =>
    intro m hl
    have hx := hl x List.mem_cons_self
    rw [List.foldl_cons, ih _ fun y hy => hl y (List.mem_cons_of_mem _ hy), or_bit]
    have e : hasI (x :: l) i = (x == (i : Int) || hasI l i) := rfl
    rw [e, ← Bool.or_assoc]
    congr 2
    rw [Bool.eq_iff_iff, decide_eq_true_eq, beq_iff_eq]
    omega
theorem maskM_bit {l : List Int} {i : Nat} (hl : ∀ x ∈ l, 0 ≤ x) : (maskM l).testBit i = hasI l i := by
  rw [maskM, maskM_go l 0 hl, Nat.zero_testBit, Bool.false_or]
theorem maskM_lt {l : List Int} {n : Nat} (hl : ∀ x ∈ l, 0 ≤ x ∧ x < (n : Int)) : maskM l < 2 ^ n := by
  apply Nat.lt_pow_two_of_testBit
  intro i hi
  rw [maskM_bit fun x hx => (hl x hx).1, Bool.eq_false_iff]
  intro h
  have := hl _ (hasI_iff.1 h)
  omega
theorem lt64 {m n : Nat} (h : m < 2 ^ n) (hn : n ≤ 64) : m < 2 ^ 64 := Nat.lt_of_lt_of_le h (Nat.pow_le_pow_right (by omega) hn)
theorem okN_iff {l : List Pq} {pre : List Int} {x : Int} : okN l pre x = true ↔ x ∉ pre ∧ ∀ a, (a, x) ∈ l → a ∈ pre := by
  simp only [okN, Bool.and_eq_true, Bool.not_eq_true', List.all_eq_true, Bool.and_eq_false_iff, Bool.not_eq_false', beq_eq_false_iff_ne]
  constructor
  · rintro ⟨h1, h2⟩
    refine ⟨fun h => (by rw [hasI_iff.2 h] at h1; cases h1), fun a ha => ?_⟩
    rcases h2 _ ha with h | h
    · exact absurd rfl h
    · exact hasI_iff.1 h
  · rintro ⟨h1, h2⟩
    refine ⟨Bool.eq_false_iff.2 fun h => h1 (hasI_iff.1 h), fun p hp => ?_⟩
    by_cases e : p.2 = x
    · subst e; exact .inr (hasI_iff.2 (h2 p.1 hp))
    · exact .inl e
theorem frR_ok {N : Int} {l : List Pq} {pre : List Int} {x : Nat} (hv : validF N l = true) (hp : ∀ y ∈ pre, 0 ≤ y ∧ y < N) (hx : x < N.toNat) : frR (befL N.toNat l) (maskM pre) x = okN l pre x := by
  obtain ⟨q1, q2, q3⟩ := validF_iff.1 hv
  have hb := befM_lt (l := l) (x := x) (n := N.toNat) fun p hp => by have := q3 p hp; omega
  have hm := maskM_lt (l := pre) (n := N.toNat) fun y hy => by have := hp y hy; omega
  have hb64 := lt64 hb (by omega)
  have hm64 := lt64 hm (by omega)
  rw [frR, Int.toNat_natCast, wrap_shl (by omega), bits_and hm64 (one_lt (by omega)), nthD_befL hx, bits_andNot, and_zero, maskM_bit fun y hy => (hp y hy).1]
  rw [Bool.eq_iff_iff, Bool.and_eq_true, Bool.not_eq_true', diff_zero hb64, okN_iff]
  constructor
  · rintro ⟨h1, h2⟩
    refine ⟨fun h => (by rw [hasI_iff.2 h] at h1; cases h1), fun a ha => ?_⟩
    have hr := q3 _ ha
    simp only at hr
    obtain ⟨i, rfl⟩ := Int.eq_ofNat_of_zero_le hr.1
    have := h2 i (by rw [befM_bit fun p hp => (q3 p hp).1]; exact setF_iff.2 ha)
    rw [maskM_bit fun y hy => (hp y hy).1] at this
    exact hasI_iff.1 this
  · rintro ⟨h1, h2⟩
    refine ⟨Bool.eq_false_iff.2 fun h => h1 (hasI_iff.1 h), fun i hi => ?_⟩
    rw [befM_bit fun p hp => (q3 p hp).1] at hi
    rw [maskM_bit fun y hy => (hp y hy).1]
    exact hasI_iff.2 (h2 _ (setF_iff.1 hi))
theorem len_sub : ∀ (l m : List Int), l.Nodup → (∀ x ∈ l, x ∈ m) → l.length ≤ m.length := by
  intro l
  induction l with
  | nil => intro m _ _; simp
  | cons x l ih =>
    intro m hn hs
    have h1 := List.nodup_cons.1 hn
    have hx := hs x List.mem_cons_self
    have := ih (m.erase x) h1.2 fun y hy => by
      have hne : y ≠ x := fun e => h1.1 (e ▸ hy)
      exact (List.mem_erase_of_ne hne).2 (hs y (List.mem_cons_of_mem _ hy))
    rw [List.length_erase_of_mem hx] at this
    have hpos : 0 < m.length := List.length_pos_of_mem hx
    simp only [List.length_cons]; omega
theorem some_out {n : Nat} {pre : List Int} (h : pre.length < n) : ∃ x : Nat, x < n ∧ (x : Int) ∉ pre := by
  refine Classical.byContradiction fun hne => ?_
  have hall : ∀ x ∈ (List.range n).map (fun i : Nat => (i : Int)), x ∈ pre := fun x hx => by
    obtain ⟨i, hi, rfl⟩ := List.mem_map.1 hx
    refine Classical.byContradiction fun hno => hne ⟨i, List.mem_range.1 hi, hno⟩
  have hnd : ((List.range n).map (fun i : Nat => (i : Int))).Nodup := by
    rw [List.nodup_iff_pairwise_ne, List.pairwise_map]
    exact List.nodup_range.imp fun hab h => hab (by omega)
  have := len_sub _ _ hnd hall
  simp at this
  omega
theorem okN_some {N : Int} {l : List Pq} {pre : List Int} (hok : okP N l = true) (h : pre.length < N.toNat) : ∃ x : Nat, x < N.toNat ∧ okN l pre x = true := by
  rw [okP, Bool.and_eq_true] at hok
  have hs := sup_set hok.1
  have hk := sup_wF hs
  have hac := (acy_iff hk).1 hok.2
  obtain ⟨q1, q2, q3⟩ := validF_iff.1 hok.1
  have key : ∀ (m x : Nat), ((List.range N.toNat).filter (fun z : Nat => wF (setF l) N.toNat z x)).length < m → x < N.toNat → (x : Int) ∉ pre → ∃ y : Nat, y < N.toNat ∧ okN l pre y = true := by
    intro m
    induction m with
    | zero => intro x h; omega
    | succ m ih =>
      intro x hm hx hno
      cases ho : okN l pre x
      · have : ∃ a, (a, (x : Int)) ∈ l ∧ a ∉ pre := by
          refine Classical.byContradiction fun hne => ?_
          rw [okN_iff.2 ⟨hno, fun a ha => Classical.byContradiction fun h => hne ⟨a, ha, h⟩⟩] at ho
          cases ho
        obtain ⟨a, ha, hna⟩ := this
        have hr := q3 _ ha
        simp only at hr
        obtain ⟨b, rfl⟩ := Int.eq_ofNat_of_zero_le hr.1
        refine ih b ?_ (by omega) hna
        have hf : wF (setF l) N.toNat b x = true := wF_incl (setF_iff.2 ha)
        have : ((List.range N.toNat).filter (fun z : Nat => wF (setF l) N.toNat z b)).length < ((List.range N.toNat).filter (fun z : Nat => wF (setF l) N.toNat z x)).length :=
          filter_len_lt (fun z _ hz => wF_trans hs hz hf) (y := b) (List.mem_range.2 (by omega)) (hac _) hf
        omega
      · exact ⟨x, hx, ho⟩
  obtain ⟨x, hx, hno⟩ := some_out h
  exact key _ x (Nat.lt_succ_self _) hx hno
theorem mem_nxtK {l : List Pq} {pre : List Int} {k : Nat} {x : Int} : x ∈ nxtK l pre k ↔ ∃ i : Nat, i < k ∧ x = (i : Int) ∧ okN l pre x = true := by
  simp only [nxtK, List.mem_map, List.mem_filter, List.mem_range]
  constructor
  · rintro ⟨i, ⟨h1, h2⟩, rfl⟩; exact ⟨i, h1, rfl, h2⟩
  · rintro ⟨i, h1, rfl, h2⟩; exact ⟨i, ⟨h1, h2⟩, rfl⟩
theorem nxtK_succ {l : List Pq} {pre : List Int} {k : Nat} : nxtK l pre (k + 1) = nxtK l pre k ++ (if okN l pre k = true then [(k : Int)] else []) := by
  unfold nxtK
  rw [List.range_succ, List.filter_append, List.map_append]
  congr 1
  by_cases h : okN l pre k = true <;> simp [h]
theorem nxtK_len (l : List Pq) (pre : List Int) (k : Nat) : (nxtK l pre k).length ≤ k := by
  unfold nxtK
  rw [List.length_map]
  exact Nat.le_trans (List.length_filter_le _ _) (by simp)
theorem nxt_pos {N : Int} {l : List Pq} {pre : List Int} (hok : okP N l = true) (h : pre.length < N.toNat) : 0 < (nxtL N l pre).length := by
  obtain ⟨x, hx, ho⟩ := okN_some hok h
  exact List.length_pos_of_mem (mem_nxtK.2 ⟨x, hx, rfl, ho⟩)
theorem hdN_ok {N : Int} {l : List Pq} {pre : List Int} (hok : okP N l = true) (h : pre.length < N.toNat) : ∃ x : Nat, hdN N l pre = (x : Int) ∧ x < N.toNat ∧ okN l pre x = true := by
  have hp := nxt_pos hok h
  have hm : hdN N l pre ∈ nxtL N l pre := by
    rw [hdN, nthD_get _ _ _ hp]; exact List.getElem_mem hp
  obtain ⟨i, h1, h2, h3⟩ := mem_nxtK.1 hm
  rw [h2] at h3
  exact ⟨i, h2, h1, h3⟩
/-- The first of those that can follow. -/
theorem hdN_first {N : Int} {l : List Pq} {pre : List Int} {x : Nat} (hx : x < N.toNat) (h : (List.range x).all (fun y : Nat => !okN l pre y) = true) (ho : okN l pre x = true) : hdN N l pre = (x : Int) := by
  have h0 : nxtK l pre x = [] := by
    rw [List.eq_nil_iff_forall_not_mem]
    intro y hy
    obtain ⟨i, h1, rfl, h2⟩ := mem_nxtK.1 hy
    have := List.all_eq_true.1 h i (List.mem_range.2 h1)
    rw [h2] at this; cases this
  have h1 : ∀ k, x < k → nthD 0 (nxtK l pre k) 0 = (x : Int) ∧ 0 < (nxtK l pre k).length := by
    intro k
    induction k with
    | zero => intro h; omega
    | succ k ih =>
      intro hk
      rw [nxtK_succ]
      by_cases e : x = k
      · subst e
        rw [h0, if_pos ho]; exact ⟨rfl, by simp⟩
      · obtain ⟨i1, i2⟩ := ih (by omega)
        rw [nthD_lt _ i2]
        exact ⟨i1, by rw [List.length_append]; omega⟩
  exact (h1 N.toNat hx).1
structure Pre (N : Int) (pre : List Int) : Prop where
  rng : ∀ y ∈ pre, 0 ≤ y ∧ y < N
  nod : pre.Nodup
theorem rfL_ok {N : Int} {l : List Pq} (hok : okP N l = true) : ∀ k, k ≤ N.toNat → (rfL N l k).length = k ∧ Pre N (rfL N l k) := by
  intro k
  induction k with
  | zero => exact fun _ => ⟨rfl, ⟨fun _ h => (by cases h), List.nodup_nil⟩⟩
  | succ k ih =>
    intro hk
    obtain ⟨h1, h2, h3⟩ := ih (by omega)
    obtain ⟨x, e1, e2, e3⟩ := hdN_ok (pre := rfL N l k) hok (by omega)
    have hno := (okN_iff.1 e3).1
    refine ⟨by simp only [rfL, List.length_append, h1, List.length_cons, List.length_nil], fun y hy => ?_, ?_⟩
    · simp only [rfL, e1, List.mem_append, List.mem_singleton] at hy
      rcases hy with hy | rfl
      · exact h2 y hy
      · omega
    · simp only [rfL, e1]
      rw [List.nodup_append]
      refine ⟨h3, by simp, fun a ha b hb => ?_⟩
      rw [List.mem_singleton.1 hb]
      intro e
      subst e
      exact hno ha
theorem err_ok {N : Int} {l : List Pq} : (errP N l != 0) = !okP N l := by
  rw [errP, okP]
  cases validF N l <;> cases acy N l <;> rfl
theorem ap1I {l : List Int} {x : Int} : ∀ j, j < (l ++ [x]).length → (bif Nat.blt j l.length then nthD 0 l j else pickI [x] (j - l.length)) = nthD 0 (l ++ [x]) j := fun j hj => by
  by_cases h : j < l.length
  · rw [blt_t h, cond_true, nthD_lt _ h]
  · have : j = l.length := by simp at hj; omega
    subst this
    rw [blt_f h, cond_false, nthD_at, Nat.sub_self]
    rfl
theorem v38_eq (l : List Int) (n : Int) : (fnVc (tab [] [(0, .of (lPos l n 5))]) Try.f38 [.sl 0 l.length, .i .i64 n] [arI l] (plainIs (.i .i64 (posI n l 0)))) = (∃ (x : PUnit),
 (∃ (x : Nat),
 (x ≤ l.length ∧ posI n (List.drop x l) (↑x : Int) = posI n l (0 : Int)) ∧
 ((0 : Int) = (↑x : Int) ∧ True) ∧ True) ∧
 ∀ (x_1 : Nat),
 x_1 ≤ l.length ∧ posI n (List.drop x_1 l) (↑x_1 : Int) = posI n l (0 : Int) →
 (decide ((↑x_1 : Int) < (↑l.length : Int)) = true →
 ((0 : Int) ≤ (↑x_1 : Int) ∧ (↑x_1 : Int) < (↑l.length : Int)) ∧
 x_1 < l.length ∧
 ((nthD (0 : Int) l x_1 == n) = true → (↑x_1 : Int) = posI n l (0 : Int)) ∧
 ((nthD (0 : Int) l x_1 == n) = false →
 ∃ (x_2 : Nat),
 (x_2 ≤ l.length ∧ posI n (List.drop x_2 l) (↑x_2 : Int) = posI n l (0 : Int)) ∧
 ((PLoop.of (lPos l n (5 : Nat))).ann x).mu x_2 <
 ((PLoop.of (lPos l n (5 : Nat))).ann x).mu x_1 ∧
 (l.length = l.length ∧
 n = n ∧ IntKind.i64.wrap ((↑x_1 : Int) + (1 : Int)) = (↑x_2 : Int) ∧ True) ∧
 (l.length = l.length ∧
 (∀ (j : Nat), j < l.length → nthD (0 : Int) l j = nthD (0 : Int) l j) ∧ True) ∧
 True)) ∧
 (decide ((↑x_1 : Int) < (↑l.length : Int)) = false → (-1 : Int) = posI n l (0 : Int))) := by kernel_rfl
theorem v38 (l : List Int) (n : Int) (hl : L9 l) : fnVc (tab [] [(0, .of (lPos l n 5))]) Try.f38 [.sl 0 l.length, .i .i64 n] [arI l] (plainIs (.i .i64 (posI n l 0))) := by
  rw [v38_eq]
  simp only [eq_self, true_and, and_true, implies_true, imp_self, psK_eq, mkN_ps, mkN_rs, mkN_self, mkN_len, PLoop.of, lCnt, AV.len, lPos, lNx0, lNx1, lFs0, lFs1, lFr0]
  refine ⟨(), ⟨0, by simp, rfl⟩, fun i hi => ⟨fun hlt => ?_, fun hlt => ?_⟩⟩
  · have hi2 := lt_len hlt
    have hd := hi.2
    rw [drop_succ' 0 hi2] at hd
    simp only [posI] at hd
    refine ⟨bd hi2, hi2, fun hc => ?_, fun hc => ?_⟩
    · rw [hc, cond_true] at hd; exact hd
    · rw [hc, cond_false] at hd
      exact ⟨i + 1, ⟨by omega, by push_cast; exact hd⟩, by omega, w64_sub (by omega) hl⟩
  · have hi2 := ge_len hlt hi.1
    have hd := hi.2
    rw [hi2, List.drop_length] at hd
    exact hd
theorem v36_eq (N : Int) (l : List Pq) (pre : List Int) : (fnVc (tab [kPos []] [(0, .of (lNx0 N l pre 6 5 4)), (2, lNx1 l pre 8 7)]) Try.f36 [rlV N 0 l, .sl 1 pre.length] [arP l, arI pre] (resIs (.sl 0 (nxtL N l pre).length) 3 (nxtL N l pre).length (isCols (nxtL N l pre)))) = (∃ (x : PUnit),
 (∃ (x : Nat),
 x ≤ N.toNat ∧
 ((0 : Int) = (↑x : Int) ∧ (0 : Nat) = (nxtK l pre x).length ∧ True) ∧
 ((0 : Nat) = (nxtK l pre x).length ∧ (nxtK l pre x).length = (0 : Nat) ∧ True) ∧ True) ∧
 ∀ (x_1 : Nat),
 x_1 ≤ N.toNat →
 (decide ((↑x_1 : Int) < N) = true →
 pre.length = pre.length ∧
 (mkN (nthD (0 : Int) pre) pre.length).length ≤ (1099511627776 : Nat) ∧
 ∃ (x_2 : Nat),
 (∃ (x : Nat),
 x ≤ l.length ∧
 ((0 : Int) = (↑x : Int) ∧
 decide (posI (↑x_1 : Int) (mkN (nthD (0 : Int) pre) pre.length) (0 : Int) < (0 : Int)) =
 (!hasI pre (↑x_2 : Int) &&
 (List.take x l).all fun (p : Pq) => !(p.snd == (↑x_2 : Int) && !hasI pre p.fst)) ∧
 True) ∧
 True) ∧
 ∀ (x_3 : Nat),
 x_3 ≤ l.length →
 (decide ((↑x_3 : Int) < (↑l.length : Int)) = true →
 ((0 : Int) ≤ (↑x_3 : Int) ∧ (↑x_3 : Int) < (↑l.length : Int)) ∧
 x_3 < l.length ∧
 (((nthD ((0 : Int), (0 : Int)) l x_3).snd == (↑x_1 : Int)) = true →
 (0 : Int) ≤ (↑x_3 : Int) ∧ (↑x_3 : Int) < (↑l.length : Int)) ∧
 (((nthD ((0 : Int), (0 : Int)) l x_3).snd == (↑x_1 : Int)) = true → x_3 < l.length) ∧
 (((nthD ((0 : Int), (0 : Int)) l x_3).snd == (↑x_1 : Int)) = true →
 pre.length = pre.length) ∧
 (((nthD ((0 : Int), (0 : Int)) l x_3).snd == (↑x_1 : Int)) = true →
 (mkN (nthD (0 : Int) pre) pre.length).length ≤ (1099511627776 : Nat)) ∧
 (((nthD ((0 : Int), (0 : Int)) l x_3).snd == (↑x_1 : Int) &&
 decide
 (posI (nthD ((0 : Int), (0 : Int)) l x_3).fst
 (mkN (nthD (0 : Int) pre) pre.length) (0 : Int) <
 (0 : Int))) =
 true →
 ∃ (x : Nat),
 x ≤ l.length ∧
 ((lNx1 l pre (8 : Nat) (7 : Nat)).ann x_2).mu x <
 ((lNx1 l pre (8 : Nat) (7 : Nat)).ann x_2).mu x_3 ∧
 ((N = N ∧ l.length = l.length) ∧
 pre.length = pre.length ∧
 True ∧
 (0 : Nat) = (0 : Nat) ∧
 (nxtK l pre x_1).length = (nxtK l pre x_1).length ∧
 (↑x_1 : Int) = (↑x_1 : Int) ∧
 false =
 (!hasI pre (↑x_2 : Int) &&
 (List.take x l).all fun (p : Pq) =>
 !(p.snd == (↑x_2 : Int) && !hasI pre p.fst)) ∧
 IntKind.i64.wrap ((↑x_3 : Int) + (1 : Int)) =
 (↑x : Int) ∧
 (↑x_1 : Int) = (↑x_1 : Int) ∧
 True ∧
 N = N ∧
 true = true ∧
 pre.length = pre.length ∧
 (↑x_1 : Int) = (↑x_1 : Int) ∧
 posI (↑x_1 : Int)
 (mkN (nthD (0 : Int) pre)
 pre.length)
 (0 : Int) =
 posI (↑x_1 : Int)
 (mkN (nthD (0 : Int) pre)
 pre.length)
 (0 : Int) ∧
 decide
 (posI (↑x_1 : Int)
 (mkN (nthD (0 : Int) pre)
 pre.length)
 (0 : Int) <
 (0 : Int)) =
 decide
 (posI (↑x_1 : Int)
 (mkN (nthD (0 : Int) pre)
 pre.length)
 (0 : Int) <
 (0 : Int)) ∧
 True) ∧
 (l.length = l.length ∧
 (∀ (j : Nat),
 j < l.length →
 (nthD ((0 : Int), (0 : Int)) l j).fst =
 (nthD ((0 : Int), (0 : Int)) l j).fst) ∧
 (∀ (j : Nat),
 j < l.length →
 (nthD ((0 : Int), (0 : Int)) l j).snd =
 (nthD ((0 : Int), (0 : Int)) l j).snd) ∧
 True) ∧
 (pre.length = pre.length ∧
 (∀ (j : Nat),
 j < pre.length →
 nthD (0 : Int) pre j = nthD (0 : Int) pre j) ∧
 True) ∧
 (N = N ∧ l.length = l.length) ∧
 ((0 : Nat) = (0 : Nat) ∧ True ∧ True) ∧
 ((nxtK l pre x_1).length = (nxtK l pre x_1).length ∧
 (∀ (j : Nat),
 j < (nxtK l pre x_1).length →
 nthD (0 : Int) (nxtK l pre x_1) j =
 nthD (0 : Int) (nxtK l pre x_1) j) ∧
 True) ∧
 True) ∧
 (((nthD ((0 : Int), (0 : Int)) l x_3).snd == (↑x_1 : Int) &&
 decide
 (posI (nthD ((0 : Int), (0 : Int)) l x_3).fst
 (mkN (nthD (0 : Int) pre) pre.length) (0 : Int) <
 (0 : Int))) =
 false →
 ∃ (x : Nat),
 x ≤ l.length ∧
 ((lNx1 l pre (8 : Nat) (7 : Nat)).ann x_2).mu x <
 ((lNx1 l pre (8 : Nat) (7 : Nat)).ann x_2).mu x_3 ∧
 ((N = N ∧ l.length = l.length) ∧
 pre.length = pre.length ∧
 True ∧
 (0 : Nat) = (0 : Nat) ∧
 (nxtK l pre x_1).length = (nxtK l pre x_1).length ∧
 (↑x_1 : Int) = (↑x_1 : Int) ∧
 (!hasI pre (↑x_2 : Int) &&
 (List.take x_3 l).all fun (p : Pq) =>
 !(p.snd == (↑x_2 : Int) && !hasI pre p.fst)) =
 (!hasI pre (↑x_2 : Int) &&
 (List.take x l).all fun (p : Pq) =>
 !(p.snd == (↑x_2 : Int) && !hasI pre p.fst)) ∧
 IntKind.i64.wrap ((↑x_3 : Int) + (1 : Int)) =
 (↑x : Int) ∧
 (↑x_1 : Int) = (↑x_1 : Int) ∧
 True ∧
 N = N ∧
 true = true ∧
 pre.length = pre.length ∧
 (↑x_1 : Int) = (↑x_1 : Int) ∧
 posI (↑x_1 : Int)
 (mkN (nthD (0 : Int) pre)
 pre.length)
 (0 : Int) =
 posI (↑x_1 : Int)
 (mkN (nthD (0 : Int) pre)
 pre.length)
 (0 : Int) ∧
 decide
 (posI (↑x_1 : Int)
 (mkN (nthD (0 : Int) pre)
 pre.length)
 (0 : Int) <
 (0 : Int)) =
 decide
 (posI (↑x_1 : Int)
 (mkN (nthD (0 : Int) pre)
 pre.length)
 (0 : Int) <
 (0 : Int)) ∧
 True) ∧
 (l.length = l.length ∧
 (∀ (j : Nat),
 j < l.length →
 (nthD ((0 : Int), (0 : Int)) l j).fst =
 (nthD ((0 : Int), (0 : Int)) l j).fst) ∧
 (∀ (j : Nat),
 j < l.length →
 (nthD ((0 : Int), (0 : Int)) l j).snd =
 (nthD ((0 : Int), (0 : Int)) l j).snd) ∧
 True) ∧
 (pre.length = pre.length ∧
 (∀ (j : Nat),
 j < pre.length →
 nthD (0 : Int) pre j = nthD (0 : Int) pre j) ∧
 True) ∧
 (N = N ∧ l.length = l.length) ∧
 ((0 : Nat) = (0 : Nat) ∧ True ∧ True) ∧
 ((nxtK l pre x_1).length = (nxtK l pre x_1).length ∧
 (∀ (j : Nat),
 j < (nxtK l pre x_1).length →
 nthD (0 : Int) (nxtK l pre x_1) j =
 nthD (0 : Int) (nxtK l pre x_1) j) ∧
 True) ∧
 True)) ∧
 (decide ((↑x_3 : Int) < (↑l.length : Int)) = false →
 ((!hasI pre (↑x_2 : Int) &&
 (List.take x_3 l).all fun (p : Pq) => !(p.snd == (↑x_2 : Int) && !hasI pre p.fst)) =
 true →
 (nxtK l pre x_1).length = (nxtK l pre x_1).length ∧
 (1 : Nat) = (1 : Nat) ∧
 ((nxtK l pre x_1).length + (1 : Nat)) * (8 : Nat) ≤ (140737488355328 : Nat) ∧
 (nxtK l pre x_1).length + (1 : Nat) ≤ (9223372036854775807 : Nat) ∧
 ∃ (x_4 : Nat),
 x_4 ≤ N.toNat ∧
 ((PLoop.of (lNx0 N l pre (6 : Nat) (5 : Nat) (4 : Nat))).ann x).mu x_4 <
 ((PLoop.of (lNx0 N l pre (6 : Nat) (5 : Nat) (4 : Nat))).ann x).mu x_1 ∧
 ((N = N ∧ l.length = l.length) ∧
 pre.length = pre.length ∧
 True ∧
 (0 : Nat) = (0 : Nat) ∧
 (nxtK l pre x_1).length + (1 : Nat) = (nxtK l pre x_4).length ∧
 IntKind.i64.wrap ((↑x_1 : Int) + (1 : Int)) = (↑x_4 : Int) ∧
 True) ∧
 (l.length = l.length ∧
 (∀ (j : Nat),
 j < l.length →
 (nthD ((0 : Int), (0 : Int)) l j).fst =
 (nthD ((0 : Int), (0 : Int)) l j).fst) ∧
 (∀ (j : Nat),
 j < l.length →
 (nthD ((0 : Int), (0 : Int)) l j).snd =
 (nthD ((0 : Int), (0 : Int)) l j).snd) ∧
 True) ∧
 (pre.length = pre.length ∧
 (∀ (j : Nat),
 j < pre.length →
 nthD (0 : Int) pre j = nthD (0 : Int) pre j) ∧
 True) ∧
 (N = N ∧ l.length = l.length) ∧
 ((0 : Nat) = (0 : Nat) ∧ True ∧ True) ∧
 ((nxtK l pre x_1).length + (1 : Nat) = (nxtK l pre x_4).length ∧
 (∀ (j : Nat),
 j < (nxtK l pre x_4).length →
 (bif j.blt (nxtK l pre x_1).length then
 nthD (0 : Int) (nxtK l pre x_1) j
 else
 pickI [(↑x_1 : Int)]
 (j - (nxtK l pre x_1).length)) =
 nthD (0 : Int) (nxtK l pre x_4) j) ∧
 True) ∧
 True) ∧
 ((!hasI pre (↑x_2 : Int) &&
 (List.take x_3 l).all fun (p : Pq) => !(p.snd == (↑x_2 : Int) && !hasI pre p.fst)) =
 false →
 ∃ (x_4 : Nat),
 x_4 ≤ N.toNat ∧
 ((PLoop.of (lNx0 N l pre (6 : Nat) (5 : Nat) (4 : Nat))).ann x).mu x_4 <
 ((PLoop.of (lNx0 N l pre (6 : Nat) (5 : Nat) (4 : Nat))).ann x).mu x_1 ∧
 ((N = N ∧ l.length = l.length) ∧
 pre.length = pre.length ∧
 True ∧
 (0 : Nat) = (0 : Nat) ∧
 (nxtK l pre x_1).length = (nxtK l pre x_4).length ∧
 IntKind.i64.wrap ((↑x_1 : Int) + (1 : Int)) = (↑x_4 : Int) ∧ True) ∧
 (l.length = l.length ∧
 (∀ (j : Nat),
 j < l.length →
 (nthD ((0 : Int), (0 : Int)) l j).fst =
 (nthD ((0 : Int), (0 : Int)) l j).fst) ∧
 (∀ (j : Nat),
 j < l.length →
 (nthD ((0 : Int), (0 : Int)) l j).snd =
 (nthD ((0 : Int), (0 : Int)) l j).snd) ∧
 True) ∧
 (pre.length = pre.length ∧
 (∀ (j : Nat),
 j < pre.length → nthD (0 : Int) pre j = nthD (0 : Int) pre j) ∧
 True) ∧
 (N = N ∧ l.length = l.length) ∧
 ((0 : Nat) = (0 : Nat) ∧ True ∧ True) ∧
 ((nxtK l pre x_1).length = (nxtK l pre x_4).length ∧
 (∀ (j : Nat),
 j < (nxtK l pre x_4).length →
 nthD (0 : Int) (nxtK l pre x_1) j =
 nthD (0 : Int) (nxtK l pre x_4) j) ∧
 True) ∧
 True))) ∧
 (decide ((↑x_1 : Int) < N) = false →
 (nxtK l pre x_1).length = (nxtL N l pre).length ∧
 ((∀ (j : Nat),
 j < (nxtL N l pre).length → nthD (0 : Int) (nxtK l pre x_1) j = nthD (0 : Int) (nxtL N l pre) j) ∧
 True) ∧
 (nxtK l pre x_1).length = (nxtL N l pre).length)) := by kernel_rfl
theorem v36 (N : Int) (l : List Pq) (pre : List Int) (hv : validF N l = true) (hl : L9 l) (hpre : L9 pre) : fnVc (tab [kPos []] [(0, .of (lNx0 N l pre 6 5 4)), (2, lNx1 l pre 8 7)]) Try.f36 [rlV N 0 l, .sl 1 pre.length] [arP l, arI pre] (resIs (.sl 0 (nxtL N l pre).length) 3 (nxtL N l pre).length (isCols (nxtL N l pre))) := by
  rw [v36_eq]
  simp only [eq_self, true_and, and_true, implies_true, imp_self, psK_eq, mkN_ps, mkN_rs, mkN_self, mkN_len, PLoop.of, lCnt, AV.len, lPos, lNx0, lNx1, lFs0, lFs1, lFr0]
  obtain ⟨q1, q2, q3⟩ := validF_iff.1 hv
  refine ⟨(), ⟨0, by omega, ⟨rfl, rfl⟩, rfl, rfl⟩, fun k hk => ⟨fun hlt => ?_, fun hlt => ?_⟩⟩
  · have hlt2 := of_decide_eq_true hlt
    refine ⟨hpre, k, ⟨0, by omega, rfl, by rw [posI_lt _ _ (by omega)]; simp⟩, fun i hi => ⟨fun hli => ?_, fun hli => ?_⟩⟩
    · have hi2 := lt_len hli
      rw [posI_lt _ _ (by omega)]
      refine ⟨bd hi2, hi2, fun _ => bd hi2, fun _ => hi2, fun _ => hpre, fun hc => ⟨i + 1, by omega, by omega, ?_, w64_sub (by omega) hl⟩, fun hc => ⟨i + 1, by omega, by omega, ?_, w64_sub (by omega) hl⟩⟩
      · rw [take_succ' (0, 0) hi2, List.all_append]
        simp only [List.all_cons, List.all_nil, hc, Bool.not_true, Bool.false_and, Bool.and_false]
      · rw [take_succ' (0, 0) hi2, List.all_append]
        simp only [List.all_cons, List.all_nil, hc, Bool.not_false, Bool.and_true]
    · have hi2 := ge_len hli hi
      have hlen := nxtK_len l pre k
      rw [hi2, List.take_length]
      have eok : (!hasI pre k && l.all fun p => !(p.2 == (k : Int) && !hasI pre p.1)) = okN l pre k := rfl
      rw [eok]
      refine ⟨fun hc => ⟨by omega, by omega, k + 1, by omega, by omega, ⟨?_, wrS (n := 64) (by omega) (by omega)⟩, ?_, fun j hj => ?_⟩, fun hc => ⟨k + 1, by omega, by omega, ⟨?_, wrS (n := 64) (by omega) (by omega)⟩, ?_, fun j hj => ?_⟩⟩
      · rw [nxtK_succ, if_pos hc]; simp
      · rw [nxtK_succ, if_pos hc]; simp
      · rw [nxtK_succ, if_pos hc] at hj ⊢; exact ap1I j hj
      · rw [nxtK_succ, if_neg (by rw [hc]; simp), List.append_nil]
      · rw [nxtK_succ, if_neg (by rw [hc]; simp), List.append_nil]
      · rw [nxtK_succ, if_neg (by rw [hc]; simp), List.append_nil]
  · have hlt2 := of_decide_eq_false hlt
    have e : k = N.toNat := by omega
    subst e
    exact ⟨rfl, fun j hj => rfl, rfl⟩
theorem v35_eq (N : Int) (l : List Pq) : (fnVc (tab [kVal' [], kAcy' []] []) Try.f35 [rlV N 0 l] [arP l] (plainIs (.i .i64 (errP N l)))) = (l.length = l.length ∧
 (psK l).length ≤
 (1099511627776 : Nat) ∧
 ((!validF N
 (psK l)) =
 true →
 (1 : Int) = errP N l) ∧
 ((!validF N
 (psK l)) =
 false →
 l.length = l.length ∧
 (psK l).length ≤
 (1099511627776 : Nat) ∧
 ((!(validF N
 (psK l) &&
 acyF N.toNat
 (wF
 (setF
 (psK l))
 N.toNat))) =
 true →
 (20 : Int) = errP N l) ∧
 ((!(validF N
 (psK l) &&
 acyF N.toNat
 (wF
 (setF
 (psK l))
 N.toNat))) =
 false →
 (0 : Int) = errP N l))) := by kernel_rfl
theorem v35 (N : Int) (l : List Pq) (hl : L9 l) : fnVc (tab [kVal' [], kAcy' []] []) Try.f35 [rlV N 0 l] [arP l] (plainIs (.i .i64 (errP N l))) := by
  rw [v35_eq]
  simp only [eq_self, true_and, and_true, implies_true, imp_self, psK_eq, mkN_ps, mkN_rs, mkN_self, mkN_len, PLoop.of, lCnt, AV.len, lPos, lNx0, lNx1, lFs0, lFs1, lFr0]
  refine ⟨hl, fun h => ?_, fun h => ⟨hl, fun h' => ?_, fun h' => ?_⟩⟩
  · have hv : validF N l = false := by simpa using h
    simp [errP, hv]
  · have hv : validF N l = true := by simpa using h
    have hc : acy N l = false := by rw [hv] at h'; simpa [acy] using h'
    simp [errP, hv, hc]
  · have hv : validF N l = true := by simpa using h
    have hc : acy N l = true := by rw [hv] at h'; simpa [acy] using h'
    simp [errP, hv, hc]
theorem v14_eq (N : Int) (l : List Pq) (B : List Int) : (fnVc (tab [kChk [none, none, none, some (.us B)], kFre [none, none, none, some (.us B)]] [(0, .of (lFs0 N l 6 7 5)), (2, lFs1 N l 24 6 7 5)]) Try.f14 [rlV N 0 l] [arP l] (resIs (.tup [.sl 0 (fstL N l).length, .i .i64 (errP N l)]) 3 (fstL N l).length (isCols (fstL N l)))) = (l.length = l.length ∧
 (psK l).length ≤
 (1099511627776 : Nat) ∧
 (bif
 okP N
 (psK l) then
 befL N.toNat
 (psK l)
 else []) =
 B ∧
 ((errP N
 (psK l) !=
 (0 : Int)) =
 true →
 (0 : Nat) = (fstL N l).length ∧
 ((fstL N l).length = (0 : Nat) ∧ True) ∧
 (0 : Nat) = (fstL N l).length ∧
 errP N
 (psK l) =
 errP N l ∧
 True) ∧
 ((errP N
 (psK l) !=
 (0 : Int)) =
 false →
 ∃ (x : PUnit),
 (∃ (x : Nat),
 x ≤ N.toNat ∧
 ((0 : Nat) = (rfL N l x).length ∧ (0 : Int) = (↑(maskM (rfL N l x)) : Int) ∧ True) ∧
 ((0 : Nat) = (rfL N l x).length ∧ (rfL N l x).length = (0 : Nat) ∧ True) ∧ True) ∧
 ∀ (x_1 : Nat),
 x_1 ≤ N.toNat →
 (decide
 ((↑(rfL N l x_1).length : Int) <
 bif
 okP N
 (psK l) then
 N
 else (0 : Int)) =
 true →
 ∃ (x_2 : Nat),
 (∃ (x : Nat),
 (x ≤ N.toNat ∧
 x_2 < N.toNat ∧
 ((List.range x).all fun (y : Nat) => !okN l (rfL N l x_2) (↑y : Int)) = true) ∧
 ((0 : Int) = (↑x : Int) ∧
 (rfL N l x_1).length = (rfL N l x_2).length ∧
 (↑(maskM (rfL N l x_1)) : Int) = (↑(maskM (rfL N l x_2)) : Int) ∧ True) ∧
 True) ∧
 ∀ (x_3 : Nat),
 x_3 ≤ N.toNat ∧
 x_2 < N.toNat ∧
 ((List.range x_3).all fun (y : Nat) => !okN l (rfL N l x_2) (↑y : Int)) = true →
 (decide
 ((↑x_3 : Int) <
 bif
 okP N
 (psK l) then
 N
 else (0 : Int)) =
 true →
 (AV.us B).len = (AV.us B).len ∧
 mkN (nthD (0 : Int) B) (AV.us B).len = B ∧
 ((0 : Int) ≤ (↑x_3 : Int) ∧ (↑x_3 : Int) < (64 : Int)) ∧
 (↑x_3 : Int) + (1 : Int) ≤ (↑B.length : Int) ∧
 (frR B (↑(maskM (rfL N l x_2)) : Int) (↑x_3 : Int) = true →
 (rfL N l x_2).length = (rfL N l x_1).length ∧
 (1 : Nat) = (1 : Nat) ∧
 ((rfL N l x_2).length + (1 : Nat)) * (8 : Nat) ≤
 (140737488355328 : Nat) ∧
 (rfL N l x_2).length + (1 : Nat) ≤ (9223372036854775807 : Nat) ∧
 ((0 : Int) ≤ (↑x_3 : Int) ∧
 (↑x_3 : Int) ≤ (↑IntKind.u64.bits : Int)) ∧
 ∃ (x_4 : Nat),
 x_4 ≤ N.toNat ∧
 ((PLoop.of (lFs0 N l (6 : Nat) (7 : Nat) (5 : Nat))).ann
 x).mu
 x_4 <
 ((PLoop.of (lFs0 N l (6 : Nat) (7 : Nat) (5 : Nat))).ann
 x).mu
 x_1 ∧
 ((N = N ∧ l.length = l.length) ∧
 True ∧
 (0 : Nat) = (0 : Nat) ∧
 (0 : Int) = (0 : Int) ∧
 True ∧
 errP N
 (psK l) =
 errP N
 (psK l) ∧
 (rfL N l x_2).length + (1 : Nat) =
 (rfL N l x_4).length ∧
 bits BinOp.or IntKind.u64
 (↑(maskM (rfL N l x_2)) : Int)
 (IntKind.u64.wrap
 ((1 : Int) * (2 : Int) ^ x_3)) =
 (↑(maskM (rfL N l x_4)) : Int) ∧
 ((((bif
 okP N
 (psK l) then
 N
 else (0 : Int)) =
 bif
 okP N
 (psK l) then
 N
 else (0 : Int)) ∧
 (AV.us B).len = (AV.us B).len) ∧
 errP N
 (psK l) =
 errP N
 (psK l)) ∧
 (N = N ∧ l.length = l.length) ∧
 ((((bif
 okP N
 (psK l) then
 N
 else (0 : Int)) =
 bif
 okP N
 (psK l) then
 N
 else (0 : Int)) ∧
 (AV.us B).len =
 (AV.us B).len) ∧
 errP N
 (psK l) =
 errP N
 (psK l)) ∧
 (((bif
 okP N
 (psK l) then
 N
 else (0 : Int)) =
 bif
 okP N
 (psK l) then
 N
 else (0 : Int)) ∧
 (AV.us B).len =
 (AV.us B).len) ∧
 errP N
 (psK l) =
 errP N
 (psK l) ∧
 errP N
 (psK l) =
 errP N
 (psK l) ∧
 false = false ∧ True) ∧
 (l.length = l.length ∧
 (∀ (j : Nat),
 j < l.length →
 (nthD ((0 : Int), (0 : Int)) l j).fst =
 (nthD ((0 : Int), (0 : Int)) l j).fst) ∧
 (∀ (j : Nat),
 j < l.length →
 (nthD ((0 : Int), (0 : Int)) l j).snd =
 (nthD ((0 : Int), (0 : Int)) l j).snd) ∧
 True) ∧
 (N = N ∧ l.length = l.length) ∧
 ((0 : Nat) = (0 : Nat) ∧ True ∧ True) ∧
 ((AV.us B).len = (AV.us B).len ∧
 (∀ (j : Nat),
 j < (AV.us B).len →
 nthD (0 : Int) B j =
 nthD (0 : Int) B j) ∧
 True) ∧
 (((bif
 okP N
 (psK l) then
 N
 else (0 : Int)) =
 bif
 okP N
 (psK l) then
 N
 else (0 : Int)) ∧
 (AV.us B).len = (AV.us B).len) ∧
 ((rfL N l x_2).length + (1 : Nat) =
 (rfL N l x_4).length ∧
 (∀ (j : Nat),
 j < (rfL N l x_4).length →
 (bif j.blt (rfL N l x_2).length then
 nthD (0 : Int) (rfL N l x_1) j
 else
 pickI [(↑x_3 : Int)]
 (j - (rfL N l x_2).length)) =
 nthD (0 : Int) (rfL N l x_4) j) ∧
 True) ∧
 True) ∧
 (frR B (↑(maskM (rfL N l x_2)) : Int) (↑x_3 : Int) = false →
 ∃ (x : Nat),
 (x ≤ N.toNat ∧
 x_2 < N.toNat ∧
 ((List.range x).all fun (y : Nat) =>
 !okN l (rfL N l x_2) (↑y : Int)) =
 true) ∧
 ((lFs1 N l (24 : Nat) (6 : Nat) (7 : Nat) (5 : Nat)).ann x_2).mu x <
 ((lFs1 N l (24 : Nat) (6 : Nat) (7 : Nat) (5 : Nat)).ann x_2).mu
 x_3 ∧
 ((N = N ∧ l.length = l.length) ∧
 True ∧
 (0 : Nat) = (0 : Nat) ∧
 (0 : Int) = (0 : Int) ∧
 True ∧
 errP N
 (psK l) =
 errP N
 (psK l) ∧
 (rfL N l x_2).length = (rfL N l x_2).length ∧
 (↑(maskM (rfL N l x_2)) : Int) =
 (↑(maskM (rfL N l x_2)) : Int) ∧
 ((((bif
 okP N
 (psK l) then
 N
 else (0 : Int)) =
 bif
 okP N
 (psK l) then
 N
 else (0 : Int)) ∧
 (AV.us B).len = (AV.us B).len) ∧
 errP N
 (psK l) =
 errP N
 (psK l)) ∧
 (N = N ∧ l.length = l.length) ∧
 ((((bif
 okP N
 (psK l) then
 N
 else (0 : Int)) =
 bif
 okP N
 (psK l) then
 N
 else (0 : Int)) ∧
 (AV.us B).len = (AV.us B).len) ∧
 errP N
 (psK l) =
 errP N
 (psK l)) ∧
 (((bif
 okP N
 (psK l) then
 N
 else (0 : Int)) =
 bif
 okP N
 (psK l) then
 N
 else (0 : Int)) ∧
 (AV.us B).len = (AV.us B).len) ∧
 errP N
 (psK l) =
 errP N
 (psK l) ∧
 errP N
 (psK l) =
 errP N
 (psK l) ∧
 false = false ∧
 (rfL N l x_1).length =
 (rfL N l x_1).length ∧
 (↑(rfL N l x_1).length : Int) =
 (↑(rfL N l x_1).length :
 Int) ∧
 True ∧
 ((bif
 okP N
 (mkN
 (fun (j : Nat) =>
 ((nthD
 ((0 :
 Int),
 (0 :
 Int))
 l j).fst,
 (nthD
 ((0 :
 Int),
 (0 :
 Int))
 l j).snd))
 l.length) then
 N
 else (0 : Int)) =
 bif
 okP N
 (mkN
 (fun (j : Nat) =>
 ((nthD
 ((0 :
 Int),
 (0 :
 Int))
 l j).fst,
 (nthD
 ((0 :
 Int),
 (0 :
 Int))
 l j).snd))
 l.length) then
 N
 else (0 : Int)) ∧
 true = true ∧
 True ∧
 ((bif
 okP N
 (mkN
 (fun
 (j :
 Nat) =>
 ((nthD
 ((0 :
 Int),
 (0 :
 Int))
 l
 j).fst,
 (nthD
 ((0 :
 Int),
 (0 :
 Int))
 l
 j).snd))
 l.length) then
 N
 else (0 : Int)) =
 bif
 okP N
 (mkN
 (fun
 (j :
 Nat) =>
 ((nthD
 ((0 :
 Int),
 (0 :
 Int))
 l
 j).fst,
 (nthD
 ((0 :
 Int),
 (0 :
 Int))
 l
 j).snd))
 l.length) then
 N
 else (0 : Int)) ∧
 IntKind.i64.wrap
 ((↑x_3 : Int) +
 (1 : Int)) =
 (↑x : Int) ∧
 True) ∧
 (l.length = l.length ∧
 (∀ (j : Nat),
 j < l.length →
 (nthD ((0 : Int), (0 : Int)) l j).fst =
 (nthD ((0 : Int), (0 : Int)) l j).fst) ∧
 (∀ (j : Nat),
 j < l.length →
 (nthD ((0 : Int), (0 : Int)) l j).snd =
 (nthD ((0 : Int), (0 : Int)) l j).snd) ∧
 True) ∧
 (N = N ∧ l.length = l.length) ∧
 ((0 : Nat) = (0 : Nat) ∧ True ∧ True) ∧
 ((AV.us B).len = (AV.us B).len ∧
 (∀ (j : Nat),
 j < (AV.us B).len →
 nthD (0 : Int) B j = nthD (0 : Int) B j) ∧
 True) ∧
 (((bif
 okP N
 (psK l) then
 N
 else (0 : Int)) =
 bif
 okP N
 (psK l) then
 N
 else (0 : Int)) ∧
 (AV.us B).len = (AV.us B).len) ∧
 ((rfL N l x_1).length = (rfL N l x_1).length ∧
 (∀ (j : Nat),
 j < (rfL N l x_1).length →
 nthD (0 : Int) (rfL N l x_1) j =
 nthD (0 : Int) (rfL N l x_1) j) ∧
 True) ∧
 True)) ∧
 (decide
 ((↑x_3 : Int) <
 bif
 okP N
 (psK l) then
 N
 else (0 : Int)) =
 false →
 ∃ (x_4 : Nat),
 x_4 ≤ N.toNat ∧
 ((PLoop.of (lFs0 N l (6 : Nat) (7 : Nat) (5 : Nat))).ann x).mu x_4 <
 ((PLoop.of (lFs0 N l (6 : Nat) (7 : Nat) (5 : Nat))).ann x).mu x_1 ∧
 ((N = N ∧ l.length = l.length) ∧
 True ∧
 (0 : Nat) = (0 : Nat) ∧
 (0 : Int) = (0 : Int) ∧
 True ∧
 errP N
 (psK l) =
 errP N
 (psK l) ∧
 (rfL N l x_2).length = (rfL N l x_4).length ∧
 (↑(maskM (rfL N l x_2)) : Int) =
 (↑(maskM (rfL N l x_4)) : Int) ∧
 ((((bif
 okP N
 (psK l) then
 N
 else (0 : Int)) =
 bif
 okP N
 (psK l) then
 N
 else (0 : Int)) ∧
 (AV.us B).len = (AV.us B).len) ∧
 errP N
 (psK l) =
 errP N
 (psK l)) ∧
 (N = N ∧ l.length = l.length) ∧
 ((((bif
 okP N
 (psK l) then
 N
 else (0 : Int)) =
 bif
 okP N
 (psK l) then
 N
 else (0 : Int)) ∧
 (AV.us B).len = (AV.us B).len) ∧
 errP N
 (psK l) =
 errP N
 (psK l)) ∧
 (((bif
 okP N
 (psK l) then
 N
 else (0 : Int)) =
 bif
 okP N
 (psK l) then
 N
 else (0 : Int)) ∧
 (AV.us B).len = (AV.us B).len) ∧
 errP N
 (psK l) =
 errP N
 (psK l) ∧
 errP N
 (psK l) =
 errP N
 (psK l) ∧
 false = false ∧ True) ∧
 (l.length = l.length ∧
 (∀ (j : Nat),
 j < l.length →
 (nthD ((0 : Int), (0 : Int)) l j).fst =
 (nthD ((0 : Int), (0 : Int)) l j).fst) ∧
 (∀ (j : Nat),
 j < l.length →
 (nthD ((0 : Int), (0 : Int)) l j).snd =
 (nthD ((0 : Int), (0 : Int)) l j).snd) ∧
 True) ∧
 (N = N ∧ l.length = l.length) ∧
 ((0 : Nat) = (0 : Nat) ∧ True ∧ True) ∧
 ((AV.us B).len = (AV.us B).len ∧
 (∀ (j : Nat),
 j < (AV.us B).len → nthD (0 : Int) B j = nthD (0 : Int) B j) ∧
 True) ∧
 (((bif
 okP N
 (psK l) then
 N
 else (0 : Int)) =
 bif
 okP N
 (psK l) then
 N
 else (0 : Int)) ∧
 (AV.us B).len = (AV.us B).len) ∧
 ((rfL N l x_1).length = (rfL N l x_4).length ∧
 (∀ (j : Nat),
 j < (rfL N l x_4).length →
 nthD (0 : Int) (rfL N l x_1) j =
 nthD (0 : Int) (rfL N l x_4) j) ∧
 True) ∧
 True)) ∧
 (decide
 ((↑(rfL N l x_1).length : Int) <
 bif
 okP N
 (psK l) then
 N
 else (0 : Int)) =
 false →
 (rfL N l x_1).length = (fstL N l).length ∧
 ((∀ (j : Nat),
 j < (fstL N l).length → nthD (0 : Int) (rfL N l x_1) j = nthD (0 : Int) (fstL N l) j) ∧
 True) ∧
 (rfL N l x_1).length = (fstL N l).length ∧ (0 : Int) = errP N l ∧ True))) := by kernel_rfl
theorem v14 (N : Int) (l : List Pq) (B : List Int) (hl : L9 l) (hB : (bif okP N l then befL N.toNat l else []) = B) : fnVc (tab [kChk [none, none, none, some (.us B)], kFre [none, none, none, some (.us B)]] [(0, .of (lFs0 N l 6 7 5)), (2, lFs1 N l 24 6 7 5)]) Try.f14 [rlV N 0 l] [arP l] (resIs (.tup [.sl 0 (fstL N l).length, .i .i64 (errP N l)]) 3 (fstL N l).length (isCols (fstL N l))) := by
  rw [v14_eq]
  simp only [eq_self, true_and, and_true, implies_true, imp_self, psK_eq, mkN_ps, mkN_rs, mkN_self, mkN_len, PLoop.of, lCnt, AV.len, lPos, lNx0, lNx1, lFs0, lFs1, lFr0]
  rw [err_ok]
  refine ⟨hl, hB, fun h => ?_, fun h => ?_⟩
  · have ho : okP N l = false := by simpa using h
    simp [fstL, ho]
  · have ho : okP N l = true := by simpa using h
    have ho2 := ho
    rw [okP, Bool.and_eq_true] at ho2
    obtain ⟨q1, q2, q3⟩ := validF_iff.1 ho2.1
    have he : errP N l = 0 := by rw [errP, ho2.1, ho2.2]; rfl
    rw [ho, cond_true] at hB ⊢
    subst hB
    have hb : ((IntKind.u64.bits : Nat) : Int) = 64 := rfl
    rw [befL_len]
    refine ⟨(), ⟨0, by omega, ⟨rfl, rfl⟩, rfl, rfl⟩, fun k hk => ⟨fun hlt => ?_, fun hlt => ?_⟩⟩
    · have hlt2 := of_decide_eq_true hlt
      obtain ⟨hr, hr2, hr3⟩ := rfL_ok ho k hk
      refine ⟨k, ⟨0, ⟨by omega, by omega, by simp⟩, rfl, rfl, rfl⟩, fun x hx => ⟨fun hlx => ?_, fun hlx => ?_⟩⟩
      · have hlx2 := of_decide_eq_true hlx
        rw [frR_ok ho2.1 hr2 (by omega)]
        refine ⟨by omega, by omega, fun hc => ?_, fun hc => ⟨x + 1, ⟨by omega, by omega, ?_⟩, by omega, wrS (n := 64) (by omega) (by omega)⟩⟩
        · have hd := hdN_first (N := N) (by omega) hx.2.2 hc
          have h1 : rfL N l (k + 1) = rfL N l k ++ [(x : Int)] := by rw [← hd]; rfl
          have hm := maskM_lt (l := rfL N l k) (n := N.toNat) fun y hy => by have := hr2 y hy; omega
          refine ⟨rfl, by omega, by omega, by omega, k + 1, by omega, by omega, ⟨?_, ?_⟩, ?_, fun j hj => ?_⟩
          · rw [h1]; simp
          · rw [h1, maskM_app, Int.toNat_natCast, wrap_shl (by omega), bits_or (lt64 hm (by omega)) (one_lt (by omega))]
          · rw [h1]; simp
          · rw [h1] at hj ⊢; exact ap1I j hj
        · rw [List.range_succ, List.all_append, hx.2.2]
          simp [hc]
      · have hlx2 := of_decide_eq_false hlx
        exfalso
        obtain ⟨y, y1, y2⟩ := okN_some (pre := rfL N l k) ho (by omega)
        have := List.all_eq_true.1 hx.2.2 y (List.mem_range.2 (by omega))
        rw [y2] at this; cases this
    · have hlt2 := of_decide_eq_false hlt
      have hr := (rfL_ok ho k hk).1
      have e : k = N.toNat := by omega
      subst e
      rw [fstL, ho, he]
      exact ⟨rfl, fun j hj => rfl, rfl, rfl⟩
theorem v12_eq (N : Int) (l : List Pq) (n : Int) : (fnVc (tab [] []) Try.f12 [rlV N 0 l, .i .i64 n] [arP l] (plainIs (.b (decide (N ≤ n) && decide ((l.length : Int) ≤ 60))))) = ((decide (N ≤ n) && decide ((l.length : Int) ≤ 60)) = (decide (N ≤ n) && decide ((l.length : Int) ≤ 60))) := by kernel_rfl
theorem v12 (N : Int) (l : List Pq) (n : Int) : fnVc (tab [] []) Try.f12 [rlV N 0 l, .i .i64 n] [arP l] (plainIs (.b (decide (N ≤ n) && decide ((l.length : Int) ≤ 60)))) := by rw [v12_eq]
theorem fo38 : fnOk Try.prog 38 := ⟨Try.f38, Try.func38, by kernel_rfl, by kernel_rfl⟩
theorem fo36 : fnOk Try.prog 36 := ⟨Try.f36, Try.func36, by kernel_rfl, by kernel_rfl⟩
theorem fo35 : fnOk Try.prog 35 := ⟨Try.f35, Try.func35, by kernel_rfl, by kernel_rfl⟩
theorem fo14 : fnOk Try.prog 14 := ⟨Try.f14, Try.func14, by kernel_rfl, by kernel_rfl⟩
theorem fo12 : fnOk Try.prog 12 := ⟨Try.f12, Try.func12, by kernel_rfl, by kernel_rfl⟩
def t38 : List AV → Tab
  | [.is l, .i n] => tab [] [(0, .of (lPos l n 5))]
  | _ => tab [] []
theorem c38 : CallOk Try.prog [] 38 (genF EL [] [.is, .i] sPos) := by
  refine okT (fn := Try.f38) Try.func38 fo38 t38 (fun av => ?_) (fun av => ?_) (fun av pre rv h => ?_) (fun av pre rv h hp => ?_)
  · unfold t38; split <;> first | exact tabOk mNil | exact tabOk mNil
  · unfold t38; split <;> exact ⟨rfl, rfl⟩
  · unfold sPos at h; split at h <;> cases h
    exact ⟨rfl, fun t a e => by cases e <;> exact List.cons_ne_nil _ _⟩
  · unfold sPos at h; split at h <;> cases h
    exact v38 _ _ (hp _ (.head _))
theorem n38 (nm : List (Option AV)) : CallOk Try.prog [] 38 (genF EL nm [.is, .i] sPos) := genNm c38
def t36 : List AV → Tab
  | [.r N l, .is pre] => tab [kPos []] [(0, .of (lNx0 N l pre 6 5 4)), (2, lNx1 l pre 8 7)]
  | _ => tab [] []
theorem c36 : CallOk Try.prog [] 36 (genF EL [] [.r, .is] sNxt) := by
  refine okT (fn := Try.f36) Try.func36 fo36 t36 (fun av => ?_) (fun av => ?_) (fun av pre rv h => ?_) (fun av pre rv h hp => ?_)
  · unfold t36; split <;> first | exact tabOk (mOne (n38 _) mNil) | exact tabOk mNil
  · unfold t36; split <;> exact ⟨rfl, rfl⟩
  · unfold sNxt at h; split at h <;> cases h
    exact ⟨rfl, fun t a e => by cases e <;> exact List.cons_ne_nil _ _⟩
  · unfold sNxt at h; split at h <;> cases h
    exact v36 _ _ _ (hp _ (.head _)) (hp _ (.tail _ (.head _))) (hp _ (.tail _ (.tail _ (.head _))))
theorem n36 (nm : List (Option AV)) : CallOk Try.prog [] 36 (genF EL nm [.r, .is] sNxt) := genNm c36
def t35 : List AV → Tab
  | [.r N l] => tab [kVal' [], kAcy' []] []
  | _ => tab [] []
theorem c35 : CallOk Try.prog [] 35 (genF EL [] [.r] sWro) := by
  refine okT (fn := Try.f35) Try.func35 fo35 t35 (fun av => ?_) (fun av => ?_) (fun av pre rv h => ?_) (fun av pre rv h hp => ?_)
  · unfold t35; split <;> first | exact tabOk (mOne (n27 _) (mOne (n28 _) mNil)) | exact tabOk mNil
  · unfold t35; split <;> exact ⟨rfl, rfl⟩
  · unfold sWro at h; split at h <;> cases h
    exact ⟨rfl, fun t a e => by cases e <;> exact List.cons_ne_nil _ _⟩
  · unfold sWro at h; split at h <;> cases h
    exact v35 _ _ (hp _ (.head _))
theorem n35 (nm : List (Option AV)) : CallOk Try.prog [] 35 (genF EL nm [.r] sWro) := genNm c35
def t14 : List AV → Tab
  | [.r N l] => tab [kChk [none, none, none, some (.us (bif okP N l then befL N.toNat l else []))], kFre [none, none, none, some (.us (bif okP N l then befL N.toNat l else []))]] [(0, .of (lFs0 N l 6 7 5)), (2, lFs1 N l 24 6 7 5)]
  | _ => tab [] []
theorem c14 : CallOk Try.prog [] 14 (genF EL [] [.r] sFst) := by
  refine okT (fn := Try.f14) Try.func14 fo14 t14 (fun av => ?_) (fun av => ?_) (fun av pre rv h => ?_) (fun av pre rv h hp => ?_)
  · unfold t14; split <;> first | exact tabOk (mOne (n33 _) (mOne (n34 _) mNil)) | exact tabOk mNil
  · unfold t14; split <;> exact ⟨rfl, rfl⟩
  · unfold sFst at h; split at h <;> cases h
    exact ⟨rfl, fun t a e => by cases e <;> exact List.cons_ne_nil _ _⟩
  · unfold sFst at h; split at h <;> cases h
    exact v14 _ _ _ (hp _ (.head _)) rfl
theorem n14 (nm : List (Option AV)) : CallOk Try.prog [] 14 (genF EL nm [.r] sFst) := genNm c14
def t12 : List AV → Tab
  | [.r N l, .i n] => tab [] []
  | _ => tab [] []
theorem c12 : CallOk Try.prog [] 12 (genF EL [] [.r, .i] sFew) := by
  refine okT (fn := Try.f12) Try.func12 fo12 t12 (fun av => ?_) (fun av => ?_) (fun av pre rv h => ?_) (fun av pre rv h hp => ?_)
  · unfold t12; split <;> first | exact tabOk mNil | exact tabOk mNil
  · unfold t12; split <;> exact ⟨rfl, rfl⟩
  · unfold sFew at h; split at h <;> cases h
    exact ⟨rfl, fun t a e => by cases e <;> exact List.cons_ne_nil _ _⟩
  · unfold sFew at h; split at h <;> cases h
    exact v12 _ _ _ 
theorem n12 (nm : List (Option AV)) : CallOk Try.prog [] 12 (genF EL nm [.r, .i] sFew) := genNm c12
end Go.Proofs.Ytiokmglajigngaa
namespace Go.Proofs.Ytiokmglajigngaa.Sx
/-- The number of set bits among the first n. -/
def siz : Nat → Nat → Nat
  | 0, _ => 0
  | n + 1, m => m % 2 + siz n (m / 2)
theorem siz_add : ∀ (j k m : Nat), siz (j + k) m = siz j m + siz k (m / 2 ^ j) := by
  intro j
  induction j with
  | zero => intro k m; simp [siz]
  | succ j ih =>
    intro k m
    rw [Nat.succ_add, siz, siz, ih, Nat.div_div_eq_div_mul, Nat.pow_succ, Nat.mul_comm 2, Nat.add_assoc]
theorem siz_zero : ∀ n, siz n 0 = 0 := by
  intro n; induction n with
  | zero => rfl
  | succ n ih => rw [siz, ih]
theorem siz_lt {n : Nat} : ∀ (k m : Nat), m < 2 ^ n → siz (n + k) m = siz n m := by
  intro k m h
  rw [siz_add, Nat.div_eq_of_lt h, siz_zero, Nat.add_zero]
theorem and_cat {a c A C : Nat} (ha : a < 256) (hc : c < 256) : (a + 256 * A) &&& (c + 256 * C) = (a &&& c) + 256 * (A &&& C) := by
  have h1 : ∀ x y : Nat, x < 256 → x + 256 * y = 256 * y + x := fun x y _ => Nat.add_comm ..
  have hac : a &&& c < 2 ^ 8 := Nat.and_lt_two_pow a hc
  apply Nat.eq_of_testBit_eq
  intro i
  rw [Nat.testBit_and, h1 a A ha, h1 c C hc, h1 _ _ hac, show (256 : Nat) = 2 ^ 8 from rfl, Nat.testBit_two_pow_mul_add _ ha, Nat.testBit_two_pow_mul_add _ hc, Nat.testBit_two_pow_mul_add _ hac]
  split
  · rw [Nat.testBit_and]
  · rw [Nat.testBit_and]
/-- The masks of k bytes. -/
def rep (c : Nat) : Nat → Nat
  | 0 => 0
  | k + 1 => c + 256 * rep c k
/-- The first three steps. -/
def st1 (k x : Nat) : Nat := (x / 2 &&& rep 85 k) + (x &&& rep 85 k)
def st2 (k x : Nat) : Nat := (x / 4 &&& rep 51 k) + (x &&& rep 51 k)
def st3 (k x : Nat) : Nat := (x / 16 + x) &&& rep 15 k
def b1 (a : Nat) : Nat := (a / 2 &&& 85) + (a &&& 85)
def b2 (a : Nat) : Nat := (a / 4 &&& 51) + (a &&& 51)
def b3 (a : Nat) : Nat := (a / 16 + a) &&& 15
theorem c1 : ∀ a : Fin 256, ∀ b : Fin 2, (a.1 / 2 + 128 * b.1) &&& 85 = a.1 / 2 &&& 85 := by decide +kernel
theorem c2 : ∀ a : Fin 256, ∀ b : Fin 4, (a.1 / 4 + 64 * b.1) &&& 51 = a.1 / 4 &&& 51 := by decide +kernel
theorem c4 : ∀ a : Fin 256, b1 a.1 < 256 ∧ b2 (b1 a.1) % 16 ≤ 4 ∧ b2 (b1 a.1) / 16 ≤ 4 ∧ b3 (b2 (b1 a.1)) = siz 8 a.1 ∧ siz 8 a.1 ≤ 8 := by decide +kernel
theorem c3 : ∀ a : Fin 80, ∀ b : Fin 5, a.1 % 16 ≤ 4 → (a.1 / 16 + a.1 + 16 * b.1) &&& 15 = b3 a.1 := by decide +kernel
theorem st1_cat {a y k : Nat} (ha : a < 256) : st1 (k + 1) (a + 256 * y) = b1 a + 256 * st1 k y := by
  unfold st1 b1
  rw [show (a + 256 * y) / 2 = (a / 2 + 128 * (y % 2)) + 256 * (y / 2) by omega, rep, and_cat (by omega) (by omega), and_cat ha (by omega)]
  have := c1 ⟨a, ha⟩ ⟨y % 2, by omega⟩
  simp only at this
  rw [this]; omega
theorem st2_cat {a y k : Nat} (ha : a < 256) : st2 (k + 1) (a + 256 * y) = b2 a + 256 * st2 k y := by
  unfold st2 b2
  rw [show (a + 256 * y) / 4 = (a / 4 + 64 * (y % 4)) + 256 * (y / 4) by omega, rep, and_cat (by omega) (by omega), and_cat ha (by omega)]
  have := c2 ⟨a, ha⟩ ⟨y % 4, by omega⟩
  simp only at this
  rw [this]; omega
theorem st3_cat {a y k : Nat} (ha : a / 16 ≤ 4) (ha' : a % 16 ≤ 4) (hy : y % 16 ≤ 4) : st3 (k + 1) (a + 256 * y) = b3 a + 256 * st3 k y := by
  unfold st3
  rw [show (a + 256 * y) / 16 + (a + 256 * y) = (a / 16 + a + 16 * (y % 16)) + 256 * (y / 16 + y) by omega, rep, and_cat (by omega) (by omega)]
  have := c3 ⟨a, by omega⟩ ⟨y % 16, by omega⟩ ha'
  simp only at this
  rw [this]
/-- The steps, byte by byte. -/
theorem st_cat : ∀ (k a y : Nat), a < 256 → st2 k (st1 k y) % 16 ≤ 4 → st3 (k + 1) (st2 (k + 1) (st1 (k + 1) (a + 256 * y))) = siz 8 a + 256 * st3 k (st2 k (st1 k y)) ∧ st2 (k + 1) (st1 (k + 1) (a + 256 * y)) % 16 ≤ 4 := by
  intro k a y ha hy
  obtain ⟨h1, h2, h3, h4, h5⟩ := c4 ⟨a, ha⟩
  simp only at h1 h2 h3 h4 h5
  rw [st1_cat ha, st2_cat h1, st3_cat h3 h2 hy, h4]
  exact ⟨rfl, by omega⟩
theorem st_zero (y : Nat) : st3 0 (st2 0 (st1 0 y)) = 0 ∧ st2 0 (st1 0 y) % 16 ≤ 4 := by
  simp [st3, st2, st1, rep]
theorem siz8 {a : Nat} (ha : a < 256) : siz 8 a ≤ 8 := (c4 ⟨a, ha⟩).2.2.2.2
theorem siz64 {m : Nat} (h : m < 2 ^ 64) : ∃ a0 a1 a2 a3 a4 a5 a6 a7 : Nat, a0 < 256 ∧ a1 < 256 ∧ a2 < 256 ∧ a3 < 256 ∧ a4 < 256 ∧ a5 < 256 ∧ a6 < 256 ∧ a7 < 256 ∧ m = a0 + 256 * (a1 + 256 * (a2 + 256 * (a3 + 256 * (a4 + 256 * (a5 + 256 * (a6 + 256 * (a7 + 256 * 0))))))) :=
  ⟨m % 256, m / 256 % 256, m / 65536 % 256, m / 16777216 % 256, m / 4294967296 % 256, m / 1099511627776 % 256, m / 281474976710656 % 256, m / 72057594037927936 % 256, by omega, by omega, by omega, by omega, by omega, by omega, by omega, by omega, by omega⟩
theorem siz_low : ∀ (j a y : Nat), siz j (a + 2 ^ j * y) = siz j a := by
  intro j
  induction j with
  | zero => intro a y; rfl
  | succ j ih =>
    intro a y
    rw [siz, siz, show a + 2 ^ (j + 1) * y = a + 2 * (2 ^ j * y) by rw [Nat.pow_succ, Nat.mul_comm (2 ^ j) 2, Nat.mul_assoc]]
    have := ih (a / 2) y
    generalize 2 ^ j * y = w at *
    rw [show (a + 2 * w) % 2 = a % 2 by omega, show (a + 2 * w) / 2 = a / 2 + w by omega, this]
theorem siz_cat {a y k : Nat} (ha : a < 256) : siz (8 + k) (a + 256 * y) = siz 8 a + siz k y := by
  rw [siz_add, show (256 : Nat) = 2 ^ 8 from rfl, siz_low, show (a + 2 ^ 8 * y) / 2 ^ 8 = y by omega]
theorem div1 {a b : Nat} (h : a < 256) : (a + 256 * b) / 256 = b := by omega
theorem div2 {a b c : Nat} (h : a < 256) (h' : b < 256) : (a + 256 * (b + 256 * c)) / 65536 = c := by omega
theorem div4 {a b c d e : Nat} (h : a < 256) (h' : b < 256) (h2 : c < 256) (h3 : d < 256) : (a + 256 * (b + 256 * (c + 256 * (d + 256 * e)))) / 4294967296 = e := by omega
theorem pop_arith {c0 c1 c2 c3 c4 c5 c6 c7 : Nat} (h0 : c0 ≤ 8) (h1 : c1 ≤ 8) (h2 : c2 ≤ 8) (h3 : c3 ≤ 8) (h4 : c4 ≤ 8) (h5 : c5 ≤ 8) (h6 : c6 ≤ 8) (h7 : c7 ≤ 8) {x y z : Nat}
    (hx : x = c0 + 256 * (c1 + 256 * (c2 + 256 * (c3 + 256 * (c4 + 256 * (c5 + 256 * (c6 + 256 * (c7 + 256 * 0))))))))
    (hy : y = x + x / 256) (hz : z = y + y / 65536) : z + z / 4294967296 < 2 ^ 64 ∧ (z + z / 4294967296) % 128 = c0 + c1 + c2 + c3 + c4 + c5 + c6 + c7 := by
  rw [hx, div1 (by omega)] at hy
  have e1 : y = (c0 + c1) + 256 * ((c1 + c2) + 256 * ((c2 + c3) + 256 * ((c3 + c4) + 256 * ((c4 + c5) + 256 * ((c5 + c6) + 256 * ((c6 + c7) + 256 * c7)))))) := by omega
  rw [e1, div2 (by omega) (by omega)] at hz
  have e2 : z = (c0 + c1 + c2 + c3) + 256 * ((c1 + c2 + c3 + c4) + 256 * ((c2 + c3 + c4 + c5) + 256 * ((c3 + c4 + c5 + c6) + 256 * ((c4 + c5 + c6 + c7) + 256 * ((c5 + c6 + c7) + 256 * ((c6 + c7) + 256 * c7)))))) := by omega
  rw [e2, div4 (by omega) (by omega) (by omega) (by omega)]
  clear e1 e2 hx hy hz
  omega
/-- The count of set bits as the library finds it. -/
theorem pop_eq {m x y z : Nat} (h : m < 2 ^ 64) (hx : x = st3 8 (st2 8 (st1 8 m))) (hy : y = x + x / 256) (hz : z = y + y / 65536) : z + z / 4294967296 < 2 ^ 64 ∧ (z + z / 4294967296) % 128 = siz 64 m := by
  obtain ⟨a0, a1, a2, a3, a4, a5, a6, a7, h0, h1, h2, h3, h4, h5, h6, h7, rfl⟩ := siz64 h
  have s0 := st_zero 0
  have s7 := st_cat 0 a7 0 h7 s0.2
  have s6 := st_cat 1 a6 _ h6 s7.2
  have s5 := st_cat 2 a5 _ h5 s6.2
  have s4 := st_cat 3 a4 _ h4 s5.2
  have s3 := st_cat 4 a3 _ h3 s4.2
  have s2 := st_cat 5 a2 _ h2 s3.2
  have s1 := st_cat 6 a1 _ h1 s2.2
  have s := st_cat 7 a0 _ h0 s1.2
  rw [s1.1, s2.1, s3.1, s4.1, s5.1, s6.1, s7.1, s0.1] at s
  rw [s.1] at hx
  have := pop_arith (siz8 h0) (siz8 h1) (siz8 h2) (siz8 h3) (siz8 h4) (siz8 h5) (siz8 h6) (siz8 h7) hx hy hz
  rw [this.2]
  refine ⟨this.1, ?_⟩
  rw [show (64 : Nat) = 8 + (8 + (8 + (8 + (8 + (8 + (8 + (8 + 0))))))) from by decide, siz_cat h0, siz_cat h1, siz_cat h2, siz_cat h3, siz_cat h4, siz_cat h5, siz_cat h6, siz_cat h7, siz_zero]
  simp only [Nat.add_assoc, Nat.add_zero]
end Go.Proofs.Ytiokmglajigngaa.Sx
