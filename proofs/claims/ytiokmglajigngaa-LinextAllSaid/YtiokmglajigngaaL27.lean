/-
  A part of the proof (L27).
-/
import Derived.Test.YtiokmglajigngaaL26
namespace Go.Proofs.Ytiokmglajigngaa
open Go Go.Proofs.Ytiokmglajigngaa.Sx
set_option maxRecDepth 100000
set_option linter.unusedSimpArgs false
set_option linter.unusedVariables false

theorem wF_nil : ∀ (n : Nat) (a b : Int), wF (setF []) n a b = false := by
  intro n
  induction n with
  | zero => intro a b; rfl
  | succ n ih => intro a b; show (wF (setF []) n a b || wF (setF []) n a n && wF (setF []) n n b) = false; rw [ih, ih]; rfl
theorem ok_nil {n : Nat} (h : n ≤ 64) : okP (n : Int) [] = true := by
  rw [okP, Bool.and_eq_true]
  refine ⟨validF_iff.2 ⟨by omega, by omega, fun p hp => by cases hp⟩, ?_⟩
  rw [acy, acyF, List.all_eq_true]
  intro a _
  rw [wF_nil]; rfl
theorem idL_len (n : Nat) : (idL n).length = n := by simp [idL]
theorem idL_succ (n : Nat) : idL (n + 1) = idL n ++ [(n : Int)] := by simp [idL, List.range_succ]
theorem idL_mem {n : Nat} {x : Int} : x ∈ idL n ↔ ∃ i : Nat, i < n ∧ x = i := by
  simp only [idL, List.mem_map, List.mem_range]
  constructor
  · rintro ⟨i, h, rfl⟩; exact ⟨i, h, rfl⟩
  · rintro ⟨i, h, rfl⟩; exact ⟨i, h, rfl⟩
theorem idL_take {n : Nat} : ∀ k, k ≤ n → (idL n).take k = idL k := by
  intro k hk
  rw [idL, ← List.map_take, List.take_range, Nat.min_eq_left hk]
  rfl
theorem idL_nth {n k : Nat} (h : k < n) : nthD 0 (idL n) k = (k : Int) := by
  rw [nthD_get _ _ _ (by rw [idL_len]; exact h)]
  simp [idL]
theorem isX_id {n : Nat} (h : n ≤ 64) : isX (n : Int) [] (idL n) = true := by
  refine isX_iff.2 ⟨validF_iff.2 ⟨by omega, by omega, fun p hp => by cases hp⟩, by rw [idL_len]; rfl, ?_, fun p hp => by cases hp⟩
  rw [List.all_eq_true]
  intro i hi
  exact hasI_iff.2 (idL_mem.2 ⟨i, by simpa using hi, rfl⟩)
theorem bef_nil {n : Nat} (h : n ≤ 64) : befP (n : Int) [] = befL n [] := (befP_ok (ok_nil h)).1
theorem mask_id {n : Nat} : maskM (idL n) < 2 ^ n := maskM_lt fun x hx => by obtain ⟨i, hi, rfl⟩ := idL_mem.1 hx; omega
theorem id_fr {n k y : Nat} (hn : n ≤ 64) (hk : k ≤ n) (hy : y < n) : frR (befL n []) (maskM (idL k)) y = decide (k ≤ y) := by
  have hlt : maskM (idL k) < 2 ^ n := Nat.lt_of_lt_of_le mask_id (Nat.pow_le_pow_right (by omega) hk)
  rw [free_fr hn hy hlt, maskM_bit fun x hx => (by obtain ⟨i, hi, rfl⟩ := idL_mem.1 hx; omega)]
  by_cases h : k ≤ y
  · rw [decide_eq_true h]
    have : hasI (idL k) y = false := Bool.eq_false_iff.2 fun hm => by
      obtain ⟨i, hi, e⟩ := idL_mem.1 (hasI_iff.1 hm)
      omega
    rw [this]; rfl
  · rw [decide_eq_false h]
    have : hasI (idL k) y = true := hasI_iff.2 (idL_mem.2 ⟨y, by omega, rfl⟩)
    rw [this]; rfl
theorem sumF_none {B : List Int} {s : Nat} {c : Nat → Nat} : ∀ {x : Nat}, (∀ y, y < x → frR B s y = false) → sumF B s c x = 0 := by
  intro x
  induction x with
  | zero => intro _; rfl
  | succ x ih => intro h; rw [sumF, ih fun y hy => h y (by omega), h x (by omega)]; rfl
theorem rk_id {n : Nat} (hn : n ≤ 64) : ∀ k, k ≤ n → rkT (befL n []) (idL n) k = 0 := by
  intro k
  induction k with
  | zero => intro _; rfl
  | succ k ih =>
    intro hk
    rw [rkT, ih (by omega), idL_take k (by omega), idL_nth (by omega), Int.toNat_natCast, sumF_none fun y hy => by rw [id_fr hn (by omega) (by omega)]; exact decide_eq_false (by omega)]
theorem rf_id {n : Nat} (hn : n ≤ 64) : ∀ k, k ≤ n → rfL (n : Int) [] k = idL k := by
  intro k
  induction k with
  | zero => intro _; rfl
  | succ k ih =>
    intro hk
    rw [rfL, ih (by omega), idL_succ]
    congr 1
    rw [hdN_first (x := k) (by omega)]
    · refine List.all_eq_true.2 fun y hy => ?_
      have hy := List.mem_range.1 hy
      have : okN [] (idL k) y = false := Bool.eq_false_iff.2 fun h => (okN_iff.1 h).1 (idL_mem.2 ⟨y, hy, rfl⟩)
      rw [this]; rfl
    · refine okN_iff.2 ⟨fun h => ?_, fun a h => by cases h⟩
      obtain ⟨i, hi, e⟩ := idL_mem.1 h
      omega
theorem free_big {n : Nat} (hn : n ≤ 64) (h : 16 < n) : okD (befL n []) = false := by
  cases hb : okD (befL n [])
  · rfl
  · have h1 := free_len hn hb
    have h2 := (dsO_ok hb).2.2
    have h3 : 2 ^ 17 ≤ 2 ^ n := Nat.pow_le_pow_right (by omega) h
    omega
theorem free_ok {n : Nat} (h : n ≤ 16) : okC (befL n []) = true := by
  refine okC_iff.2 ⟨okD_small (by rw [befL_len]; exact h), ?_⟩
  rw [free_cmp0 (by omega)]
  exact fac_le ⟨n, by omega⟩
theorem v11_eq (a : Int) : (fnVc (tab [kAwk [], kCnt [], kDws [], kRnk [], kNth [], kInt []] [(0, .of (lFe (a % 20).toNat 1))]) Try.f11 [.i .u8 a] [] (plainIs .tt)) = (((20 : Int) = (0 : Int) → False) ∧
 ∃ (x : PUnit),
 (∃ (x : Nat),
 x ≤ (a % (20 : Int)).toNat ∧
 ((0 : Int) = (↑x : Int) ∧
 (0 : Nat) = x ∧ (1 : Int) = (↑((2 : Nat) ^ x) : Int) ∧ (1 : Int) = (↑(facN x) : Int) ∧ True) ∧
 ((0 : Nat) = (idL x).length ∧ (idL x).length = (0 : Nat) ∧ True) ∧ True) ∧
 ∀ (x_1 : Nat),
 x_1 ≤ (a % (20 : Int)).toNat →
 (decide ((↑x_1 : Int) < (IntKind.i64.wrap a).tmod (20 : Int)) = true →
 x_1 = (idL x_1).length ∧
 (1 : Nat) = (1 : Nat) ∧
 (x_1 + (1 : Nat)) * (8 : Nat) ≤ (140737488355328 : Nat) ∧
 x_1 + (1 : Nat) ≤ (9223372036854775807 : Nat) ∧
 ∃ (x_2 : Nat),
 x_2 ≤ (a % (20 : Int)).toNat ∧
 ((PLoop.of (lFe (a % (20 : Int)).toNat (1 : Nat))).ann x).mu x_2 <
 ((PLoop.of (lFe (a % (20 : Int)).toNat (1 : Nat))).ann x).mu x_1 ∧
 (a = a ∧
 false = false ∧
 True ∧
 x_1 + (1 : Nat) = x_2 ∧
 IntKind.i64.wrap ((↑((2 : Nat) ^ x_1) : Int) * (2 : Int)) =
 (↑((2 : Nat) ^ x_2) : Int) ∧
 IntKind.i64.wrap
 ((↑(facN x_1) : Int) * IntKind.i64.wrap ((↑x_1 : Int) + (1 : Int))) =
 (↑(facN x_2) : Int) ∧
 IntKind.i64.wrap ((↑x_1 : Int) + (1 : Int)) = (↑x_2 : Int) ∧
 a = a ∧
 IntKind.i64.wrap a = IntKind.i64.wrap a ∧
 (IntKind.i64.wrap a).tmod (20 : Int) =
 (IntKind.i64.wrap a).tmod (20 : Int) ∧
 ((IntKind.i64.wrap a).tmod (20 : Int) =
 (IntKind.i64.wrap a).tmod (20 : Int) ∧
 True) ∧
 True) ∧
 ((IntKind.i64.wrap a).tmod (20 : Int) = (IntKind.i64.wrap a).tmod (20 : Int) ∧ True) ∧
 (x_1 + (1 : Nat) = (idL x_2).length ∧
 (∀ (j : Nat),
 j < (idL x_2).length →
 (bif j.blt x_1 then nthD (0 : Int) (idL x_1) j
 else pickI [(↑x_1 : Int)] (j - x_1)) =
 nthD (0 : Int) (idL x_2) j) ∧
 True) ∧
 True) ∧
 (decide ((↑x_1 : Int) < (IntKind.i64.wrap a).tmod (20 : Int)) = false →
 ([] : List Pq).length ≤ (1099511627776 : Nat) ∧
 ([] : List Pq).length ≤ (1099511627776 : Nat) ∧
 x_1 = (idL x_1).length ∧
 ([] : List Pq).length ≤ (1099511627776 : Nat) ∧
 (mkN (nthD (0 : Int) (idL x_1)) (idL x_1).length).length ≤ (1099511627776 : Nat) ∧
 ([] : List Pq).length ≤ (1099511627776 : Nat) ∧
 (decide ((↑((2 : Nat) ^ x_1) : Int) > (65536 : Int)) = true →
 (dwnE ((IntKind.i64.wrap a).tmod (20 : Int)) [] == (4 : Int) &&
 cntE ((IntKind.i64.wrap a).tmod (20 : Int)) [] == (4 : Int) &&
 rkE ((IntKind.i64.wrap a).tmod (20 : Int)) []
 (mkN (nthD (0 : Int) (idL x_1)) (idL x_1).length) ==
 (4 : Int) &&
 ntE ((IntKind.i64.wrap a).tmod (20 : Int)) [] (0 : Int) == (4 : Int)) =
 true) ∧
 (decide ((↑((2 : Nat) ^ x_1) : Int) > (65536 : Int)) = false →
 ((dwnE ((IntKind.i64.wrap a).tmod (20 : Int)) [] == (0 : Int) &&
 cntE ((IntKind.i64.wrap a).tmod (20 : Int)) [] == (0 : Int) &&
 rkE ((IntKind.i64.wrap a).tmod (20 : Int)) []
 (mkN (nthD (0 : Int) (idL x_1)) (idL x_1).length) ==
 (0 : Int) &&
 ntE ((IntKind.i64.wrap a).tmod (20 : Int)) [] (0 : Int) == (0 : Int) &&
 (↑(dwnV ((IntKind.i64.wrap a).tmod (20 : Int)) []) : Int) ==
 (↑((2 : Nat) ^ x_1) : Int) &&
 (↑(cntV ((IntKind.i64.wrap a).tmod (20 : Int)) []) : Int) ==
 (↑(facN x_1) : Int) &&
 (↑(rkV ((IntKind.i64.wrap a).tmod (20 : Int)) []
 (mkN (nthD (0 : Int) (idL x_1)) (idL x_1).length)) :
 Int) ==
 (0 : Int)) =
 true →
 (AV.is (ntL ((IntKind.i64.wrap a).tmod (20 : Int)) [] (0 : Int))).len =
 (AV.is (ntL ((IntKind.i64.wrap a).tmod (20 : Int)) [] (0 : Int))).len) ∧
 ((dwnE ((IntKind.i64.wrap a).tmod (20 : Int)) [] == (0 : Int) &&
 cntE ((IntKind.i64.wrap a).tmod (20 : Int)) [] == (0 : Int) &&
 rkE ((IntKind.i64.wrap a).tmod (20 : Int)) []
 (mkN (nthD (0 : Int) (idL x_1)) (idL x_1).length) ==
 (0 : Int) &&
 ntE ((IntKind.i64.wrap a).tmod (20 : Int)) [] (0 : Int) == (0 : Int) &&
 (↑(dwnV ((IntKind.i64.wrap a).tmod (20 : Int)) []) : Int) ==
 (↑((2 : Nat) ^ x_1) : Int) &&
 (↑(cntV ((IntKind.i64.wrap a).tmod (20 : Int)) []) : Int) ==
 (↑(facN x_1) : Int) &&
 (↑(rkV ((IntKind.i64.wrap a).tmod (20 : Int)) []
 (mkN (nthD (0 : Int) (idL x_1)) (idL x_1).length)) :
 Int) ==
 (0 : Int)) =
 true →
 x_1 = (idL x_1).length) ∧
 ((dwnE ((IntKind.i64.wrap a).tmod (20 : Int)) [] == (0 : Int) &&
 cntE ((IntKind.i64.wrap a).tmod (20 : Int)) [] == (0 : Int) &&
 rkE ((IntKind.i64.wrap a).tmod (20 : Int)) []
 (mkN (nthD (0 : Int) (idL x_1)) (idL x_1).length) ==
 (0 : Int) &&
 ntE ((IntKind.i64.wrap a).tmod (20 : Int)) [] (0 : Int) == (0 : Int) &&
 (↑(dwnV ((IntKind.i64.wrap a).tmod (20 : Int)) []) : Int) ==
 (↑((2 : Nat) ^ x_1) : Int) &&
 (↑(cntV ((IntKind.i64.wrap a).tmod (20 : Int)) []) : Int) ==
 (↑(facN x_1) : Int) &&
 (↑(rkV ((IntKind.i64.wrap a).tmod (20 : Int)) []
 (mkN (nthD (0 : Int) (idL x_1)) (idL x_1).length)) :
 Int) ==
 (0 : Int)) =
 true →
 (mkN (nthD (0 : Int) (ntL ((IntKind.i64.wrap a).tmod (20 : Int)) [] (0 : Int)))
 (AV.is
 (ntL ((IntKind.i64.wrap a).tmod (20 : Int)) [] (0 : Int))).len).length ≤
 (1099511627776 : Nat)) ∧
 ((dwnE ((IntKind.i64.wrap a).tmod (20 : Int)) [] == (0 : Int) &&
 cntE ((IntKind.i64.wrap a).tmod (20 : Int)) [] == (0 : Int) &&
 rkE ((IntKind.i64.wrap a).tmod (20 : Int)) []
 (mkN (nthD (0 : Int) (idL x_1)) (idL x_1).length) ==
 (0 : Int) &&
 ntE ((IntKind.i64.wrap a).tmod (20 : Int)) [] (0 : Int) ==
 (0 : Int) &&
 (↑(dwnV ((IntKind.i64.wrap a).tmod (20 : Int)) []) : Int) ==
 (↑((2 : Nat) ^ x_1) : Int) &&
 (↑(cntV ((IntKind.i64.wrap a).tmod (20 : Int)) []) : Int) ==
 (↑(facN x_1) : Int) &&
 (↑(rkV ((IntKind.i64.wrap a).tmod (20 : Int)) []
 (mkN (nthD (0 : Int) (idL x_1)) (idL x_1).length)) :
 Int) ==
 (0 : Int)) =
 true →
 (mkN (nthD (0 : Int) (idL x_1)) (idL x_1).length).length ≤
 (1099511627776 : Nat)) ∧
 (dwnE ((IntKind.i64.wrap a).tmod (20 : Int)) [] == (0 : Int) &&
 cntE ((IntKind.i64.wrap a).tmod (20 : Int)) [] == (0 : Int) &&
 rkE ((IntKind.i64.wrap a).tmod (20 : Int)) []
 (mkN (nthD (0 : Int) (idL x_1)) (idL x_1).length) ==
 (0 : Int) &&
 ntE ((IntKind.i64.wrap a).tmod (20 : Int)) [] (0 : Int) ==
 (0 : Int) &&
 (↑(dwnV ((IntKind.i64.wrap a).tmod (20 : Int)) []) : Int) ==
 (↑((2 : Nat) ^ x_1) : Int) &&
 (↑(cntV ((IntKind.i64.wrap a).tmod (20 : Int)) []) : Int) ==
 (↑(facN x_1) : Int) &&
 (↑(rkV ((IntKind.i64.wrap a).tmod (20 : Int)) []
 (mkN (nthD (0 : Int) (idL x_1)) (idL x_1).length)) :
 Int) ==
 (0 : Int) &&
 decide
 (mkN
 (nthD (0 : Int)
 (ntL ((IntKind.i64.wrap a).tmod (20 : Int)) [] (0 : Int)))
 (AV.is (ntL ((IntKind.i64.wrap a).tmod (20 : Int)) [] (0 : Int))).len =
 mkN (nthD (0 : Int) (idL x_1)) (idL x_1).length)) =
 true))) := by kernel_rfl
theorem v11 (a : Int) (ha : 0 ≤ a ∧ a < 256) : fnVc (tab [kAwk [], kCnt [], kDws [], kRnk [], kNth [], kInt []] [(0, .of (lFe (a % 20).toNat 1))]) Try.f11 [.i .u8 a] [] (plainIs .tt) := by
  rw [v11_eq]
  simp only [eq_self, true_and, and_true, implies_true, imp_self, mkN_ps, mkN_rs, mkN_self, mkN_len, PLoop.of, lCnt, AV.len, lRw, lFe]
  have hn : ((a % 20).toNat : Int) = a % 20 := by omega
  have hw : (IntKind.i64.wrap a).tmod 20 = ((a % 20).toNat : Int) := by
    rw [w64_eq (by omega) (by omega), Int.tmod_eq_emod_of_nonneg ha.1, hn]
  rw [hw]
  generalize hg : (a % 20).toNat = n at *
  have hn20 : n < 20 := by omega
  have hn64 : n ≤ 64 := by omega
  refine ⟨fun h => (by cases h), (), ⟨0, Nat.zero_le _, ⟨rfl, rfl, rfl, rfl⟩, rfl, rfl⟩, fun i hi => ⟨fun hlt => ?_, fun hlt => ?_⟩⟩
  · have hi2 := lt_len hlt
    have h2p : 2 ^ (i + 1) ≤ 2 ^ 20 := Nat.pow_le_pow_right (by omega) (by omega)
    have hf := fac_le ⟨i + 1, by omega⟩
    simp only [maxI] at hf
    have hfs : facN (i + 1) = (i + 1) * facN i := rfl
    have hw1 := wrS (n := 64) (i := i) (by omega) (by omega)
    refine ⟨(idL_len i).symm, by omega, by omega, i + 1, hi2, by omega, ⟨rfl, ?_, ?_, hw1⟩, (idL_len _).symm, fun j hj => ?_⟩
    · rw [Nat.pow_succ] at h2p ⊢
      rw [w64_eq (by omega) (by omega)]; omega
    · rw [hw1, hfs, Nat.mul_comm, Int.natCast_mul, w64_eq]
      · rw [← Int.natCast_mul, Nat.mul_comm, ← hfs]; omega
      · rw [← Int.natCast_mul, Nat.mul_comm, ← hfs]; omega
    · rw [idL_succ] at hj ⊢
      have := ap1I (l := idL i) (x := (i : Int)) j hj
      rw [idL_len] at this
      exact this
  · have hi2 := ge_len hlt hi
    subst hi2
    have hP := ok_nil hn64
    have hX := isX_id hn64
    have hb := bef_nil hn64
    have hlen := idL_len i
    have h9 : ([] : List Pq).length ≤ 1099511627776 := Nat.zero_le _
    refine ⟨h9, h9, hlen.symm, h9, by rw [hlen]; omega, h9, fun hbig => ?_, fun hsm => ?_⟩
    · have hbig := of_decide_eq_true hbig
      have h16 : 16 < i := by
        refine Classical.byContradiction fun hno => ?_
        have : 2 ^ i ≤ 2 ^ 16 := Nat.pow_le_pow_right (by omega) (by omega)
        omega
      have hD := free_big hn64 h16
      have hC : okC (befL i []) = false := by rw [okC, hD]; rfl
      rw [dwnE, cntE, rkE, ntE, hP, hX, hb, errC_no hC, (dsO_no hD).2, hC]
      rfl
    · have hsm := of_decide_eq_false hsm
      have h16 : i ≤ 16 := by
        refine Classical.byContradiction fun hno => ?_
        have : 2 ^ 17 ≤ 2 ^ i := Nat.pow_le_pow_right (by omega) (by omega)
        omega
      have hC := free_ok h16
      have hD := (okC_iff.1 hC).1
      have hO : ntO (befL i []) 0 = false := by
        rw [ntO, free_cmp0 hn64, Bool.or_eq_false_iff]
        refine ⟨rfl, decide_eq_false ?_⟩
        have : ∀ n, 0 < facN n := by
          intro n
          induction n with
          | zero => exact Nat.one_pos
          | succ n ih => rw [facN]; exact Nat.mul_pos (by omega) ih
        have := this i
        omega
      have hR : Rl (i : Int) [] := ⟨hP, by rw [hb]; exact hD⟩
      have hN : ntL (i : Int) [] 0 = idL i := by
        have hf := fst_nt hR i (Nat.le_refl _)
        rw [hb] at hf
        rw [ntL, hP, hb, hC, hO]
        show (ntS (befL i []) 0 i).1 = idL i
        rw [hf]; exact rf_id hn64 i (Nat.le_refl _)
      have e1 : dwnE (i : Int) [] = 0 := by rw [dwnE, hP, hb, (dsO_ok hD).2.1]; rfl
      have e2 : cntE (i : Int) [] = 0 := by rw [cntE, hP, hb, errC_ok hC]; rfl
      have e3 : rkE (i : Int) [] (idL i) = 0 := by rw [rkE, hP, hX, hb, errC_ok hC]; rfl
      have e4 : ntE (i : Int) [] 0 = 0 := by rw [ntE, hP, hb, hC, hO]; rfl
      have e5 : dwnV (i : Int) [] = 2 ^ i := by rw [dwnV, hP, hb, (dsO_ok hD).1, cond_true, toI_len, free_len hn64 hD]
      have e6 : cntV (i : Int) [] = facN i := by rw [cntV, hP, hb, hC]; exact free_cmp0 hn64
      have e7 : rkV (i : Int) [] (idL i) = 0 := by
        rw [rkV, hP, hX, hb, hC, hlen]
        exact rk_id hn64 i (Nat.le_refl _)
      rw [e1, e2, e3, e4, e5, e6, e7, hN, hlen]
      exact ⟨fun _ => rfl, fun _ => by omega, fun _ => by omega, by simp⟩


theorem u8_rng {n : Int} (h : (Lit.int .u8 n).wf = true) : 0 ≤ n ∧ n < 256 := by
  simp only [Lit.wf, Bool.and_eq_true, decide_eq_true_eq] at h
  have h : 0 ≤ n ∧ n ≤ 255 := h
  omega
end Go.Proofs.Ytiokmglajigngaa
