/-
  A part of the proof (W15).
-/
import Derived.Test.YtiokmglajigngaaW14
namespace Go.Proofs.Ytiokmglajigngaa
open Go Go.Proofs.Ytiokmglajigngaa.Sx
set_option maxRecDepth 100000
set_option linter.unusedSimpArgs false
set_option linter.unusedVariables false
theorem befP_ok {N : Int} {l : List Pq} (h : okP N l = true) : befP N l = befL N.toNat l ∧ ((befP N l).length : Int) = N ∧ (befP N l).length = N.toNat ∧ (befP N l).length ≤ 64 ∧ validF N l = true := by
  have hv : validF N l = true := by rw [okP, Bool.and_eq_true] at h; exact h.1
  obtain ⟨h0, h1, _⟩ := validF_iff.1 hv
  have e : befP N l = befL N.toNat l := by rw [befP, h]; rfl
  rw [e, befL_len]
  exact ⟨rfl, by omega, rfl, by omega, hv⟩
theorem err_no {N : Int} {l : List Pq} (h : (errP N l != 0) = true) : okP N l = false := by
  rw [err_ok] at h; simpa using h
theorem err_yes {N : Int} {l : List Pq} (h : (errP N l != 0) = false) : okP N l = true := by
  rw [err_ok] at h; simpa using h
theorem errC_ok {B : List Int} (h : okC B = true) : errC B = 0 := by rw [errC, h]; rfl
theorem errC_no {B : List Int} (h : okC B = false) : errC B = 4 := by rw [errC, h]; rfl
theorem zero_mem {B : List Int} : 0 ∈ dsE B := by
  have h0 := dsE_zero (B := B)
  have := nthD_mem 0 h0.2
  rwa [h0.1] at this
theorem dsE_step {B : List Int} (hn : B.length ≤ 64) (hok : okD B = true) {s x : Nat} (hs : s ∈ dsE B) (hx : x < B.length) (hf : frR B s x = true) : (s ||| 2 ^ x) ∈ dsE B := by
  obtain ⟨i, hi, e⟩ := List.mem_iff_getElem.1 hs
  rw [← nthD_get 0 _ _ hi] at e
  rw [← e] at hf ⊢
  exact List.mem_of_mem_drop (dsE_next hn hok hi hx hf)
/-- A prefix whose set is a downset. -/
structure Dn (N : Int) (B : List Int) (pre : List Int) : Prop where
  rng : ∀ y ∈ pre, 0 ≤ y ∧ y < N
  mem : maskM pre ∈ dsE B
  sz : siz 64 (maskM pre) = pre.length
theorem dn_nil {N : Int} {B : List Int} : Dn N B [] := ⟨fun y h => (by cases h), zero_mem, siz_zero 64⟩
theorem mask_snoc {pre : List Int} {x : Nat} : maskM (pre ++ [(x : Int)]) = maskM pre ||| 2 ^ x := by rw [maskM_app, Int.toNat_natCast, shl_pow]
theorem dn_lt {N : Int} {B : List Int} {pre : List Int} (h : Dn N B pre) (hn : B.length ≤ 64) : maskM pre < 2 ^ B.length ∧ maskM pre < 2 ^ 64 := ⟨dsE_lt _ h.mem, lt64 (dsE_lt _ h.mem) hn⟩
theorem dn_snoc {N : Int} {B : List Int} {pre : List Int} (h : Dn N B pre) (hN : (B.length : Int) = N) (hn : B.length ≤ 64) (hok : okD B = true) {x : Nat} (hx : x < B.length) (hf : frR B (maskM pre) x = true) : Dn N B (pre ++ [(x : Int)]) := by
  refine ⟨fun y hy => ?_, ?_, ?_⟩
  · rcases List.mem_append.1 hy with h1 | h1
    · exact h.rng y h1
    · rw [List.mem_singleton.1 h1]; omega
  · rw [mask_snoc]; exact dsE_step hn hok h.mem hx hf
  · rw [mask_snoc, siz_fr (dn_lt h hn).2 (by omega) hf, h.sz]; simp
theorem dn_sum {N : Int} {B : List Int} {pre : List Int} (h : Dn N B pre) (hn : B.length ≤ 64) (hl : pre.length < B.length) : cmp B (maskM pre) = sumF B (maskM pre) (cmp B) B.length := cmp_sum hn (dn_lt h hn).1 (by rw [h.sz]; omega)
theorem dn_le {N : Int} {B : List Int} {pre : List Int} (h : Dn N B pre) (hn : B.length ≤ 64) : cmp B (maskM pre) ≤ cmp B 0 := cmp_le hn _ h.mem
theorem posI_take {a : Int} : ∀ (o : List Int) (i : Int) (k : Nat), hasI o a = true → posI a o i < i + k → a ∈ o.take k := by
  intro o
  induction o with
  | nil => intro i k h; cases h
  | cons y r ih =>
    intro i k h hlt
    have e : hasI (y :: r) a = (y == a || hasI r a) := rfl
    rw [posI] at hlt
    cases hy : (y == a)
    · rw [hy, cond_false] at hlt
      rw [e, hy, Bool.false_or] at h
      have hge : ∀ (r : List Int) (i : Int), hasI r a = true → i ≤ posI a r i := by
        intro r
        induction r with
        | nil => intro i h; cases h
        | cons z r ih =>
          intro i h
          have e : hasI (z :: r) a = (z == a || hasI r a) := rfl
          rw [posI]
          cases hz : (z == a)
          · rw [e, hz, Bool.false_or] at h
            have := ih (i + 1) h
            rw [cond_false]; omega
          · rw [cond_true]; omega
      have := hge r (i + 1) h
      cases k with
      | zero => omega
      | succ k => exact List.mem_cons_of_mem _ (ih (i + 1) k h (by omega))
    · rw [hy, cond_true] at hlt
      cases k with
      | zero => omega
      | succ k => rw [eq_of_beq hy]; exact List.mem_cons_self
theorem posI_at {x : Int} : ∀ (o : List Int) (i : Int) (k : Nat), k < o.length → x ∉ o.take k → nthD 0 o k = x → posI x o i = i + k := by
  intro o
  induction o with
  | nil => intro i k h; simp at h
  | cons y r ih =>
    intro i k hk hno hx
    rw [posI]
    cases k with
    | zero =>
      have : y = x := hx
      rw [this, beq_self_eq_true, cond_true]; omega
    | succ k =>
      have hy : y ≠ x := fun e => hno (by rw [← e]; exact List.mem_cons_self)
      rw [beq_false_of_ne hy, cond_false, ih (i + 1) k (by simpa using hk) (fun h => hno (List.mem_cons_of_mem _ h)) hx]
      omega
theorem isX_iff {N : Int} {l : List Pq} {o : List Int} : isX N l o = true ↔ validF N l = true ∧ o.length = N.toNat ∧ (List.range N.toNat).all (fun n : Nat => hasI o n) = true ∧ ∀ p ∈ l, posI p.1 o 0 < posI p.2 o 0 := by
  simp only [isX, Bool.and_eq_true, beq_iff_eq, List.all_eq_true, decide_eq_true_eq, and_assoc]
theorem isX_step {N : Int} {l : List Pq} {o : List Int} (h : isX N l o = true) {k : Nat} (hk : k < o.length) : (0 ≤ nthD 0 o k ∧ nthD 0 o k < N) ∧ okN l (o.take k) (nthD 0 o k) = true := by
  obtain ⟨hv, hl, ha, hp⟩ := isX_iff.1 h
  obtain ⟨h0, h1, hpr⟩ := validF_iff.1 hv
  obtain ⟨p1, p2⟩ := perm_in ha hl
  have hr := p1 _ (nthD_mem 0 hk)
  refine ⟨by omega, okN_iff.2 ⟨p2 k (by omega), fun a hm => ?_⟩⟩
  have h3 := hp _ hm
  have h4 := hpr _ hm
  simp only at h3 h4
  rw [posI_at o 0 k hk (p2 k (by omega)) rfl] at h3
  refine posI_take o 0 k ?_ h3
  have := List.all_eq_true.1 ha a.toNat (List.mem_range.2 (by omega))
  rwa [Int.toNat_of_nonneg h4.1] at this
theorem isX_dn {N : Int} {l : List Pq} {o : List Int} (hP : okP N l = true) (h : isX N l o = true) (hok : okD (befP N l) = true) : ∀ k, k ≤ o.length → Dn N (befP N l) (o.take k) := by
  obtain ⟨e, hN, hN2, hn, hv⟩ := befP_ok hP
  intro k
  induction k with
  | zero => intro _; exact dn_nil
  | succ k ih =>
    intro hk
    have ih := ih (by omega)
    obtain ⟨h1, h2⟩ := isX_step h (show k < o.length by omega)
    obtain ⟨x, hx⟩ := Int.eq_ofNat_of_zero_le h1.1
    have ht : o.take (k + 1) = o.take k ++ [nthD 0 o k] := take_succ' 0 (by omega)
    rw [ht, hx]
    refine dn_snoc ih hN hn hok (by omega) ?_
    rw [e, frR_ok hv ih.rng (by omega), ← hx]
    exact h2
theorem isX_fr {N : Int} {l : List Pq} {o : List Int} (hP : okP N l = true) (h : isX N l o = true) (hok : okD (befP N l) = true) {k : Nat} (hk : k < o.length) : ∃ y : Nat, nthD 0 o k = y ∧ y < (befP N l).length ∧ frR (befP N l) (maskM (o.take k)) y = true := by
  obtain ⟨e, hN, hN2, hn, hv⟩ := befP_ok hP
  obtain ⟨h1, h2⟩ := isX_step h hk
  obtain ⟨x, hx⟩ := Int.eq_ofNat_of_zero_le h1.1
  refine ⟨x, hx, by omega, ?_⟩
  rw [e, frR_ok hv (isX_dn hP h hok k (by omega)).rng (by omega), ← hx]
  exact h2
/-- What has been counted, and what is still open. -/
theorem rk_le {N : Int} {l : List Pq} {o : List Int} (hP : okP N l = true) (h : isX N l o = true) (hok : okD (befP N l) = true) : ∀ k, k ≤ o.length → rkT (befP N l) o k + cmp (befP N l) (maskM (o.take k)) ≤ cmp (befP N l) 0 := by
  obtain ⟨e, hN, hN2, hn, hv⟩ := befP_ok hP
  obtain ⟨_, hlen, _⟩ := isX_iff.1 h
  intro k
  induction k with
  | zero => intro _; rw [rkT, Nat.zero_add]; exact Nat.le_refl _
  | succ k ih =>
    intro hk
    have ih := ih (by omega)
    obtain ⟨y, hy, hyn, hf⟩ := isX_fr hP h hok (show k < o.length by omega)
    have hd := isX_dn hP h hok k (by omega)
    have ht : o.take (k + 1) = o.take k ++ [nthD 0 o k] := take_succ' 0 (by omega)
    have hs := dn_sum hd hn (by rw [List.length_take]; omega)
    have hm : sumF (befP N l) (maskM (o.take k)) (cmp (befP N l)) (y + 1) ≤ sumF (befP N l) (maskM (o.take k)) (cmp (befP N l)) (befP N l).length := sumF_mono hyn
    rw [sumF, hf, cond_true] at hm
    rw [rkT, ht, hy, mask_snoc, Int.toNat_natCast]
    omega
theorem v22_eq (N : Int) (l : List Pq) (B : List Int) : (fnVc (tab [kChk [none, none, some (.us B)], kDow [none, none, some (.us B)]] []) Try.f22 [rlV N 0 l] [arP l] (plainIs (.tup [.i .i64 (dwnV N l : Int), .i .i64 (dwnE N l)]))) = (l.length = l.length ∧
 (psK l).length ≤
 (1099511627776 : Nat) ∧
 (bif
 okP N
 (psK l) then
 befL N.toNat
 (psK l)
 else []) =
 B ∧
 ((errP N
 (psK l) !=
 (0 : Int)) =
 true →
 (0 : Int) = (↑(dwnV N l) : Int) ∧
 errP N
 (psK l) =
 dwnE N l) ∧
 ((errP N
 (psK l) !=
 (0 : Int)) =
 false →
 (AV.us B).len = (AV.us B).len ∧
 mkN (nthD (0 : Int) B) (AV.us B).len = B ∧
 (bif
 okP N
 (psK l) then
 N
 else (0 : Int)) =
 (↑B.length : Int) ∧
 B.length ≤ (64 : Nat) ∧ (↑(AV.us (dsOut B)).len : Int) = (↑(dwnV N l) : Int) ∧ dsErr B = dwnE N l)) := by kernel_rfl
theorem v22 (N : Int) (l : List Pq) (B : List Int) (hB : B = befP N l) (hl : L9 l) : fnVc (tab [kChk [none, none, some (.us B)], kDow [none, none, some (.us B)]] []) Try.f22 [rlV N 0 l] [arP l] (plainIs (.tup [.i .i64 (dwnV N l : Int), .i .i64 (dwnE N l)])) := by
  rw [v22_eq]
  simp only [eq_self, true_and, and_true, implies_true, imp_self, psK_eq, mkN_ps, mkN_rs, mkN_self, mkN_len, PLoop.of, lCnt, AV.len, lRk0, lRk1, lNt0, lNt1]
  subst hB
  refine ⟨hl, rfl, fun h => ?_, fun h => ?_⟩
  · have hP := err_no h
    rw [dwnV, dwnE, hP]
    exact ⟨rfl, rfl⟩
  · have hP := err_yes h
    obtain ⟨e, hN, hN2, hn, hv⟩ := befP_ok hP
    refine ⟨by rw [hP, hN]; rfl, hn, ?_⟩
    rw [dwnV, dwnE, hP, cond_true, cond_true]
    exact ⟨rfl, rfl⟩
theorem v29e_eq (N : Int) (l : List Pq) (o : List Int) (B : List Int) : (fnVc (tab [kChk [none, none, none, some (.us B)], kIs [], kCmE [none, none, none, some (.us B)], kFre [none, none, none, some (.us B)]] []) Try.f29 [rlV N 0 l, .sl 1 o.length] [arP l, arI o] (plainIs (.tup [.i .i64 (rkV N l o : Int), .i .i64 (rkE N l o)]))) = (l.length = l.length ∧
 (psK l).length ≤
 (1099511627776 : Nat) ∧
 (bif
 okP N
 (psK l) then
 befL N.toNat
 (psK l)
 else []) =
 B ∧
 ((errP N
 (psK l) !=
 (0 : Int)) =
 true →
 (0 : Int) = (↑(rkV N l o) : Int) ∧
 errP N
 (psK l) =
 rkE N l o) ∧
 ((errP N
 (psK l) !=
 (0 : Int)) =
 false →
 l.length = l.length ∧
 o.length = o.length ∧
 (psK l).length ≤
 (1099511627776 : Nat) ∧
 (mkN (nthD (0 : Int) o) o.length).length ≤ (1099511627776 : Nat) ∧
 ((!isX N
 (psK l)
 (mkN (nthD (0 : Int) o) o.length)) =
 true →
 (0 : Int) = (↑(rkV N l o) : Int) ∧ (5 : Int) = rkE N l o) ∧
 ((!isX N
 (psK l)
 (mkN (nthD (0 : Int) o) o.length)) =
 false →
 (AV.us B).len = (AV.us B).len ∧
 mkN (nthD (0 : Int) B) (AV.us B).len = B ∧
 (bif
 okP N
 (psK l) then
 N
 else (0 : Int)) =
 (↑B.length : Int) ∧
 B.length ≤ (64 : Nat) ∧
 okC B = false ∧
 (((4 : Int) != (0 : Int)) = true →
 (0 : Int) = (↑(rkV N l o) : Int) ∧ (4 : Int) = rkE N l o) ∧
 (((4 : Int) != (0 : Int)) = false → False)))) := by kernel_rfl
theorem v29e (N : Int) (l : List Pq) (o : List Int) (B : List Int) (hB : B = befP N l) (hl : L9 l) (ho : L9 o) (hc : okC B = false) : fnVc (tab [kChk [none, none, none, some (.us B)], kIs [], kCmE [none, none, none, some (.us B)], kFre [none, none, none, some (.us B)]] []) Try.f29 [rlV N 0 l, .sl 1 o.length] [arP l, arI o] (plainIs (.tup [.i .i64 (rkV N l o : Int), .i .i64 (rkE N l o)])) := by
  rw [v29e_eq]
  simp only [eq_self, true_and, and_true, implies_true, imp_self, psK_eq, mkN_ps, mkN_rs, mkN_self, mkN_len, PLoop.of, lCnt, AV.len, lRk0, lRk1, lNt0, lNt1]
  subst hB
  refine ⟨hl, rfl, fun h => ?_, fun h => ⟨hl, ho, fun hx => ?_, fun hx => ?_⟩⟩
  · have hP := err_no h
    rw [rkV, rkE, hP]
    exact ⟨rfl, rfl⟩
  · have hP := err_yes h
    have hx : isX N l o = false := by simpa using hx
    rw [rkV, rkE, hP, hx]
    exact ⟨rfl, rfl⟩
  · have hP := err_yes h
    have hx : isX N l o = true := by simpa using hx
    obtain ⟨e, hN, hN2, hn, hv⟩ := befP_ok hP
    refine ⟨by rw [hP, hN]; rfl, hn, hc, fun _ => ?_, fun h => (by cases h)⟩
    rw [rkV, rkE, hP, hx, hc, errC_no hc]
    exact ⟨rfl, rfl⟩
theorem v29_eq (N : Int) (l : List Pq) (o : List Int) (B : List Int) : (fnVc (tab [kChk [none, none, none, some (.us B)], kIs [], kCmp [none, none, none, some (.us B)], kFre [none, none, none, some (.us B)]] [(0, .of (lRk0 B o)), (2, lRk1 B o)]) Try.f29 [rlV N 0 l, .sl 1 o.length] [arP l, arI o] (plainIs (.tup [.i .i64 (rkV N l o : Int), .i .i64 (rkE N l o)]))) = (l.length = l.length ∧
 (psK l).length ≤
 (1099511627776 : Nat) ∧
 (bif
 okP N
 (psK l) then
 befL N.toNat
 (psK l)
 else []) =
 B ∧
 ((errP N
 (psK l) !=
 (0 : Int)) =
 true →
 (0 : Int) = (↑(rkV N l o) : Int) ∧
 errP N
 (psK l) =
 rkE N l o) ∧
 ((errP N
 (psK l) !=
 (0 : Int)) =
 false →
 l.length = l.length ∧
 o.length = o.length ∧
 (psK l).length ≤
 (1099511627776 : Nat) ∧
 (mkN (nthD (0 : Int) o) o.length).length ≤ (1099511627776 : Nat) ∧
 ((!isX N
 (psK l)
 (mkN (nthD (0 : Int) o) o.length)) =
 true →
 (0 : Int) = (↑(rkV N l o) : Int) ∧ (5 : Int) = rkE N l o) ∧
 ((!isX N
 (psK l)
 (mkN (nthD (0 : Int) o) o.length)) =
 false →
 (AV.us B).len = (AV.us B).len ∧
 mkN (nthD (0 : Int) B) (AV.us B).len = B ∧
 (bif
 okP N
 (psK l) then
 N
 else (0 : Int)) =
 (↑B.length : Int) ∧
 B.length ≤ (64 : Nat) ∧
 okC B = true ∧
 (((0 : Int) != (0 : Int)) = true →
 (0 : Int) = (↑(rkV N l o) : Int) ∧ (0 : Int) = rkE N l o) ∧
 (((0 : Int) != (0 : Int)) = false →
 ∃ (x : PUnit),
 (∃ (x : Nat),
 x ≤ o.length ∧
 ((0 : Int) = (↑x : Int) ∧
 (0 : Int) = (↑(rkT B o x) : Int) ∧
 (0 : Int) = (↑(maskM (List.take x o)) : Int) ∧ True) ∧
 True) ∧
 ∀ (x_1 : Nat),
 x_1 ≤ o.length →
 (decide ((↑x_1 : Int) < (↑o.length : Int)) = true →
 ((0 : Int) ≤ (↑x_1 : Int) ∧ (↑x_1 : Int) < (↑o.length : Int)) ∧
 x_1 < o.length ∧
 ∃ (x_2 : Nat),
 (∃ (x : Nat),
 ((↑x : Int) ≤ nthD (0 : Int) o x_2 ∧ x_2 < o.length) ∧
 ((0 : Int) = (↑x : Int) ∧
 (↑(rkT B o x_1) : Int) =
 (↑(rkT B o x_2 +
 sumF B (maskM (List.take x_2 o)) (cmp B) x) :
 Int) ∧
 True) ∧
 True) ∧
 ∀ (x_3 : Nat),
 (↑x_3 : Int) ≤ nthD (0 : Int) o x_2 ∧ x_2 < o.length →
 (decide ((↑x_3 : Int) < nthD (0 : Int) o x_1) = true →
 (AV.us B).len = (AV.us B).len ∧
 mkN (nthD (0 : Int) B) (AV.us B).len = B ∧
 ((0 : Int) ≤ (↑x_3 : Int) ∧
 (↑x_3 : Int) < (64 : Int)) ∧
 (↑x_3 : Int) + (1 : Int) ≤ (↑B.length : Int) ∧
 (frR B (↑(maskM (List.take x_1 o)) : Int)
 (↑x_3 : Int) =
 true →
 ((0 : Int) ≤ (↑x_3 : Int) ∧
 (↑x_3 : Int) ≤
 (↑IntKind.u64.bits : Int)) ∧
 ∃ (x : Nat),
 ((↑x : Int) ≤ nthD (0 : Int) o x_2 ∧
 x_2 < o.length) ∧
 ((lRk1 B o).ann x_2).mu x <
 ((lRk1 B o).ann x_2).mu x_3 ∧
 ((N = N ∧ l.length = l.length) ∧
 o.length = o.length ∧
 True ∧
 (0 : Int) = (0 : Int) ∧
 (0 : Int) = (0 : Int) ∧
 True ∧
 (0 : Int) =
 (0 : Int) ∧
 True ∧
 IntKind.i64.wrap
 ((↑(rkT B o
 x_2 +
 sumF
 B
 (maskM
 (List.take
 x_2
 o))
 (cmp
 B)
 x_3) :
 Int) +
 val0
 (cmM B
 (dsE
 B)
 (bits
 BinOp.or
 IntKind.u64
 (↑(maskM
 (List.take
 x_1
 o)) :
 Int)
 (IntKind.u64.wrap
 ((1 :
 Int) *
 (2 :
 Int) ^
 x_3))))) =
 (↑(rkT B o
 x_2 +
 sumF B
 (maskM
 (List.take
 x_2
 o))
 (cmp
 B)
 x) :
 Int) ∧
 (↑(maskM
 (List.take
 x_1
 o)) :
 Int) =
 (↑(maskM
 (List.take
 x_1
 o)) :
 Int) ∧
 nthD (0 : Int)
 o x_1 =
 nthD
 (0 :
 Int)
 o x_1 ∧
 ((((bif
 okP
 N
 (mkN
 (fun
 (j :
 Nat) =>
 ((nthD
 ((0 :
 Int),
 (0 :
 Int))
 l
 j).fst,
 (nthD
 ((0 :
 Int),
 (0 :
 Int))
 l
 j).snd))
 l.length) then
 N
 else
 (0 :
 Int)) =
 bif
 okP
 N
 (mkN
 (fun
 (j :
 Nat) =>
 ((nthD
 ((0 :
 Int),
 (0 :
 Int))
 l
 j).fst,
 (nthD
 ((0 :
 Int),
 (0 :
 Int))
 l
 j).snd))
 l.length) then
 N
 else
 (0 :
 Int)) ∧
 (AV.us
 B).len =
 (AV.us
 B).len) ∧
 errP N
 (mkN
 (fun
 (j :
 Nat) =>
 ((nthD
 ((0 :
 Int),
 (0 :
 Int))
 l
 j).fst,
 (nthD
 ((0 :
 Int),
 (0 :
 Int))
 l
 j).snd))
 l.length) =
 errP N
 (mkN
 (fun
 (j :
 Nat) =>
 ((nthD
 ((0 :
 Int),
 (0 :
 Int))
 l
 j).fst,
 (nthD
 ((0 :
 Int),
 (0 :
 Int))
 l
 j).snd))
 l.length)) ∧
 (N = N ∧
 l.length =
 l.length) ∧
 ((((bif
 okP
 N
 (mkN
 (fun
 (j :
 Nat) =>
 ((nthD
 ((0 :
 Int),
 (0 :
 Int))
 l
 j).fst,
 (nthD
 ((0 :
 Int),
 (0 :
 Int))
 l
 j).snd))
 l.length) then
 N
 else
 (0 :
 Int)) =
 bif
 okP
 N
 (mkN
 (fun
 (j :
 Nat) =>
 ((nthD
 ((0 :
 Int),
 (0 :
 Int))
 l
 j).fst,
 (nthD
 ((0 :
 Int),
 (0 :
 Int))
 l
 j).snd))
 l.length) then
 N
 else
 (0 :
 Int)) ∧
 (AV.us
 B).len =
 (AV.us
 B).len) ∧
 errP
 N
 (mkN
 (fun
 (j :
 Nat) =>
 ((nthD
 ((0 :
 Int),
 (0 :
 Int))
 l
 j).fst,
 (nthD
 ((0 :
 Int),
 (0 :
 Int))
 l
 j).snd))
 l.length) =
 errP
 N
 (mkN
 (fun
 (j :
 Nat) =>
 ((nthD
 ((0 :
 Int),
 (0 :
 Int))
 l
 j).fst,
 (nthD
 ((0 :
 Int),
 (0 :
 Int))
 l
 j).snd))
 l.length)) ∧
 (((bif
 okP
 N
 (mkN
 (fun
 (j :
 Nat) =>
 ((nthD
 ((0 :
 Int),
 (0 :
 Int))
 l
 j).fst,
 (nthD
 ((0 :
 Int),
 (0 :
 Int))
 l
 j).snd))
 l.length) then
 N
 else
 (0 :
 Int)) =
 bif
 okP
 N
 (mkN
 (fun
 (j :
 Nat) =>
 ((nthD
 ((0 :
 Int),
 (0 :
 Int))
 l
 j).fst,
 (nthD
 ((0 :
 Int),
 (0 :
 Int))
 l
 j).snd))
 l.length) then
 N
 else
 (0 :
 Int)) ∧
 (AV.us
 B).len =
 (AV.us
 B).len) ∧
 errP
 N
 (mkN
 (fun
 (j :
 Nat) =>
 ((nthD
 ((0 :
 Int),
 (0 :
 Int))
 l
 j).fst,
 (nthD
 ((0 :
 Int),
 (0 :
 Int))
 l
 j).snd))
 l.length) =
 errP
 N
 (mkN
 (fun
 (j :
 Nat) =>
 ((nthD
 ((0 :
 Int),
 (0 :
 Int))
 l
 j).fst,
 (nthD
 ((0 :
 Int),
 (0 :
 Int))
 l
 j).snd))
 l.length) ∧
 errP
 N
 (mkN
 (fun
 (j :
 Nat) =>
 ((nthD
 ((0 :
 Int),
 (0 :
 Int))
 l
 j).fst,
 (nthD
 ((0 :
 Int),
 (0 :
 Int))
 l
 j).snd))
 l.length) =
 errP
 N
 (mkN
 (fun
 (j :
 Nat) =>
 ((nthD
 ((0 :
 Int),
 (0 :
 Int))
 l
 j).fst,
 (nthD
 ((0 :
 Int),
 (0 :
 Int))
 l
 j).snd))
 l.length) ∧
 false =
 false ∧
 (N =
 N ∧
 l.length =
 l.length) ∧
 o.length =
 o.length ∧
 isX
 N
 (mkN
 (fun
 (j :
 Nat) =>
 ((nthD
 ((0 :
 Int),
 (0 :
 Int))
 l
 j).fst,
 (nthD
 ((0 :
 Int),
 (0 :
 Int))
 l
 j).snd))
 l.length)
 (mkN
 (nthD
 (0 :
 Int)
 o)
 o.length) =
 isX
 N
 (mkN
 (fun
 (j :
 Nat) =>
 ((nthD
 ((0 :
 Int),
 (0 :
 Int))
 l
 j).fst,
 (nthD
 ((0 :
 Int),
 (0 :
 Int))
 l
 j).snd))
 l.length)
 (mkN
 (nthD
 (0 :
 Int)
 o)
 o.length) ∧
 false =
 false ∧
 (True ∧
 (0 :
 Int) =
 (0 :
 Int)) ∧
 (((bif
 okP
 N
 (mkN
 (fun
 (j :
 Nat) =>
 ((nthD
 ((0 :
 Int),
 (0 :
 Int))
 l
 j).fst,
 (nthD
 ((0 :
 Int),
 (0 :
 Int))
 l
 j).snd))
 l.length) then
 N
 else
 (0 :
 Int)) =
 bif
 okP
 N
 (mkN
 (fun
 (j :
 Nat) =>
 ((nthD
 ((0 :
 Int),
 (0 :
 Int))
 l
 j).fst,
 (nthD
 ((0 :
 Int),
 (0 :
 Int))
 l
 j).snd))
 l.length) then
 N
 else
 (0 :
 Int)) ∧
 (AV.us
 B).len =
 (AV.us
 B).len) ∧
 (True ∧
 (0 :
 Int) =
 (0 :
 Int)) ∧
 True ∧
 (0 :
 Int) =
 (0 :
 Int) ∧
 (0 :
 Int) =
 (0 :
 Int) ∧
 false =
 false ∧
 o.length =
 o.length ∧
 (↑o.length :
 Int) =
 (↑o.length :
 Int) ∧
 (↑x_1 :
 Int) =
 (↑x_1 :
 Int) ∧
 true =
 true ∧
 x_1 =
 x_1 ∧
 nthD
 (0 :
 Int)
 o
 x_1 =
 nthD
 (0 :
 Int)
 o
 x_1 ∧
 nthD
 (0 :
 Int)
 o
 x_1 =
 nthD
 (0 :
 Int)
 o
 x_1 ∧
 IntKind.i64.wrap
 ((↑x_3 :
 Int) +
 (1 :
 Int)) =
 (↑x :
 Int) ∧
 True) ∧
 (l.length = l.length ∧
 (∀ (j : Nat),
 j < l.length →
 (nthD
 ((0 : Int),
 (0 : Int))
 l j).fst =
 (nthD
 ((0 : Int),
 (0 : Int))
 l j).fst) ∧
 (∀ (j : Nat),
 j < l.length →
 (nthD
 ((0 : Int),
 (0 : Int))
 l j).snd =
 (nthD
 ((0 : Int),
 (0 : Int))
 l j).snd) ∧
 True) ∧
 (o.length = o.length ∧
 (∀ (j : Nat),
 j < o.length →
 nthD (0 : Int) o j =
 nthD (0 : Int) o
 j) ∧
 True) ∧
 (N = N ∧
 l.length = l.length) ∧
 ((AV.us B).len =
 (AV.us B).len ∧
 (∀ (j : Nat),
 j < (AV.us B).len →
 nthD (0 : Int) B
 j =
 nthD (0 : Int) B
 j) ∧
 True) ∧
 (((bif
 okP N
 (mkN
 (fun
 (j :
 Nat) =>
 ((nthD
 ((0 :
 Int),
 (0 :
 Int))
 l
 j).fst,
 (nthD
 ((0 :
 Int),
 (0 :
 Int))
 l
 j).snd))
 l.length) then
 N
 else (0 : Int)) =
 bif
 okP N
 (mkN
 (fun
 (j :
 Nat) =>
 ((nthD
 ((0 :
 Int),
 (0 :
 Int))
 l
 j).fst,
 (nthD
 ((0 :
 Int),
 (0 :
 Int))
 l
 j).snd))
 l.length) then
 N
 else (0 : Int)) ∧
 (AV.us B).len =
 (AV.us B).len) ∧
 (∀ (x : Int),
 cmM B (dsE B) x =
 cmM B (dsE B) x) ∧
 True) ∧
 (frR B (↑(maskM (List.take x_1 o)) : Int)
 (↑x_3 : Int) =
 false →
 ∃ (x : Nat),
 ((↑x : Int) ≤ nthD (0 : Int) o x_2 ∧
 x_2 < o.length) ∧
 ((lRk1 B o).ann x_2).mu x <
 ((lRk1 B o).ann x_2).mu x_3 ∧
 ((N = N ∧ l.length = l.length) ∧
 o.length = o.length ∧
 True ∧
 (0 : Int) = (0 : Int) ∧
 (0 : Int) = (0 : Int) ∧
 True ∧
 (0 : Int) = (0 : Int) ∧
 True ∧
 (↑(rkT B o x_2 +
 sumF B
 (maskM
 (List.take
 x_2
 o))
 (cmp B)
 x_3) :
 Int) =
 (↑(rkT B o x_2 +
 sumF B
 (maskM
 (List.take
 x_2
 o))
 (cmp B)
 x) :
 Int) ∧
 (↑(maskM
 (List.take
 x_1
 o)) :
 Int) =
 (↑(maskM
 (List.take
 x_1
 o)) :
 Int) ∧
 nthD (0 : Int) o
 x_1 =
 nthD
 (0 : Int)
 o x_1 ∧
 ((((bif
 okP
 N
 (mkN
 (fun
 (j :
 Nat) =>
 ((nthD
 ((0 :
 Int),
 (0 :
 Int))
 l
 j).fst,
 (nthD
 ((0 :
 Int),
 (0 :
 Int))
 l
 j).snd))
 l.length) then
 N
 else
 (0 :
 Int)) =
 bif
 okP
 N
 (mkN
 (fun
 (j :
 Nat) =>
 ((nthD
 ((0 :
 Int),
 (0 :
 Int))
 l
 j).fst,
 (nthD
 ((0 :
 Int),
 (0 :
 Int))
 l
 j).snd))
 l.length) then
 N
 else
 (0 :
 Int)) ∧
 (AV.us
 B).len =
 (AV.us
 B).len) ∧
 errP N
 (mkN
 (fun
 (j :
 Nat) =>
 ((nthD
 ((0 :
 Int),
 (0 :
 Int))
 l
 j).fst,
 (nthD
 ((0 :
 Int),
 (0 :
 Int))
 l
 j).snd))
 l.length) =
 errP N
 (mkN
 (fun
 (j :
 Nat) =>
 ((nthD
 ((0 :
 Int),
 (0 :
 Int))
 l
 j).fst,
 (nthD
 ((0 :
 Int),
 (0 :
 Int))
 l
 j).snd))
 l.length)) ∧
 (N = N ∧
 l.length =
 l.length) ∧
 ((((bif
 okP
 N
 (mkN
 (fun
 (j :
 Nat) =>
 ((nthD
 ((0 :
 Int),
 (0 :
 Int))
 l
 j).fst,
 (nthD
 ((0 :
 Int),
 (0 :
 Int))
 l
 j).snd))
 l.length) then
 N
 else
 (0 :
 Int)) =
 bif
 okP
 N
 (mkN
 (fun
 (j :
 Nat) =>
 ((nthD
 ((0 :
 Int),
 (0 :
 Int))
 l
 j).fst,
 (nthD
 ((0 :
 Int),
 (0 :
 Int))
 l
 j).snd))
 l.length) then
 N
 else
 (0 :
 Int)) ∧
 (AV.us
 B).len =
 (AV.us
 B).len) ∧
 errP N
 (mkN
 (fun
 (j :
 Nat) =>
 ((nthD
 ((0 :
 Int),
 (0 :
 Int))
 l
 j).fst,
 (nthD
 ((0 :
 Int),
 (0 :
 Int))
 l
 j).snd))
 l.length) =
 errP
 N
 (mkN
 (fun
 (j :
 Nat) =>
 ((nthD
 ((0 :
 Int),
 (0 :
 Int))
 l
 j).fst,
 (nthD
 ((0 :
 Int),
 (0 :
 Int))
 l
 j).snd))
 l.length)) ∧
 (((bif
 okP
 N
 (mkN
 (fun
 (j :
 Nat) =>
 ((nthD
 ((0 :
 Int),
 (0 :
 Int))
 l
 j).fst,
 (nthD
 ((0 :
 Int),
 (0 :
 Int))
 l
 j).snd))
 l.length) then
 N
 else
 (0 :
 Int)) =
 bif
 okP
 N
 (mkN
 (fun
 (j :
 Nat) =>
 ((nthD
 ((0 :
 Int),
 (0 :
 Int))
 l
 j).fst,
 (nthD
 ((0 :
 Int),
 (0 :
 Int))
 l
 j).snd))
 l.length) then
 N
 else
 (0 :
 Int)) ∧
 (AV.us
 B).len =
 (AV.us
 B).len) ∧
 errP N
 (mkN
 (fun
 (j :
 Nat) =>
 ((nthD
 ((0 :
 Int),
 (0 :
 Int))
 l
 j).fst,
 (nthD
 ((0 :
 Int),
 (0 :
 Int))
 l
 j).snd))
 l.length) =
 errP
 N
 (mkN
 (fun
 (j :
 Nat) =>
 ((nthD
 ((0 :
 Int),
 (0 :
 Int))
 l
 j).fst,
 (nthD
 ((0 :
 Int),
 (0 :
 Int))
 l
 j).snd))
 l.length) ∧
 errP
 N
 (mkN
 (fun
 (j :
 Nat) =>
 ((nthD
 ((0 :
 Int),
 (0 :
 Int))
 l
 j).fst,
 (nthD
 ((0 :
 Int),
 (0 :
 Int))
 l
 j).snd))
 l.length) =
 errP
 N
 (mkN
 (fun
 (j :
 Nat) =>
 ((nthD
 ((0 :
 Int),
 (0 :
 Int))
 l
 j).fst,
 (nthD
 ((0 :
 Int),
 (0 :
 Int))
 l
 j).snd))
 l.length) ∧
 false =
 false ∧
 (N =
 N ∧
 l.length =
 l.length) ∧
 o.length =
 o.length ∧
 isX
 N
 (mkN
 (fun
 (j :
 Nat) =>
 ((nthD
 ((0 :
 Int),
 (0 :
 Int))
 l
 j).fst,
 (nthD
 ((0 :
 Int),
 (0 :
 Int))
 l
 j).snd))
 l.length)
 (mkN
 (nthD
 (0 :
 Int)
 o)
 o.length) =
 isX
 N
 (mkN
 (fun
 (j :
 Nat) =>
 ((nthD
 ((0 :
 Int),
 (0 :
 Int))
 l
 j).fst,
 (nthD
 ((0 :
 Int),
 (0 :
 Int))
 l
 j).snd))
 l.length)
 (mkN
 (nthD
 (0 :
 Int)
 o)
 o.length) ∧
 false =
 false ∧
 (True ∧
 (0 :
 Int) =
 (0 :
 Int)) ∧
 (((bif
 okP
 N
 (mkN
 (fun
 (j :
 Nat) =>
 ((nthD
 ((0 :
 Int),
 (0 :
 Int))
 l
 j).fst,
 (nthD
 ((0 :
 Int),
 (0 :
 Int))
 l
 j).snd))
 l.length) then
 N
 else
 (0 :
 Int)) =
 bif
 okP
 N
 (mkN
 (fun
 (j :
 Nat) =>
 ((nthD
 ((0 :
 Int),
 (0 :
 Int))
 l
 j).fst,
 (nthD
 ((0 :
 Int),
 (0 :
 Int))
 l
 j).snd))
 l.length) then
 N
 else
 (0 :
 Int)) ∧
 (AV.us
 B).len =
 (AV.us
 B).len) ∧
 (True ∧
 (0 :
 Int) =
 (0 :
 Int)) ∧
 True ∧
 (0 :
 Int) =
 (0 :
 Int) ∧
 (0 :
 Int) =
 (0 :
 Int) ∧
 false =
 false ∧
 o.length =
 o.length ∧
 (↑o.length :
 Int) =
 (↑o.length :
 Int) ∧
 (↑x_1 :
 Int) =
 (↑x_1 :
 Int) ∧
 true =
 true ∧
 x_1 =
 x_1 ∧
 nthD
 (0 :
 Int)
 o
 x_1 =
 nthD
 (0 :
 Int)
 o
 x_1 ∧
 nthD
 (0 :
 Int)
 o
 x_1 =
 nthD
 (0 :
 Int)
 o
 x_1 ∧
 IntKind.i64.wrap
 ((↑x_3 :
 Int) +
 (1 :
 Int)) =
 (↑x :
 Int) ∧
 True) ∧
 (l.length = l.length ∧
 (∀ (j : Nat),
 j < l.length →
 (nthD
 ((0 : Int),
 (0 : Int))
 l j).fst =
 (nthD
 ((0 : Int),
 (0 : Int))
 l j).fst) ∧
 (∀ (j : Nat),
 j < l.length →
 (nthD
 ((0 : Int),
 (0 : Int))
 l j).snd =
 (nthD
 ((0 : Int),
 (0 : Int))
 l j).snd) ∧
 True) ∧
 (o.length = o.length ∧
 (∀ (j : Nat),
 j < o.length →
 nthD (0 : Int) o j =
 nthD (0 : Int) o j) ∧
 True) ∧
 (N = N ∧ l.length = l.length) ∧
 ((AV.us B).len =
 (AV.us B).len ∧
 (∀ (j : Nat),
 j < (AV.us B).len →
 nthD (0 : Int) B j =
 nthD (0 : Int) B
 j) ∧
 True) ∧
 (((bif
 okP N
 (mkN
 (fun
 (j :
 Nat) =>
 ((nthD
 ((0 :
 Int),
 (0 :
 Int))
 l
 j).fst,
 (nthD
 ((0 :
 Int),
 (0 :
 Int))
 l
 j).snd))
 l.length) then
 N
 else (0 : Int)) =
 bif
 okP N
 (mkN
 (fun
 (j :
 Nat) =>
 ((nthD
 ((0 :
 Int),
 (0 :
 Int))
 l
 j).fst,
 (nthD
 ((0 :
 Int),
 (0 :
 Int))
 l
 j).snd))
 l.length) then
 N
 else (0 : Int)) ∧
 (AV.us B).len =
 (AV.us B).len) ∧
 (∀ (x : Int),
 cmM B (dsE B) x =
 cmM B (dsE B) x) ∧
 True)) ∧
 (decide ((↑x_3 : Int) < nthD (0 : Int) o x_1) = false →
 ((0 : Int) ≤ nthD (0 : Int) o x_1 ∧
 nthD (0 : Int) o x_1 ≤ (↑IntKind.u64.bits : Int)) ∧
 ∃ (x_4 : Nat),
 x_4 ≤ o.length ∧
 ((PLoop.of (lRk0 B o)).ann x).mu x_4 <
 ((PLoop.of (lRk0 B o)).ann x).mu x_1 ∧
 ((N = N ∧ l.length = l.length) ∧
 o.length = o.length ∧
 True ∧
 (0 : Int) = (0 : Int) ∧
 (0 : Int) = (0 : Int) ∧
 True ∧
 (0 : Int) = (0 : Int) ∧
 True ∧
 (↑(rkT B o x_2 +
 sumF B
 (maskM
 (List.take x_2
 o))
 (cmp B) x_3) :
 Int) =
 (↑(rkT B o x_4) : Int) ∧
 bits BinOp.or IntKind.u64
 (↑(maskM
 (List.take x_1
 o)) :
 Int)
 (IntKind.u64.wrap
 ((1 : Int) *
 (2 : Int) ^
 (nthD (0 : Int)
 o
 x_1).toNat)) =
 (↑(maskM
 (List.take x_4
 o)) :
 Int) ∧
 ((((bif
 okP N
 (mkN
 (fun
 (j :
 Nat) =>
 ((nthD
 ((0 :
 Int),
 (0 :
 Int))
 l
 j).fst,
 (nthD
 ((0 :
 Int),
 (0 :
 Int))
 l
 j).snd))
 l.length) then
 N
 else (0 : Int)) =
 bif
 okP N
 (mkN
 (fun
 (j :
 Nat) =>
 ((nthD
 ((0 :
 Int),
 (0 :
 Int))
 l
 j).fst,
 (nthD
 ((0 :
 Int),
 (0 :
 Int))
 l
 j).snd))
 l.length) then
 N
 else (0 : Int)) ∧
 (AV.us B).len =
 (AV.us B).len) ∧
 errP N
 (mkN
 (fun
 (j : Nat) =>
 ((nthD
 ((0 :
 Int),
 (0 :
 Int))
 l
 j).fst,
 (nthD
 ((0 :
 Int),
 (0 :
 Int))
 l
 j).snd))
 l.length) =
 errP N
 (mkN
 (fun
 (j : Nat) =>
 ((nthD
 ((0 :
 Int),
 (0 :
 Int))
 l
 j).fst,
 (nthD
 ((0 :
 Int),
 (0 :
 Int))
 l
 j).snd))
 l.length)) ∧
 (N = N ∧
 l.length =
 l.length) ∧
 ((((bif
 okP N
 (mkN
 (fun
 (j :
 Nat) =>
 ((nthD
 ((0 :
 Int),
 (0 :
 Int))
 l
 j).fst,
 (nthD
 ((0 :
 Int),
 (0 :
 Int))
 l
 j).snd))
 l.length) then
 N
 else
 (0 : Int)) =
 bif
 okP N
 (mkN
 (fun
 (j :
 Nat) =>
 ((nthD
 ((0 :
 Int),
 (0 :
 Int))
 l
 j).fst,
 (nthD
 ((0 :
 Int),
 (0 :
 Int))
 l
 j).snd))
 l.length) then
 N
 else
 (0 : Int)) ∧
 (AV.us B).len =
 (AV.us
 B).len) ∧
 errP N
 (mkN
 (fun
 (j :
 Nat) =>
 ((nthD
 ((0 :
 Int),
 (0 :
 Int))
 l
 j).fst,
 (nthD
 ((0 :
 Int),
 (0 :
 Int))
 l
 j).snd))
 l.length) =
 errP N
 (mkN
 (fun
 (j :
 Nat) =>
 ((nthD
 ((0 :
 Int),
 (0 :
 Int))
 l
 j).fst,
 (nthD
 ((0 :
 Int),
 (0 :
 Int))
 l
 j).snd))
 l.length)) ∧
 (((bif
 okP N
 (mkN
 (fun
 (j :
 Nat) =>
 ((nthD
 ((0 :
 Int),
 (0 :
 Int))
 l
 j).fst,
 (nthD
 ((0 :
 Int),
 (0 :
 Int))
 l
 j).snd))
 l.length) then
 N
 else
 (0 : Int)) =
 bif
 okP N
 (mkN
 (fun
 (j :
 Nat) =>
 ((nthD
 ((0 :
 Int),
 (0 :
 Int))
 l
 j).fst,
 (nthD
 ((0 :
 Int),
 (0 :
 Int))
 l
 j).snd))
 l.length) then
 N
 else
 (0 : Int)) ∧
 (AV.us B).len =
 (AV.us
 B).len) ∧
 errP N
 (mkN
 (fun
 (j :
 Nat) =>
 ((nthD
 ((0 :
 Int),
 (0 :
 Int))
 l
 j).fst,
 (nthD
 ((0 :
 Int),
 (0 :
 Int))
 l
 j).snd))
 l.length) =
 errP N
 (mkN
 (fun
 (j :
 Nat) =>
 ((nthD
 ((0 :
 Int),
 (0 :
 Int))
 l
 j).fst,
 (nthD
 ((0 :
 Int),
 (0 :
 Int))
 l
 j).snd))
 l.length) ∧
 errP N
 (mkN
 (fun
 (j :
 Nat) =>
 ((nthD
 ((0 :
 Int),
 (0 :
 Int))
 l
 j).fst,
 (nthD
 ((0 :
 Int),
 (0 :
 Int))
 l
 j).snd))
 l.length) =
 errP N
 (mkN
 (fun
 (j :
 Nat) =>
 ((nthD
 ((0 :
 Int),
 (0 :
 Int))
 l
 j).fst,
 (nthD
 ((0 :
 Int),
 (0 :
 Int))
 l
 j).snd))
 l.length) ∧
 false =
 false ∧
 (N = N ∧
 l.length =
 l.length) ∧
 o.length =
 o.length ∧
 isX N
 (mkN
 (fun
 (j :
 Nat) =>
 ((nthD
 ((0 :
 Int),
 (0 :
 Int))
 l
 j).fst,
 (nthD
 ((0 :
 Int),
 (0 :
 Int))
 l
 j).snd))
 l.length)
 (mkN
 (nthD
 (0 :
 Int)
 o)
 o.length) =
 isX
 N
 (mkN
 (fun
 (j :
 Nat) =>
 ((nthD
 ((0 :
 Int),
 (0 :
 Int))
 l
 j).fst,
 (nthD
 ((0 :
 Int),
 (0 :
 Int))
 l
 j).snd))
 l.length)
 (mkN
 (nthD
 (0 :
 Int)
 o)
 o.length) ∧
 false =
 false ∧
 (True ∧
 (0 :
 Int) =
 (0 :
 Int)) ∧
 (((bif
 okP
 N
 (mkN
 (fun
 (j :
 Nat) =>
 ((nthD
 ((0 :
 Int),
 (0 :
 Int))
 l
 j).fst,
 (nthD
 ((0 :
 Int),
 (0 :
 Int))
 l
 j).snd))
 l.length) then
 N
 else
 (0 :
 Int)) =
 bif
 okP
 N
 (mkN
 (fun
 (j :
 Nat) =>
 ((nthD
 ((0 :
 Int),
 (0 :
 Int))
 l
 j).fst,
 (nthD
 ((0 :
 Int),
 (0 :
 Int))
 l
 j).snd))
 l.length) then
 N
 else
 (0 :
 Int)) ∧
 (AV.us
 B).len =
 (AV.us
 B).len) ∧
 (True ∧
 (0 :
 Int) =
 (0 :
 Int)) ∧
 True ∧
 (0 :
 Int) =
 (0 :
 Int) ∧
 (0 :
 Int) =
 (0 :
 Int) ∧
 false =
 false ∧
 o.length =
 o.length ∧
 (↑o.length :
 Int) =
 (↑o.length :
 Int) ∧
 IntKind.i64.wrap
 ((↑x_1 :
 Int) +
 (1 :
 Int)) =
 (↑x_4 :
 Int) ∧
 True) ∧
 (l.length = l.length ∧
 (∀ (j : Nat),
 j < l.length →
 (nthD ((0 : Int), (0 : Int)) l
 j).fst =
 (nthD ((0 : Int), (0 : Int)) l
 j).fst) ∧
 (∀ (j : Nat),
 j < l.length →
 (nthD ((0 : Int), (0 : Int)) l
 j).snd =
 (nthD ((0 : Int), (0 : Int)) l
 j).snd) ∧
 True) ∧
 (o.length = o.length ∧
 (∀ (j : Nat),
 j < o.length →
 nthD (0 : Int) o j =
 nthD (0 : Int) o j) ∧
 True) ∧
 (N = N ∧ l.length = l.length) ∧
 ((AV.us B).len = (AV.us B).len ∧
 (∀ (j : Nat),
 j < (AV.us B).len →
 nthD (0 : Int) B j =
 nthD (0 : Int) B j) ∧
 True) ∧
 (((bif
 okP N
 (psK l) then
 N
 else (0 : Int)) =
 bif
 okP N
 (psK l) then
 N
 else (0 : Int)) ∧
 (AV.us B).len = (AV.us B).len) ∧
 (∀ (x : Int),
 cmM B (dsE B) x =
 cmM B (dsE B) x) ∧
 True)) ∧
 (decide ((↑x_1 : Int) < (↑o.length : Int)) = false →
 (↑(rkT B o x_1) : Int) = (↑(rkV N l o) : Int) ∧
 (0 : Int) = rkE N l o))))) := by kernel_rfl
theorem v29 (N : Int) (l : List Pq) (o : List Int) (B : List Int) (hB : B = befP N l) (hl : L9 l) (ho : L9 o) (hc : okC B = true) : fnVc (tab [kChk [none, none, none, some (.us B)], kIs [], kCmp [none, none, none, some (.us B)], kFre [none, none, none, some (.us B)]] [(0, .of (lRk0 B o)), (2, lRk1 B o)]) Try.f29 [rlV N 0 l, .sl 1 o.length] [arP l, arI o] (plainIs (.tup [.i .i64 (rkV N l o : Int), .i .i64 (rkE N l o)])) := by
  rw [v29_eq]
  simp only [eq_self, true_and, and_true, implies_true, imp_self, psK_eq, mkN_ps, mkN_rs, mkN_self, mkN_len, PLoop.of, lCnt, AV.len, lRk0, lRk1, lNt0, lNt1]
  subst hB
  refine ⟨hl, rfl, fun h => ?_, fun h => ⟨hl, ho, fun hx => ?_, fun hx => ?_⟩⟩
  · have hP := err_no h
    rw [rkV, rkE, hP]
    exact ⟨rfl, rfl⟩
  · have hP := err_yes h
    have hx : isX N l o = false := by simpa using hx
    rw [rkV, rkE, hP, hx]
    exact ⟨rfl, rfl⟩
  have hP := err_yes h
  have hx : isX N l o = true := by simpa using hx
  obtain ⟨e, hN, hN2, hn, hv⟩ := befP_ok hP
  obtain ⟨hokD, hmax⟩ := okC_iff.1 hc
  obtain ⟨_, hlen, _⟩ := isX_iff.1 hx
  unfold maxI at hmax
  have hV : rkV N l o = rkT (befP N l) o o.length := by rw [rkV, hP, hx, hc]; rfl
  have hE : rkE N l o = 0 := by rw [rkE, hP, hx, errC_ok hc]; rfl
  refine ⟨by rw [hP, hN]; rfl, hn, hc, fun h => (by cases h), fun _ => ⟨(), ⟨0, Nat.zero_le _, rfl, rfl, rfl⟩, fun k hk => ⟨fun hlt => ?_, fun hlt => ?_⟩⟩⟩
  · have hk2 := lt_len hlt
    obtain ⟨y, hy, hyn, hf⟩ := isX_fr hP hx hokD hk2
    have hd := isX_dn hP hx hokD k hk
    have hs64 := (dn_lt hd hn).2
    have hsu := dn_sum hd hn (by rw [List.length_take]; omega)
    have hrk := rk_le hP hx hokD k hk
    have ht : o.take (k + 1) = o.take k ++ [nthD 0 o k] := take_succ' 0 hk2
    rw [hy]
    refine ⟨bd hk2, hk2, k, ⟨0, ⟨by rw [hy]; omega, hk2⟩, rfl, rfl⟩, fun x hx => ⟨fun hlx => ?_, fun hlx => ?_⟩⟩
    · have hx2 : x < y := by have := of_decide_eq_true hlx; omega
      have hw := wrS (n := 64) (i := x) (by omega) (by omega)
      have hor := or_shl (x := x) hs64 (by omega)
      have hmo : sumF (befP N l) (maskM (o.take k)) (cmp (befP N l)) (x + 1) ≤ sumF (befP N l) (maskM (o.take k)) (cmp (befP N l)) (befP N l).length := sumF_mono (by omega)
      have hss : sumF (befP N l) (maskM (o.take k)) (cmp (befP N l)) (x + 1) = sumF (befP N l) (maskM (o.take k)) (cmp (befP N l)) x + bif frR (befP N l) (maskM (o.take k) : Int) x then cmp (befP N l) (maskM (o.take k) ||| 2 ^ x) else 0 := rfl
      refine ⟨⟨by omega, by omega⟩, by omega, fun hfx => ?_, fun hfx => ?_⟩
      · rw [hfx, cond_true] at hss
        rw [hor, cm_val (dsE_step hn hokD hd.mem (by omega) hfx), hy]
        refine ⟨⟨by omega, by simp [IntKind.bits]; omega⟩, x + 1, ⟨by omega, hk2⟩, by omega, ?_, hw⟩
        rw [w64_eq (by omega) (by omega), hss]; omega
      · simp only [hfx, cond_false, Nat.add_zero] at hss
        rw [hy]
        exact ⟨x + 1, ⟨by omega, hk2⟩, by omega, by rw [hss], hw⟩
    · have hx2 : x = y := by
        have h1 := hx.1
        rw [hy] at h1
        have := of_decide_eq_false hlx; omega
      have hor := or_shl (x := y) hs64 (by omega)
      rw [Int.toNat_natCast, hor]
      refine ⟨⟨by omega, by simp [IntKind.bits]; omega⟩, k + 1, hk2, by omega, ?_, ?_, wrS (n := 64) (by omega) (by omega)⟩
      · rw [rkT, hy, Int.toNat_natCast, hx2]
      · rw [ht, hy, mask_snoc]
  · have hk2 := ge_len hlt hk
    rw [hV, hE, hk2]
    exact ⟨rfl, rfl⟩
end Go.Proofs.Ytiokmglajigngaa
