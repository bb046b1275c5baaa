/-
  A part of the proof (U7).
-/
import Derived.Test.YtiokmglajigngaaU6
namespace Go.Proofs.Ytiokmglajigngaa
open Go Go.Proofs.Ytiokmglajigngaa.Sx
set_option maxRecDepth 100000
set_option linter.unusedSimpArgs false
set_option linter.unusedVariables false

/-! ### Masks -/
theorem u64_wrap {n : Nat} (h : n < 2 ^ 64) : IntKind.u64.wrap (n : Int) = (n : Int) := by
  simp only [IntKind.wrap, IntKind.signed, IntKind.bits]
  simp
  omega
theorem ofInt_nat (n : Nat) : BitVec.ofInt 64 (n : Int) = BitVec.ofNat 64 n := by
  apply BitVec.eq_of_toInt_eq; simp
theorem bits_or {a b : Nat} (ha : a < 2 ^ 64) (hb : b < 2 ^ 64) : bits .or .u64 (a : Int) (b : Int) = ((a ||| b : Nat) : Int) := by
  have h := Nat.or_lt_two_pow ha hb
  show IntKind.u64.wrap (((BitVec.ofInt 64 (a : Int) ||| BitVec.ofInt 64 (b : Int)).toNat : Nat) : Int) = _
  rw [ofInt_nat, ofInt_nat, BitVec.toNat_or, BitVec.toNat_ofNat, BitVec.toNat_ofNat, Nat.mod_eq_of_lt ha, Nat.mod_eq_of_lt hb]
  exact u64_wrap h
theorem bits_and {a b : Nat} (ha : a < 2 ^ 64) (hb : b < 2 ^ 64) : bits .and .u64 (a : Int) (b : Int) = ((a &&& b : Nat) : Int) := by
  have h : a &&& b < 2 ^ 64 := Nat.and_lt_two_pow a hb
  show IntKind.u64.wrap (((BitVec.ofInt 64 (a : Int) &&& BitVec.ofInt 64 (b : Int)).toNat : Nat) : Int) = _
  rw [ofInt_nat, ofInt_nat, BitVec.toNat_and, BitVec.toNat_ofNat, BitVec.toNat_ofNat, Nat.mod_eq_of_lt ha, Nat.mod_eq_of_lt hb]
  exact u64_wrap h
/-- What a has and b has not. -/
def diff (a b : Nat) : Nat := (BitVec.ofNat 64 a &&& ~~~BitVec.ofNat 64 b).toNat
theorem diff_bit {a b : Nat} (ha : a < 2 ^ 64) (i : Nat) : (diff a b).testBit i = (a.testBit i && !b.testBit i) := by
  unfold diff
  rw [BitVec.testBit_toNat, BitVec.getLsbD_and, BitVec.getLsbD_not, BitVec.getLsbD_ofNat, BitVec.getLsbD_ofNat]
  by_cases h : i < 64
  · simp [h]
  · have : a.testBit i = false := Nat.testBit_lt_two_pow (Nat.lt_of_lt_of_le ha (Nat.pow_le_pow_right (by omega) (by omega)))
    simp [h, this]
theorem diff_lt (a b : Nat) : diff a b < 2 ^ 64 := (BitVec.ofNat 64 a &&& ~~~BitVec.ofNat 64 b).isLt
theorem bits_andNot {a b : Nat} : bits .andNot .u64 (a : Int) (b : Int) = ((diff a b : Nat) : Int) := by
  show IntKind.u64.wrap (((BitVec.ofInt 64 (a : Int) &&& ~~~BitVec.ofInt 64 (b : Int)).toNat : Nat) : Int) = _
  rw [ofInt_nat, ofInt_nat]
  exact u64_wrap (diff_lt a b)
theorem one_lt {x : Nat} (h : x < 64) : 1 <<< x < 2 ^ 64 := by
  rw [Nat.one_shiftLeft]
  exact Nat.pow_lt_pow_right (by omega) h
theorem wrap_shl {x : Nat} (h : x < 64) : IntKind.u64.wrap (1 * 2 ^ x) = ((1 <<< x : Nat) : Int) := by
  have e : (1 * 2 ^ x : Int) = ((1 <<< x : Nat) : Int) := by rw [Nat.one_shiftLeft]; simp
  rw [e]
  exact u64_wrap (one_lt h)
theorem or_bit {a x i : Nat} : (a ||| 1 <<< x).testBit i = (a.testBit i || decide (i = x)) := by
  rw [Nat.testBit_or, Nat.one_shiftLeft, Nat.testBit_two_pow]
  congr 1
  rw [decide_eq_decide]; exact eq_comm
theorem and_zero {a x : Nat} : (((a &&& 1 <<< x : Nat) : Int) == 0) = !a.testBit x := by
  rw [Bool.eq_iff_iff, beq_iff_eq, Bool.not_eq_true', Nat.one_shiftLeft]
  constructor
  · intro h
    have h : a &&& 2 ^ x = 0 := by omega
    have := congrArg (fun n => n.testBit x) h
    simpa using this
  · intro h
    have : a &&& 2 ^ x = 0 := by
      apply Nat.eq_of_testBit_eq
      intro i
      rw [Nat.testBit_and, Nat.testBit_two_pow, Nat.zero_testBit]
      by_cases e : x = i
      · subst e; rw [h]; rfl
      · simp [e]
    rw [this]; rfl
theorem diff_zero {a b : Nat} (ha : a < 2 ^ 64) : (((diff a b : Nat) : Int) == 0) = true ↔ ∀ i, a.testBit i = true → b.testBit i = true := by
  rw [beq_iff_eq]
  constructor
  · intro h i hi
    have h0 : diff a b = 0 := by omega
    have := diff_bit (a := a) (b := b) ha i
    rw [h0, Nat.zero_testBit, hi] at this
    simpa using this.symm
  · intro h
    have : diff a b = 0 := by
      apply Nat.eq_of_testBit_eq
      intro i
      rw [diff_bit ha, Nat.zero_testBit]
      cases e : a.testBit i
      · rfl
      · rw [h i e]; rfl
    rw [this]; rfl

/-! ### The masks of what stands before -/
theorem befM_app {l : List Pq} {p : Pq} {x : Int} : befM (l ++ [p]) x = bif p.2 == x then befM l x ||| 1 <<< p.1.toNat else befM l x := by
  simp only [befM, List.foldl_append, List.foldl_cons, List.foldl_nil]
theorem befM_go {x : Int} {i : Nat} : ∀ (l : List Pq) (m : Nat), (∀ p ∈ l, 0 ≤ p.1) → (l.foldl (fun m p => bif p.2 == x then m ||| 1 <<< p.1.toNat else m) m).testBit i = (m.testBit i || setF l i x) := by
  intro l
  induction l with
  | nil => intro m _; simp [setF]
  | cons p l ih =>
    intro m hl
    have hp := hl p List.mem_cons_self
    rw [List.foldl_cons, ih _ fun q hq => hl q (List.mem_cons_of_mem _ hq)]
    have e : setF (p :: l) i x = ((p.1 == (i : Int) && p.2 == x) || setF l i x) := rfl
    rw [e, ← Bool.or_assoc]
    congr 1
    cases h : p.2 == x
    · rw [cond_false, Bool.and_false, Bool.or_false]
    · rw [cond_true, or_bit, Bool.and_true]
      congr 1
      rw [Bool.eq_iff_iff, decide_eq_true_eq, beq_iff_eq]
      omega
theorem befM_bit {l : List Pq} {x : Int} {i : Nat} (hl : ∀ p ∈ l, 0 ≤ p.1) : (befM l x).testBit i = setF l i x := by
  rw [befM, befM_go l 0 hl, Nat.zero_testBit, Bool.false_or]
theorem befM_lt {l : List Pq} {x : Int} {n : Nat} (hl : ∀ p ∈ l, 0 ≤ p.1 ∧ p.1 < (n : Int)) : befM l x < 2 ^ n := by
  apply Nat.lt_pow_two_of_testBit
  intro i hi
  rw [befM_bit fun p hp => (hl p hp).1, Bool.eq_false_iff]
  intro h
  have := hl _ (setF_iff.1 h)
  simp only at this
  omega
@[simp] theorem befL_len (n : Nat) (l : List Pq) : (befL n l).length = n := mkN_len _ _
theorem nthD_befL {n j : Nat} {l : List Pq} (h : j < n) : nthD 0 (befL n l) j = (befM l j : Int) := nthD_mkN _ _ h
theorem v33_eq (N : Int) (l : List Pq) : (fnVc (tab [kVal [], kAcy []] [(0, .of (lChk N l 24 3))]) Try.f33 [rlV N 0 l] [arP l] (resIs (posT (bif okP N l then N else 0) (errP N l) (bifU (okP N l) (befL N.toNat l)).length) 54 (bifU (okP N l) (befL N.toNat l)).length (usCols (bifU (okP N l) (befL N.toNat l))))) = (l.length = l.length ∧
 (mkN (fun (j : Nat) => ((nthD ((0 : Int), (0 : Int)) l j).fst, (nthD ((0 : Int), (0 : Int)) l j).snd))
 l.length).length ≤
 (1099511627776 : Nat) ∧
 ((!validF N
 (mkN (fun (j : Nat) => ((nthD ((0 : Int), (0 : Int)) l j).fst, (nthD ((0 : Int), (0 : Int)) l j).snd))
 l.length)) =
 true →
 (bifU (okP N l) (befL N.toNat l)).length = (0 : Nat) ∧
 (((0 : Int) = bif okP N l then N else (0 : Int)) ∧
 (bifU (okP N l) (befL N.toNat l)).length = (0 : Nat) ∧ True) ∧
 (1 : Int) = errP N l ∧ True) ∧
 ((!validF N
 (mkN (fun (j : Nat) => ((nthD ((0 : Int), (0 : Int)) l j).fst, (nthD ((0 : Int), (0 : Int)) l j).snd))
 l.length)) =
 false →
 l.length = l.length ∧
 (mkN (fun (j : Nat) => ((nthD ((0 : Int), (0 : Int)) l j).fst, (nthD ((0 : Int), (0 : Int)) l j).snd))
 l.length).length ≤
 (1099511627776 : Nat) ∧
 ((!(validF N
 (mkN
 (fun (j : Nat) =>
 ((nthD ((0 : Int), (0 : Int)) l j).fst, (nthD ((0 : Int), (0 : Int)) l j).snd))
 l.length) &&
 acyF N.toNat
 (wF
 (setF
 (mkN
 (fun (j : Nat) =>
 ((nthD ((0 : Int), (0 : Int)) l j).fst, (nthD ((0 : Int), (0 : Int)) l j).snd))
 l.length))
 N.toNat))) =
 true →
 (bifU (okP N l) (befL N.toNat l)).length = (0 : Nat) ∧
 (((0 : Int) = bif okP N l then N else (0 : Int)) ∧
 (bifU (okP N l) (befL N.toNat l)).length = (0 : Nat) ∧ True) ∧
 (20 : Int) = errP N l ∧ True) ∧
 ((!(validF N
 (mkN
 (fun (j : Nat) =>
 ((nthD ((0 : Int), (0 : Int)) l j).fst, (nthD ((0 : Int), (0 : Int)) l j).snd))
 l.length) &&
 acyF N.toNat
 (wF
 (setF
 (mkN
 (fun (j : Nat) =>
 ((nthD ((0 : Int), (0 : Int)) l j).fst, (nthD ((0 : Int), (0 : Int)) l j).snd))
 l.length))
 N.toNat))) =
 false →
 (0 : Int) ≤ N ∧
 N = N ∧
 (↑(8 : Nat) : Int) * N ≤ (281474976710656 : Int) ∧
 N ≤ (9223372036854775807 : Int) ∧
 ∃ (x : PUnit),
 (∃ (x : Nat),
 (x ≤ l.length ∧ True) ∧
 ((0 : Int) = (↑x : Int) ∧ True) ∧
 (N.toNat = N.toNat ∧
 (∀ (j : Nat),
 j < N.toNat → (0 : Int) = nthD (0 : Int) (befL N.toNat (List.take x l)) j) ∧
 True) ∧
 True) ∧
 ∀ (x_1 : Nat),
 x_1 ≤ l.length ∧ True →
 (decide ((↑x_1 : Int) < (↑l.length : Int)) = true →
 ((0 : Int) ≤ (↑x_1 : Int) ∧ (↑x_1 : Int) < (↑l.length : Int)) ∧
 x_1 < l.length ∧
 ((0 : Int) ≤ (nthD ((0 : Int), (0 : Int)) l x_1).snd ∧
 (nthD ((0 : Int), (0 : Int)) l x_1).snd < (↑N.toNat : Int)) ∧
 (nthD ((0 : Int), (0 : Int)) l x_1).snd.toNat < N.toNat ∧
 ((0 : Int) ≤ (nthD ((0 : Int), (0 : Int)) l x_1).fst ∧
 (nthD ((0 : Int), (0 : Int)) l x_1).fst ≤ (↑IntKind.u64.bits : Int)) ∧
 ((0 : Int) ≤ (nthD ((0 : Int), (0 : Int)) l x_1).snd ∧
 (nthD ((0 : Int), (0 : Int)) l x_1).snd < (↑N.toNat : Int)) ∧
 (nthD ((0 : Int), (0 : Int)) l x_1).snd.toNat < N.toNat ∧
 ∃ (x_2 : Nat),
 (x_2 ≤ l.length ∧ True) ∧
 ((PLoop.of (lChk N l (24 : Nat) (3 : Nat))).ann x).mu x_2 <
 ((PLoop.of (lChk N l (24 : Nat) (3 : Nat))).ann x).mu x_1 ∧
 ((N = N ∧ l.length = l.length) ∧
 True ∧
 True ∧
 (0 : Int) = (0 : Int) ∧
 True ∧
 (N = N ∧ l.length = l.length) ∧
 validF N
 (mkN
 (fun (j : Nat) =>
 ((nthD ((0 : Int), (0 : Int)) l j).fst,
 (nthD ((0 : Int), (0 : Int)) l
 j).snd))
 l.length) =
 validF N
 (mkN
 (fun (j : Nat) =>
 ((nthD ((0 : Int), (0 : Int)) l j).fst,
 (nthD ((0 : Int), (0 : Int)) l
 j).snd))
 l.length) ∧
 false = false ∧
 (N = N ∧ l.length = l.length) ∧
 (validF N
 (mkN
 (fun (j : Nat) =>
 ((nthD ((0 : Int), (0 : Int)) l
 j).fst,
 (nthD ((0 : Int), (0 : Int)) l
 j).snd))
 l.length) &&
 acyF N.toNat
 (wF
 (setF
 (mkN
 (fun (j : Nat) =>
 ((nthD
 ((0 : Int), (0 : Int))
 l j).fst,
 (nthD
 ((0 : Int), (0 : Int))
 l j).snd))
 l.length))
 N.toNat)) =
 (validF N
 (mkN
 (fun (j : Nat) =>
 ((nthD ((0 : Int), (0 : Int)) l
 j).fst,
 (nthD ((0 : Int), (0 : Int)) l
 j).snd))
 l.length) &&
 acyF N.toNat
 (wF
 (setF
 (mkN
 (fun (j : Nat) =>
 ((nthD
 ((0 : Int), (0 : Int))
 l j).fst,
 (nthD
 ((0 : Int), (0 : Int))
 l j).snd))
 l.length))
 N.toNat)) ∧
 false = false ∧
 True ∧
 N = N ∧
 True ∧
 N = N ∧
 N.toNat = N.toNat ∧
 (N = N ∧ N.toNat = N.toNat) ∧
 True ∧
 l.length = l.length ∧
 (↑l.length : Int) =
 (↑l.length : Int) ∧
 IntKind.i64.wrap
 ((↑x_1 : Int) +
 (1 : Int)) =
 (↑x_2 : Int) ∧
 True) ∧
 (l.length = l.length ∧
 (∀ (j : Nat),
 j < l.length →
 (nthD ((0 : Int), (0 : Int)) l j).fst =
 (nthD ((0 : Int), (0 : Int)) l j).fst) ∧
 (∀ (j : Nat),
 j < l.length →
 (nthD ((0 : Int), (0 : Int)) l j).snd =
 (nthD ((0 : Int), (0 : Int)) l j).snd) ∧
 True) ∧
 (N = N ∧ l.length = l.length) ∧
 ((0 : Int) = (0 : Int) ∧ True) ∧
 (N.toNat = N.toNat ∧
 (∀ (j : Nat),
 j < N.toNat →
 (bif
 j.beq
 (nthD ((0 : Int), (0 : Int)) l
 x_1).snd.toNat then
 bits BinOp.or IntKind.u64
 (nthD (0 : Int)
 (befL N.toNat (List.take x_1 l))
 (nthD ((0 : Int), (0 : Int)) l
 x_1).snd.toNat)
 (IntKind.u64.wrap
 ((1 : Int) *
 (2 : Int) ^
 (nthD ((0 : Int), (0 : Int)) l
 x_1).fst.toNat))
 else
 nthD (0 : Int)
 (befL N.toNat (List.take x_1 l)) j) =
 nthD (0 : Int)
 (befL N.toNat (List.take x_2 l)) j) ∧
 True) ∧
 (N = N ∧ N.toNat = N.toNat) ∧ True) ∧
 (decide ((↑x_1 : Int) < (↑l.length : Int)) = false →
 N.toNat = (bifU (okP N l) (befL N.toNat l)).length ∧
 ((∀ (j : Nat),
 j < (bifU (okP N l) (befL N.toNat l)).length →
 nthD (0 : Int) (befL N.toNat (List.take x_1 l)) j =
 nthD (0 : Int) (bifU (okP N l) (befL N.toNat l)) j) ∧
 True) ∧
 ((N = bif okP N l then N else (0 : Int)) ∧
 N.toNat = (bifU (okP N l) (befL N.toNat l)).length ∧ True) ∧
 (0 : Int) = errP N l ∧ True)))) := by kernel_rfl
theorem v33 (N : Int) (l : List Pq) (hl : L9 l) : fnVc (tab [kVal [], kAcy []] [(0, .of (lChk N l 24 3))]) Try.f33 [rlV N 0 l] [arP l] (resIs (posT (bif okP N l then N else 0) (errP N l) (bifU (okP N l) (befL N.toNat l)).length) 54 (bifU (okP N l) (befL N.toNat l)).length (usCols (bifU (okP N l) (befL N.toNat l)))) := by
  rw [v33_eq]
  simp only [eq_self, true_and, and_true, implies_true, imp_self, mkN_ps, mkN_rs, mkN_self, mkN_len, PLoop.of, lCnt, AV.len, lChk]
  refine ⟨hl, fun h => ?_, fun h => ⟨hl, fun h' => ?_, fun h' => ?_⟩⟩
  · have hv : validF N l = false := by simpa using h
    simp [hv, bifU, okP, errP]
  · have hv : validF N l = true := by simpa using h
    have hc : acy N l = false := by rw [hv] at h'; simpa [acy] using h'
    simp [hv, hc, bifU, okP, errP]
  · have hv : validF N l = true := by simpa using h
    have hc : acy N l = true := by rw [hv] at h'; simpa [acy] using h'
    have hok : okP N l = true := by rw [okP, hv, hc]; rfl
    have her : errP N l = 0 := by rw [errP, hv, hc]; rfl
    obtain ⟨q1, q2, q3⟩ := validF_iff.1 hv
    rw [hok, her]
    simp only [bifU, cond_true, befL_len]
    refine ⟨q1, by omega, by omega, (), ⟨0, by omega, rfl, fun j hj => ?_⟩, fun i hi => ⟨fun hlt => ?_, fun hlt => ?_⟩⟩
    · rw [nthD_befL hj]; rfl
    · have hi2 := lt_len hlt
      obtain ⟨p1, p2, p3, p4⟩ := q3 _ (nth_mem hi2)
      have hb : ((IntKind.u64.bits : Nat) : Int) = 64 := rfl
      refine ⟨bd hi2, hi2, by omega, by omega, by omega, by omega, by omega, i + 1, by omega, by omega, w64_sub (by omega) hl, fun j hj => ?_⟩
      rw [nthD_befL hj, nthD_befL (by omega), nthD_befL hj, take_succ' (0, 0) hi2, befM_app]
      generalize hpp : nthD (0, 0) l i = p at *
      obtain ⟨x, y⟩ := p
      simp only at p1 p2 p3 p4 ⊢
      obtain ⟨x, rfl⟩ := Int.eq_ofNat_of_zero_le p1
      obtain ⟨y, rfl⟩ := Int.eq_ofNat_of_zero_le p3
      simp only [Int.toNat_natCast]
      have hlt2 : befM (l.take i) y < 2 ^ 64 := Nat.lt_of_lt_of_le (befM_lt (n := N.toNat) fun p hp => by have := q3 p (List.mem_of_mem_take hp); omega) (Nat.pow_le_pow_right (by omega) (by omega))
      by_cases e : j = y
      · subst e
        rw [beq_t, cond_true, wrap_shl (by omega), bits_or hlt2 (one_lt (by omega))]
        simp
      · have : ((y : Int) == (j : Int)) = false := by rw [beq_eq_false_iff_ne]; omega
        rw [beq_f e, cond_false, this, cond_false]
    · have hi2 := ge_len hlt hi
      rw [hi2, List.take_length]
      simp
theorem v34_eq (N : Int) (B : List Int) (s x : Int) : (fnVc (tab [] []) Try.f34 [poV N 0 B, .i .u64 s, .i .i64 x] [arU B] (plainIs (.b (frR B s x)))) = (((0 : Int) ≤ x ∧ x ≤ (↑IntKind.u64.bits : Int)) ∧
 ((bits BinOp.and IntKind.u64 s (IntKind.u64.wrap ((1 : Int) * (2 : Int) ^ x.toNat)) == (0 : Int)) = true →
 (0 : Int) ≤ x ∧ x < (↑B.length : Int)) ∧
 ((bits BinOp.and IntKind.u64 s (IntKind.u64.wrap ((1 : Int) * (2 : Int) ^ x.toNat)) == (0 : Int)) = true →
 x.toNat < B.length) ∧
 (bits BinOp.and IntKind.u64 s (IntKind.u64.wrap ((1 : Int) * (2 : Int) ^ x.toNat)) == (0 : Int) &&
 bits BinOp.andNot IntKind.u64 (nthD (0 : Int) B x.toNat) s == (0 : Int)) =
 frR B s x) := by kernel_rfl
theorem v34 (N : Int) (B : List Int) (s x : Int) (hx : 0 ≤ x ∧ x < 64) (hB : x < (B.length : Int)) : fnVc (tab [] []) Try.f34 [poV N 0 B, .i .u64 s, .i .i64 x] [arU B] (plainIs (.b (frR B s x))) := by
  rw [v34_eq]
  have hb : ((IntKind.u64.bits : Nat) : Int) = 64 := rfl
  refine ⟨by omega, fun _ => by omega, fun _ => by omega, rfl⟩
theorem fo33 : fnOk Try.prog 33 := ⟨Try.f33, Try.func33, by kernel_rfl, by kernel_rfl⟩
theorem fo34 : fnOk Try.prog 34 := ⟨Try.f34, Try.func34, by kernel_rfl, by kernel_rfl⟩
def t33 : List AV → Tab
  | [.r N l] => tab [kVal [], kAcy []] [(0, .of (lChk N l 24 3))]
  | _ => tab [] []
theorem c33 : CallOk Try.prog [] 33 (genF EL [] [.r] sChk) := by
  refine okT (fn := Try.f33) Try.func33 fo33 t33 (fun av => ?_) (fun av => ?_) (fun av pre rv h => ?_) (fun av pre rv h hp => ?_)
  · unfold t33; split <;> first | exact tabOk (mOne (n37 _) (mOne (n47 _) mNil)) | exact tabOk mNil
  · unfold t33; split <;> exact ⟨rfl, rfl⟩
  · unfold sChk at h; split at h <;> cases h
    exact ⟨rfl, fun t a e => by cases e <;> exact List.cons_ne_nil _ _⟩
  · unfold sChk at h; split at h <;> cases h
    exact v33 _ _ (hp _ (.head _))
theorem n33 (nm : List (Option AV)) : CallOk Try.prog [] 33 (genF EL nm [.r] sChk) := genNm c33
def t34 : List AV → Tab
  | [.po N B, .u s, .i x] => tab [] []
  | _ => tab [] []
theorem c34 : CallOk Try.prog [] 34 (genF EL [] [.po, .u, .i] sFre) := by
  refine okT (fn := Try.f34) Try.func34 fo34 t34 (fun av => ?_) (fun av => ?_) (fun av pre rv h => ?_) (fun av pre rv h hp => ?_)
  · unfold t34; split <;> first | exact tabOk mNil | exact tabOk mNil
  · unfold t34; split <;> exact ⟨rfl, rfl⟩
  · unfold sFre at h; split at h <;> cases h
    exact ⟨rfl, fun t a e => by cases e <;> exact List.cons_ne_nil _ _⟩
  · unfold sFre at h; split at h <;> cases h
    exact v34 _ _ _ _ (hp _ (.head _)) (hp _ (.tail _ (.head _)))
theorem n34 (nm : List (Option AV)) : CallOk Try.prog [] 34 (genF EL nm [.po, .u, .i] sFre) := genNm c34
end Go.Proofs.Ytiokmglajigngaa
