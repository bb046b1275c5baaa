/-
  A part of the proof (Rw18).
-/
import Derived.Test.YtcbmbnlgilampaaRw17
namespace Go.Proofs.Ytcbmbnlgilampaa
open Go Go.Proofs.Ytcbmbnlgilampaa.Sx
set_option maxRecDepth 100000
set_option linter.unusedSimpArgs false
set_option linter.unusedVariables false

theorem cdec {α : Type} {p : Prop} [Decidable p] {a b : α} : (bif decide p then a else b) = if p then a else b := by
  by_cases h : p <;> simp [h]
theorem mk_tbl {n : Nat} {f : Pf} : mkN (nthD false (tblL n f)) (n * n) = tblL n f := by
  have := mkN_self false (tblL n f)
  rw [tblL_len] at this
  exact this
theorem cmpK_succ {f g : Pf} {j : Nat} {x y : Int} : cmpK f g (j + 1) x y = (cmpK f g j x y || (f x j && g j y)) := by
  simp only [cmpK, List.range_succ, List.any_append, List.any_cons, List.any_nil, Bool.or_false]
theorem dm {n j : Nat} (hj : j < n * n) : 0 ≤ ((j / n : Nat) : Int) ∧ ((j / n : Nat) : Int) < (n : Int) ∧ 0 ≤ ((j % n : Nat) : Int) ∧ ((j % n : Nat) : Int) < (n : Int) := by
  have hn : 0 < n := by rcases Nat.eq_zero_or_pos n with e | e; subst e; omega; exact e
  have h1 : j / n < n := Nat.div_lt_of_lt_mul hj
  have h2 := Nat.mod_lt j hn
  generalize j / n = a at *
  generalize j % n = b at *
  omega
theorem tbl_eq {n : Nat} {f g : Pf} (h : ∀ a b : Int, 0 ≤ a → a < (n : Int) → 0 ≤ b → b < (n : Int) → f a b = g a b) {j : Nat} (hj : j < n * n) : nthD false (tblL n f) j = nthD false (tblL n g) j := by
  rw [nthD_tblL hj, nthD_tblL hj]
  obtain ⟨h1, h2, h3, h4⟩ := dm hj
  exact h _ _ h1 h2 h3 h4
theorem cmA_zero {f g : Pf} {n j : Nat} (hj : j < n * n) : false = nthD false (tblL n (cmA f g n 0)) j := by
  rw [nthD_tblL hj]
  obtain ⟨h1, h2, h3, h4⟩ := dm hj
  simp only [cmA, cdec]
  rw [if_neg (by omega)]
theorem cmB_zero {f g : Pf} {n i j : Nat} (hj : j < n * n) : nthD false (tblL n (cmA f g n i)) j = nthD false (tblL n (cmB f g n i 0)) j := tbl_eq (fun a b _ _ _ _ => by
  simp only [cmA, cmB, cdec, cmpK, List.range_zero, List.any_nil]
  repeat' split
  all_goals rfl) hj
theorem cmB_full {f g : Pf} {n i j : Nat} (hj : j < n * n) : nthD false (tblL n (cmB f g n i n)) j = nthD false (tblL n (cmA f g n (i + 1))) j := tbl_eq (fun a b _ _ _ _ => by
  simp only [cmA, cmB, cdec]
  repeat' split
  all_goals first | rfl | omega) hj
theorem cmC_zero {f g : Pf} {n i k j : Nat} (hj : j < n * n) : nthD false (tblL n (cmB f g n i k)) j = nthD false (tblL n (cmC f g n i k 0)) j := tbl_eq (fun a b _ _ _ _ => by
  simp only [cmC, cmB, cdec]
  repeat' split
  all_goals first | rfl | omega) hj
theorem cmC_done {f g : Pf} {n i m k j : Nat} (hj : j < n * n) (h : k = n ∨ f i m = false) : nthD false (tblL n (cmC f g n i m k)) j = nthD false (tblL n (cmB f g n i (m + 1))) j := tbl_eq (fun a b _ _ _ _ => by
  simp only [cmC, cmB, cdec]
  repeat' split
  all_goals first | rfl | omega | skip
  rename_i e _
  rcases h with h | h
  · omega
  · rw [cmpK_succ, e, h]; simp) hj
theorem cmC_step {f g : Pf} {n i m k : Nat} (hi : i < n) (hm : m < n) (hk : k < n) (h : f i m = true) {j : Nat} (hj : j < n * n) :
    (bif Nat.beq j (i * n + k) then nthD false (tblL n (cmC f g n i m k)) (i * n + k) || nthD false (tblL n g) (m * n + k) else nthD false (tblL n (cmC f g n i m k)) j) = nthD false (tblL n (cmC f g n i m (k + 1))) j := by
  by_cases e : j = i * n + k
  · subst e
    rw [beq_t, cond_true, tbl_at hi hk, tbl_at hm hk, tbl_at hi hk]
    simp only [cmC, cdec]
    rw [if_neg (by omega), if_pos trivial, if_neg (by omega), if_neg (by omega), if_pos trivial, if_pos (by omega), cmpK_succ, h, Bool.true_and]
  · rw [beq_f e, cond_false, nthD_tblL hj, nthD_tblL hj]
    obtain ⟨h1, h2, h3, h4⟩ := dm hj
    have : ¬ (((j / n : Nat) : Int) = (i : Int) ∧ ((j % n : Nat) : Int) = (k : Int)) := fun ⟨e1, e2⟩ => e (by
      have := Nat.div_add_mod j n
      rw [show j / n = i by omega, show j % n = k by omega, Nat.mul_comm] at this
      exact this.symm)
    generalize ((j / n : Nat) : Int) = a at *
    generalize ((j % n : Nat) : Int) = b at *
    simp only [cmC, cdec]
    repeat' split
    all_goals first | rfl | omega
theorem cmA_full {N : Int} {f g : Pf} : normL N (cmA f g N.toNat N.toNat) = normL N (cmpK f g N.toNat) := normL_congr fun a b ha hb => by
  simp only [cmA, cdec]
  rw [if_pos (by omega)]
theorem v32_eq (A : Int) (a : List Pq) (B : Int) (b : List Pq) : (fnVc (tab [kVal' [], kTbl [none, none, none, none, none, some (.bs (tblL A.toNat (setF a))), some (.bs (tblL B.toNat (setF b)))], kLst []] [(0, .of (lCa A.toNat (setF a) (setF b))), (2, lCb A.toNat (setF a) (setF b)), (4, lCc A.toNat (setF a) (setF b))]) Try.f32 [rlV A 0 a, rlV B 1 b] [arP a, arP b] (resIs (relE (bif bothF A a B b then A else 0) (bif bothF A a B b then 0 else 1) (bifL (bothF A a B b) (normL A (cmpK (setF a) (setF b) A.toNat))).length) 38 (bifL (bothF A a B b) (normL A (cmpK (setF a) (setF b) A.toNat))).length (psCols (bifL (bothF A a B b) (normL A (cmpK (setF a) (setF b) A.toNat)))))) = (a.length = a.length ∧
 (mkN (fun (j : Nat) => ((nthD ((0 : Int), (0 : Int)) a j).fst, (nthD ((0 : Int), (0 : Int)) a j).snd))
 a.length).length ≤
 (1099511627776 : Nat) ∧
 ((!validF A
 (mkN (fun (j : Nat) => ((nthD ((0 : Int), (0 : Int)) a j).fst, (nthD ((0 : Int), (0 : Int)) a j).snd))
 a.length)) =
 false →
 b.length = b.length) ∧
 ((!validF A
 (mkN (fun (j : Nat) => ((nthD ((0 : Int), (0 : Int)) a j).fst, (nthD ((0 : Int), (0 : Int)) a j).snd))
 a.length)) =
 false →
 (mkN (fun (j : Nat) => ((nthD ((0 : Int), (0 : Int)) b j).fst, (nthD ((0 : Int), (0 : Int)) b j).snd))
 b.length).length ≤
 (1099511627776 : Nat)) ∧
 ((!validF A
 (mkN
 (fun (j : Nat) =>
 ((nthD ((0 : Int), (0 : Int)) a j).fst, (nthD ((0 : Int), (0 : Int)) a j).snd))
 a.length) ||
 !validF B
 (mkN
 (fun (j : Nat) =>
 ((nthD ((0 : Int), (0 : Int)) b j).fst, (nthD ((0 : Int), (0 : Int)) b j).snd))
 b.length) ||
 A != B) =
 true →
 (bifL (bothF A a B b) (normL A (cmpK (setF a) (setF b) A.toNat))).length = (0 : Nat) ∧
 (((0 : Int) = bif bothF A a B b then A else (0 : Int)) ∧
 (bifL (bothF A a B b) (normL A (cmpK (setF a) (setF b) A.toNat))).length = (0 : Nat) ∧ True) ∧
 ((1 : Int) = bif bothF A a B b then (0 : Int) else (1 : Int)) ∧ True) ∧
 ((!validF A
 (mkN
 (fun (j : Nat) =>
 ((nthD ((0 : Int), (0 : Int)) a j).fst, (nthD ((0 : Int), (0 : Int)) a j).snd))
 a.length) ||
 !validF B
 (mkN
 (fun (j : Nat) =>
 ((nthD ((0 : Int), (0 : Int)) b j).fst, (nthD ((0 : Int), (0 : Int)) b j).snd))
 b.length) ||
 A != B) =
 false →
 a.length = a.length ∧
 validF A
 (mkN
 (fun (j : Nat) => ((nthD ((0 : Int), (0 : Int)) a j).fst, (nthD ((0 : Int), (0 : Int)) a j).snd))
 a.length) =
 true ∧
 (mkN (fun (j : Nat) => ((nthD ((0 : Int), (0 : Int)) a j).fst, (nthD ((0 : Int), (0 : Int)) a j).snd))
 a.length).length ≤
 (1099511627776 : Nat) ∧
 tblL A.toNat
 (setF
 (mkN
 (fun (j : Nat) =>
 ((nthD ((0 : Int), (0 : Int)) a j).fst, (nthD ((0 : Int), (0 : Int)) a j).snd))
 a.length)) =
 tblL A.toNat (setF a) ∧
 b.length = b.length ∧
 validF B
 (mkN
 (fun (j : Nat) =>
 ((nthD ((0 : Int), (0 : Int)) b j).fst, (nthD ((0 : Int), (0 : Int)) b j).snd))
 b.length) =
 true ∧
 (mkN
 (fun (j : Nat) =>
 ((nthD ((0 : Int), (0 : Int)) b j).fst, (nthD ((0 : Int), (0 : Int)) b j).snd))
 b.length).length ≤
 (1099511627776 : Nat) ∧
 tblL B.toNat
 (setF
 (mkN
 (fun (j : Nat) =>
 ((nthD ((0 : Int), (0 : Int)) b j).fst, (nthD ((0 : Int), (0 : Int)) b j).snd))
 b.length)) =
 tblL B.toNat (setF b) ∧
 (0 : Int) ≤ IntKind.i64.wrap (A * A) ∧
 IntKind.i64.wrap (A * A) = IntKind.i64.wrap (A * A) ∧
 (↑(1 : Nat) : Int) * IntKind.i64.wrap (A * A) ≤ (281474976710656 : Int) ∧
 IntKind.i64.wrap (A * A) ≤ (9223372036854775807 : Int) ∧
 ∃ (x : PUnit),
 (∃ (x : Nat),
 (x ≤ A.toNat ∧ True) ∧
 ((0 : Int) = (↑x : Int) ∧ True) ∧
 ((IntKind.i64.wrap (A * A)).toNat = A.toNat * A.toNat ∧
 (∀ (j : Nat),
 j < A.toNat * A.toNat →
 false =
 nthD false (tblL A.toNat (cmA (setF a) (setF b) A.toNat x))
 j) ∧
 True) ∧
 True) ∧
 ∀ (x_1 : Nat),
 x_1 ≤ A.toNat ∧ True →
 (decide ((↑x_1 : Int) < A) = true →
 ∃ (x_2 : Nat),
 (∃ (x : Nat),
 (x ≤ A.toNat ∧ x_2 < A.toNat) ∧
 ((0 : Int) = (↑x : Int) ∧ True) ∧
 (A.toNat * A.toNat = A.toNat * A.toNat ∧
 (∀ (j : Nat),
 j < A.toNat * A.toNat →
 nthD false
 (tblL A.toNat
 (cmA (setF a) (setF b) A.toNat x_1))
 j =
 nthD false
 (tblL A.toNat
 (cmB (setF a) (setF b) A.toNat x_2 x))
 j) ∧
 True) ∧
 True) ∧
 ∀ (x_3 : Nat),
 x_3 ≤ A.toNat ∧ x_2 < A.toNat →
 (decide ((↑x_3 : Int) < A) = true →
 ∃ (x : Nat × Nat),
 (∃ (x_4 : Nat),
 (x_4 ≤ A.toNat ∧ x.fst < A.toNat ∧ x.snd < A.toNat) ∧
 ((0 : Int) = (↑x_4 : Int) ∧ True) ∧
 (A.toNat * A.toNat = A.toNat * A.toNat ∧
 (∀ (j : Nat),
 j < A.toNat * A.toNat →
 nthD false
 (tblL A.toNat
 (cmB (setF a) (setF b) A.toNat x_2
 x_3))
 j =
 nthD false
 (tblL A.toNat
 (cmC (setF a) (setF b) A.toNat
 x.fst x.snd x_4))
 j) ∧
 True) ∧
 True) ∧
 ∀ (x_4 : Nat),
 x_4 ≤ A.toNat ∧ x.fst < A.toNat ∧ x.snd < A.toNat →
 (decide ((↑x_4 : Int) < A) = true →
 (0 : Int) ≤
 IntKind.i64.wrap
 (IntKind.i64.wrap ((↑x_1 : Int) * A) +
 (↑x_3 : Int)) ∧
 IntKind.i64.wrap
 (IntKind.i64.wrap ((↑x_1 : Int) * A) +
 (↑x_3 : Int)) <
 (↑(AV.bs (tblL A.toNat (setF a))).len :
 Int)) ∧
 (decide ((↑x_4 : Int) < A) = true →
 (IntKind.i64.wrap
 (IntKind.i64.wrap ((↑x_1 : Int) * A) +
 (↑x_3 : Int))).toNat <
 (AV.bs (tblL A.toNat (setF a))).len) ∧
 ((decide ((↑x_4 : Int) < A) &&
 nthD false (tblL A.toNat (setF a))
 (IntKind.i64.wrap
 (IntKind.i64.wrap
 ((↑x_1 : Int) * A) +
 (↑x_3 : Int))).toNat) =
 true →
 ((0 : Int) ≤
 IntKind.i64.wrap
 (IntKind.i64.wrap
 ((↑x_1 : Int) * A) +
 (↑x_4 : Int)) ∧
 IntKind.i64.wrap
 (IntKind.i64.wrap
 ((↑x_1 : Int) * A) +
 (↑x_4 : Int)) <
 (↑(IntKind.i64.wrap (A * A)).toNat :
 Int)) ∧
 (IntKind.i64.wrap
 (IntKind.i64.wrap
 ((↑x_1 : Int) * A) +
 (↑x_4 : Int))).toNat <
 A.toNat * A.toNat ∧
 (nthD false
 (tblL A.toNat
 (cmC (setF a) (setF b) A.toNat
 x.fst x.snd x_4))
 (IntKind.i64.wrap
 (IntKind.i64.wrap
 ((↑x_1 : Int) * A) +
 (↑x_4 : Int))).toNat =
 false →
 (0 : Int) ≤
 IntKind.i64.wrap
 (IntKind.i64.wrap
 ((↑x_3 : Int) * A) +
 (↑x_4 : Int)) ∧
 IntKind.i64.wrap
 (IntKind.i64.wrap
 ((↑x_3 : Int) * A) +
 (↑x_4 : Int)) <
 (↑(AV.bs
 (tblL B.toNat
 (setF b))).len :
 Int)) ∧
 (nthD false
 (tblL A.toNat
 (cmC (setF a) (setF b)
 A.toNat x.fst x.snd x_4))
 (IntKind.i64.wrap
 (IntKind.i64.wrap
 ((↑x_1 : Int) * A) +
 (↑x_4 : Int))).toNat =
 false →
 (IntKind.i64.wrap
 (IntKind.i64.wrap
 ((↑x_3 : Int) * A) +
 (↑x_4 : Int))).toNat <
 (AV.bs
 (tblL B.toNat
 (setF b))).len) ∧
 ((0 : Int) ≤
 IntKind.i64.wrap
 (IntKind.i64.wrap
 ((↑x_1 : Int) * A) +
 (↑x_4 : Int)) ∧
 IntKind.i64.wrap
 (IntKind.i64.wrap
 ((↑x_1 : Int) * A) +
 (↑x_4 : Int)) <
 (↑(IntKind.i64.wrap
 (A * A)).toNat :
 Int)) ∧
 (IntKind.i64.wrap
 (IntKind.i64.wrap
 ((↑x_1 : Int) * A) +
 (↑x_4 : Int))).toNat <
 A.toNat * A.toNat ∧
 ∃ (x_5 : Nat),
 (x_5 ≤ A.toNat ∧
 x.fst < A.toNat ∧
 x.snd < A.toNat) ∧
 ((lCc A.toNat (setF a)
 (setF b)).ann
 x).mu
 x_5 <
 ((lCc A.toNat (setF a)
 (setF b)).ann
 x).mu
 x_4 ∧
 ((A = A ∧
 a.length =
 a.length) ∧
 (B = B ∧
 b.length =
 b.length) ∧
 True ∧
 True ∧
 True ∧
 (0 : Int) =
 (0 :
 Int) ∧
 A = A ∧
 (AV.bs
 (tblL
 A.toNat
 (setF
 a))).len =
 (AV.bs
 (tblL
 A.toNat
 (setF
 a))).len ∧
 (AV.bs
 (tblL
 B.toNat
 (setF
 b))).len =
 (AV.bs
 (tblL
 B.toNat
 (setF
 b))).len ∧
 (IntKind.i64.wrap
 (A *
 A)).toNat =
 (IntKind.i64.wrap
 (A *
 A)).toNat ∧
 (↑x_1 :
 Int) =
 (↑x_1 :
 Int) ∧
 (↑x_3 :
 Int) =
 (↑x_3 :
 Int) ∧
 IntKind.i64.wrap
 ((↑x_4 :
 Int) +
 (1 :
 Int)) =
 (↑x_5 :
 Int) ∧
 (A =
 A ∧
 a.length =
 a.length) ∧
 validF
 A
 (mkN
 (fun
 (j :
 Nat) =>
 ((nthD
 ((0 :
 Int),
 (0 :
 Int))
 a
 j).fst,
 (nthD
 ((0 :
 Int),
 (0 :
 Int))
 a
 j).snd))
 a.length) =
 validF
 A
 (mkN
 (fun
 (j :
 Nat) =>
 ((nthD
 ((0 :
 Int),
 (0 :
 Int))
 a
 j).fst,
 (nthD
 ((0 :
 Int),
 (0 :
 Int))
 a
 j).snd))
 a.length) ∧
 (!validF
 A
 (mkN
 (fun
 (j :
 Nat) =>
 ((nthD
 ((0 :
 Int),
 (0 :
 Int))
 a
 j).fst,
 (nthD
 ((0 :
 Int),
 (0 :
 Int))
 a
 j).snd))
 a.length)) =
 !validF
 A
 (mkN
 (fun
 (j :
 Nat) =>
 ((nthD
 ((0 :
 Int),
 (0 :
 Int))
 a
 j).fst,
 (nthD
 ((0 :
 Int),
 (0 :
 Int))
 a
 j).snd))
 a.length) ∧
 (!validF
 A
 (mkN
 (fun
 (j :
 Nat) =>
 ((nthD
 ((0 :
 Int),
 (0 :
 Int))
 a
 j).fst,
 (nthD
 ((0 :
 Int),
 (0 :
 Int))
 a
 j).snd))
 a.length)) =
 !validF
 A
 (mkN
 (fun
 (j :
 Nat) =>
 ((nthD
 ((0 :
 Int),
 (0 :
 Int))
 a
 j).fst,
 (nthD
 ((0 :
 Int),
 (0 :
 Int))
 a
 j).snd))
 a.length) ∧
 (!validF
 A
 (mkN
 (fun
 (j :
 Nat) =>
 ((nthD
 ((0 :
 Int),
 (0 :
 Int))
 a
 j).fst,
 (nthD
 ((0 :
 Int),
 (0 :
 Int))
 a
 j).snd))
 a.length) ||
 !validF
 B
 (mkN
 (fun
 (j :
 Nat) =>
 ((nthD
 ((0 :
 Int),
 (0 :
 Int))
 b
 j).fst,
 (nthD
 ((0 :
 Int),
 (0 :
 Int))
 b
 j).snd))
 b.length)) =
 (!validF
 A
 (mkN
 (fun
 (j :
 Nat) =>
 ((nthD
 ((0 :
 Int),
 (0 :
 Int))
 a
 j).fst,
 (nthD
 ((0 :
 Int),
 (0 :
 Int))
 a
 j).snd))
 a.length) ||
 !validF
 B
 (mkN
 (fun
 (j :
 Nat) =>
 ((nthD
 ((0 :
 Int),
 (0 :
 Int))
 b
 j).fst,
 (nthD
 ((0 :
 Int),
 (0 :
 Int))
 b
 j).snd))
 b.length)) ∧
 (!validF
 A
 (mkN
 (fun
 (j :
 Nat) =>
 ((nthD
 ((0 :
 Int),
 (0 :
 Int))
 a
 j).fst,
 (nthD
 ((0 :
 Int),
 (0 :
 Int))
 a
 j).snd))
 a.length) ||
 !validF
 B
 (mkN
 (fun
 (j :
 Nat) =>
 ((nthD
 ((0 :
 Int),
 (0 :
 Int))
 b
 j).fst,
 (nthD
 ((0 :
 Int),
 (0 :
 Int))
 b
 j).snd))
 b.length)) =
 (!validF
 A
 (mkN
 (fun
 (j :
 Nat) =>
 ((nthD
 ((0 :
 Int),
 (0 :
 Int))
 a
 j).fst,
 (nthD
 ((0 :
 Int),
 (0 :
 Int))
 a
 j).snd))
 a.length) ||
 !validF
 B
 (mkN
 (fun
 (j :
 Nat) =>
 ((nthD
 ((0 :
 Int),
 (0 :
 Int))
 b
 j).fst,
 (nthD
 ((0 :
 Int),
 (0 :
 Int))
 b
 j).snd))
 b.length)) ∧
 false =
 false ∧
 True ∧
 A =
 A ∧
 (A =
 A ∧
 a.length =
 a.length) ∧
 (AV.bs
 (tblL
 A.toNat
 (setF
 a))).len =
 (AV.bs
 (tblL
 A.toNat
 (setF
 a))).len ∧
 (B =
 B ∧
 b.length =
 b.length) ∧
 (AV.bs
 (tblL
 B.toNat
 (setF
 b))).len =
 (AV.bs
 (tblL
 B.toNat
 (setF
 b))).len ∧
 A =
 A ∧
 A =
 A ∧
 IntKind.i64.wrap
 (A *
 A) =
 IntKind.i64.wrap
 (A *
 A) ∧
 (IntKind.i64.wrap
 (A *
 A)).toNat =
 (IntKind.i64.wrap
 (A *
 A)).toNat ∧
 (↑x_1 :
 Int) =
 (↑x_1 :
 Int) ∧
 A =
 A ∧
 true =
 true ∧
 (↑x_3 :
 Int) =
 (↑x_3 :
 Int) ∧
 A =
 A ∧
 true =
 true ∧
 True) ∧
 (a.length = a.length ∧
 (∀ (j : Nat),
 j < a.length →
 (nthD
 ((0 :
 Int),
 (0 :
 Int))
 a
 j).fst =
 (nthD
 ((0 :
 Int),
 (0 :
 Int))
 a
 j).fst) ∧
 (∀ (j : Nat),
 j < a.length →
 (nthD
 ((0 :
 Int),
 (0 :
 Int))
 a
 j).snd =
 (nthD
 ((0 :
 Int),
 (0 :
 Int))
 a
 j).snd) ∧
 True) ∧
 (b.length = b.length ∧
 (∀ (j : Nat),
 j < b.length →
 (nthD
 ((0 :
 Int),
 (0 :
 Int))
 b
 j).fst =
 (nthD
 ((0 :
 Int),
 (0 :
 Int))
 b
 j).fst) ∧
 (∀ (j : Nat),
 j <
 b.length →
 (nthD
 ((0 :
 Int),
 (0 :
 Int))
 b
 j).snd =
 (nthD
 ((0 :
 Int),
 (0 :
 Int))
 b
 j).snd) ∧
 True) ∧
 (A = A ∧
 a.length =
 a.length) ∧
 (B = B ∧
 b.length =
 b.length) ∧
 ((0 : Int) =
 (0 :
 Int) ∧
 True) ∧
 ((AV.bs
 (tblL
 A.toNat
 (setF
 a))).len =
 (AV.bs
 (tblL
 A.toNat
 (setF
 a))).len ∧
 (∀
 (j :
 Nat),
 j <
 (AV.bs
 (tblL
 A.toNat
 (setF
 a))).len →
 nthD
 false
 (tblL
 A.toNat
 (setF
 a))
 j =
 nthD
 false
 (tblL
 A.toNat
 (setF
 a))
 j) ∧
 True) ∧
 ((AV.bs
 (tblL
 B.toNat
 (setF
 b))).len =
 (AV.bs
 (tblL
 B.toNat
 (setF
 b))).len ∧
 (∀
 (j :
 Nat),
 j <
 (AV.bs
 (tblL
 B.toNat
 (setF
 b))).len →
 nthD
 false
 (tblL
 B.toNat
 (setF
 b))
 j =
 nthD
 false
 (tblL
 B.toNat
 (setF
 b))
 j) ∧
 True) ∧
 (A.toNat *
 A.toNat =
 A.toNat *
 A.toNat ∧
 (∀
 (j :
 Nat),
 j <
 A.toNat *
 A.toNat →
 (bif
 j.beq
 (IntKind.i64.wrap
 (IntKind.i64.wrap
 ((↑x_1 :
 Int) *
 A) +
 (↑x_4 :
 Int))).toNat then
 nthD
 false
 (tblL
 A.toNat
 (cmC
 (setF
 a)
 (setF
 b)
 A.toNat
 x.fst
 x.snd
 x_4))
 (IntKind.i64.wrap
 (IntKind.i64.wrap
 ((↑x_1 :
 Int) *
 A) +
 (↑x_4 :
 Int))).toNat ||
 nthD
 false
 (tblL
 B.toNat
 (setF
 b))
 (IntKind.i64.wrap
 (IntKind.i64.wrap
 ((↑x_3 :
 Int) *
 A) +
 (↑x_4 :
 Int))).toNat
 else
 nthD
 false
 (tblL
 A.toNat
 (cmC
 (setF
 a)
 (setF
 b)
 A.toNat
 x.fst
 x.snd
 x_4))
 j) =
 nthD
 false
 (tblL
 A.toNat
 (cmC
 (setF
 a)
 (setF
 b)
 A.toNat
 x.fst
 x.snd
 x_5))
 j) ∧
 True) ∧
 True) ∧
 ((decide ((↑x_4 : Int) < A) &&
 nthD false (tblL A.toNat (setF a))
 (IntKind.i64.wrap
 (IntKind.i64.wrap
 ((↑x_1 : Int) * A) +
 (↑x_3 : Int))).toNat) =
 false →
 ∃ (x_5 : Nat),
 (x_5 ≤ A.toNat ∧ x_2 < A.toNat) ∧
 ((lCb A.toNat (setF a) (setF b)).ann
 x_2).mu
 x_5 <
 ((lCb A.toNat (setF a) (setF b)).ann
 x_2).mu
 x_3 ∧
 ((A = A ∧ a.length = a.length) ∧
 (B = B ∧ b.length = b.length) ∧
 True ∧
 True ∧
 True ∧
 (0 : Int) = (0 : Int) ∧
 A = A ∧
 (AV.bs
 (tblL A.toNat
 (setF
 a))).len =
 (AV.bs
 (tblL A.toNat
 (setF
 a))).len ∧
 (AV.bs
 (tblL
 B.toNat
 (setF
 b))).len =
 (AV.bs
 (tblL
 B.toNat
 (setF
 b))).len ∧
 (IntKind.i64.wrap
 (A *
 A)).toNat =
 (IntKind.i64.wrap
 (A *
 A)).toNat ∧
 (↑x_1 : Int) =
 (↑x_1 :
 Int) ∧
 IntKind.i64.wrap
 ((↑x_3 :
 Int) +
 (1 :
 Int)) =
 (↑x_5 :
 Int) ∧
 (A = A ∧
 a.length =
 a.length) ∧
 validF A
 (mkN
 (fun
 (j :
 Nat) =>
 ((nthD
 ((0 :
 Int),
 (0 :
 Int))
 a
 j).fst,
 (nthD
 ((0 :
 Int),
 (0 :
 Int))
 a
 j).snd))
 a.length) =
 validF
 A
 (mkN
 (fun
 (j :
 Nat) =>
 ((nthD
 ((0 :
 Int),
 (0 :
 Int))
 a
 j).fst,
 (nthD
 ((0 :
 Int),
 (0 :
 Int))
 a
 j).snd))
 a.length) ∧
 (!validF
 A
 (mkN
 (fun
 (j :
 Nat) =>
 ((nthD
 ((0 :
 Int),
 (0 :
 Int))
 a
 j).fst,
 (nthD
 ((0 :
 Int),
 (0 :
 Int))
 a
 j).snd))
 a.length)) =
 !validF
 A
 (mkN
 (fun
 (j :
 Nat) =>
 ((nthD
 ((0 :
 Int),
 (0 :
 Int))
 a
 j).fst,
 (nthD
 ((0 :
 Int),
 (0 :
 Int))
 a
 j).snd))
 a.length) ∧
 (!validF
 A
 (mkN
 (fun
 (j :
 Nat) =>
 ((nthD
 ((0 :
 Int),
 (0 :
 Int))
 a
 j).fst,
 (nthD
 ((0 :
 Int),
 (0 :
 Int))
 a
 j).snd))
 a.length)) =
 !validF
 A
 (mkN
 (fun
 (j :
 Nat) =>
 ((nthD
 ((0 :
 Int),
 (0 :
 Int))
 a
 j).fst,
 (nthD
 ((0 :
 Int),
 (0 :
 Int))
 a
 j).snd))
 a.length) ∧
 (!validF
 A
 (mkN
 (fun
 (j :
 Nat) =>
 ((nthD
 ((0 :
 Int),
 (0 :
 Int))
 a
 j).fst,
 (nthD
 ((0 :
 Int),
 (0 :
 Int))
 a
 j).snd))
 a.length) ||
 !validF
 B
 (mkN
 (fun
 (j :
 Nat) =>
 ((nthD
 ((0 :
 Int),
 (0 :
 Int))
 b
 j).fst,
 (nthD
 ((0 :
 Int),
 (0 :
 Int))
 b
 j).snd))
 b.length)) =
 (!validF
 A
 (mkN
 (fun
 (j :
 Nat) =>
 ((nthD
 ((0 :
 Int),
 (0 :
 Int))
 a
 j).fst,
 (nthD
 ((0 :
 Int),
 (0 :
 Int))
 a
 j).snd))
 a.length) ||
 !validF
 B
 (mkN
 (fun
 (j :
 Nat) =>
 ((nthD
 ((0 :
 Int),
 (0 :
 Int))
 b
 j).fst,
 (nthD
 ((0 :
 Int),
 (0 :
 Int))
 b
 j).snd))
 b.length)) ∧
 (!validF
 A
 (mkN
 (fun
 (j :
 Nat) =>
 ((nthD
 ((0 :
 Int),
 (0 :
 Int))
 a
 j).fst,
 (nthD
 ((0 :
 Int),
 (0 :
 Int))
 a
 j).snd))
 a.length) ||
 !validF
 B
 (mkN
 (fun
 (j :
 Nat) =>
 ((nthD
 ((0 :
 Int),
 (0 :
 Int))
 b
 j).fst,
 (nthD
 ((0 :
 Int),
 (0 :
 Int))
 b
 j).snd))
 b.length)) =
 (!validF
 A
 (mkN
 (fun
 (j :
 Nat) =>
 ((nthD
 ((0 :
 Int),
 (0 :
 Int))
 a
 j).fst,
 (nthD
 ((0 :
 Int),
 (0 :
 Int))
 a
 j).snd))
 a.length) ||
 !validF
 B
 (mkN
 (fun
 (j :
 Nat) =>
 ((nthD
 ((0 :
 Int),
 (0 :
 Int))
 b
 j).fst,
 (nthD
 ((0 :
 Int),
 (0 :
 Int))
 b
 j).snd))
 b.length)) ∧
 false =
 false ∧
 True ∧
 A =
 A ∧
 (A =
 A ∧
 a.length =
 a.length) ∧
 (AV.bs
 (tblL
 A.toNat
 (setF
 a))).len =
 (AV.bs
 (tblL
 A.toNat
 (setF
 a))).len ∧
 (B =
 B ∧
 b.length =
 b.length) ∧
 (AV.bs
 (tblL
 B.toNat
 (setF
 b))).len =
 (AV.bs
 (tblL
 B.toNat
 (setF
 b))).len ∧
 A =
 A ∧
 A =
 A ∧
 IntKind.i64.wrap
 (A *
 A) =
 IntKind.i64.wrap
 (A *
 A) ∧
 (IntKind.i64.wrap
 (A *
 A)).toNat =
 (IntKind.i64.wrap
 (A *
 A)).toNat ∧
 (↑x_1 :
 Int) =
 (↑x_1 :
 Int) ∧
 A =
 A ∧
 true =
 true ∧
 True) ∧
 (a.length = a.length ∧
 (∀ (j : Nat),
 j < a.length →
 (nthD
 ((0 : Int),
 (0 : Int))
 a j).fst =
 (nthD
 ((0 : Int),
 (0 : Int))
 a j).fst) ∧
 (∀ (j : Nat),
 j < a.length →
 (nthD
 ((0 : Int),
 (0 : Int))
 a j).snd =
 (nthD
 ((0 : Int),
 (0 : Int))
 a j).snd) ∧
 True) ∧
 (b.length = b.length ∧
 (∀ (j : Nat),
 j < b.length →
 (nthD
 ((0 : Int),
 (0 : Int))
 b j).fst =
 (nthD
 ((0 : Int),
 (0 : Int))
 b j).fst) ∧
 (∀ (j : Nat),
 j < b.length →
 (nthD
 ((0 : Int),
 (0 : Int))
 b j).snd =
 (nthD
 ((0 : Int),
 (0 : Int))
 b j).snd) ∧
 True) ∧
 (A = A ∧ a.length = a.length) ∧
 (B = B ∧
 b.length = b.length) ∧
 ((0 : Int) = (0 : Int) ∧
 True) ∧
 ((AV.bs
 (tblL A.toNat
 (setF
 a))).len =
 (AV.bs
 (tblL A.toNat
 (setF
 a))).len ∧
 (∀ (j : Nat),
 j <
 (AV.bs
 (tblL
 A.toNat
 (setF
 a))).len →
 nthD false
 (tblL
 A.toNat
 (setF a))
 j =
 nthD false
 (tblL
 A.toNat
 (setF a))
 j) ∧
 True) ∧
 ((AV.bs
 (tblL B.toNat
 (setF
 b))).len =
 (AV.bs
 (tblL B.toNat
 (setF
 b))).len ∧
 (∀ (j : Nat),
 j <
 (AV.bs
 (tblL
 B.toNat
 (setF
 b))).len →
 nthD false
 (tblL
 B.toNat
 (setF
 b))
 j =
 nthD false
 (tblL
 B.toNat
 (setF
 b))
 j) ∧
 True) ∧
 (A.toNat * A.toNat =
 A.toNat *
 A.toNat ∧
 (∀ (j : Nat),
 j <
 A.toNat *
 A.toNat →
 nthD false
 (tblL
 A.toNat
 (cmC
 (setF
 a)
 (setF
 b)
 A.toNat
 x.fst
 x.snd
 x_4))
 j =
 nthD false
 (tblL
 A.toNat
 (cmB
 (setF
 a)
 (setF
 b)
 A.toNat
 x_2
 x_5))
 j) ∧
 True) ∧
 True)) ∧
 (decide ((↑x_3 : Int) < A) = false →
 ∃ (x_4 : Nat),
 (x_4 ≤ A.toNat ∧ True) ∧
 ((PLoop.of (lCa A.toNat (setF a) (setF b))).ann x).mu
 x_4 <
 ((PLoop.of (lCa A.toNat (setF a) (setF b))).ann
 x).mu
 x_1 ∧
 ((A = A ∧ a.length = a.length) ∧
 (B = B ∧ b.length = b.length) ∧
 True ∧
 True ∧
 True ∧
 (0 : Int) = (0 : Int) ∧
 A = A ∧
 (AV.bs (tblL A.toNat (setF a))).len =
 (AV.bs
 (tblL A.toNat (setF a))).len ∧
 (AV.bs
 (tblL B.toNat
 (setF b))).len =
 (AV.bs
 (tblL B.toNat
 (setF b))).len ∧
 (IntKind.i64.wrap (A * A)).toNat =
 (IntKind.i64.wrap
 (A * A)).toNat ∧
 IntKind.i64.wrap
 ((↑x_1 : Int) +
 (1 : Int)) =
 (↑x_4 : Int) ∧
 (A = A ∧
 a.length = a.length) ∧
 validF A
 (mkN
 (fun (j : Nat) =>
 ((nthD
 ((0 : Int),
 (0 : Int))
 a j).fst,
 (nthD
 ((0 : Int),
 (0 : Int))
 a j).snd))
 a.length) =
 validF A
 (mkN
 (fun (j : Nat) =>
 ((nthD
 ((0 : Int),
 (0 : Int))
 a j).fst,
 (nthD
 ((0 : Int),
 (0 : Int))
 a j).snd))
 a.length) ∧
 (!validF A
 (mkN
 (fun
 (j : Nat) =>
 ((nthD
 ((0 :
 Int),
 (0 :
 Int))
 a
 j).fst,
 (nthD
 ((0 :
 Int),
 (0 :
 Int))
 a
 j).snd))
 a.length)) =
 !validF A
 (mkN
 (fun
 (j : Nat) =>
 ((nthD
 ((0 :
 Int),
 (0 :
 Int))
 a
 j).fst,
 (nthD
 ((0 :
 Int),
 (0 :
 Int))
 a
 j).snd))
 a.length) ∧
 (!validF A
 (mkN
 (fun
 (j :
 Nat) =>
 ((nthD
 ((0 :
 Int),
 (0 :
 Int))
 a
 j).fst,
 (nthD
 ((0 :
 Int),
 (0 :
 Int))
 a
 j).snd))
 a.length)) =
 !validF A
 (mkN
 (fun
 (j :
 Nat) =>
 ((nthD
 ((0 :
 Int),
 (0 :
 Int))
 a
 j).fst,
 (nthD
 ((0 :
 Int),
 (0 :
 Int))
 a
 j).snd))
 a.length) ∧
 (!validF A
 (mkN
 (fun
 (j :
 Nat) =>
 ((nthD
 ((0 :
 Int),
 (0 :
 Int))
 a
 j).fst,
 (nthD
 ((0 :
 Int),
 (0 :
 Int))
 a
 j).snd))
 a.length) ||
 !validF B
 (mkN
 (fun
 (j :
 Nat) =>
 ((nthD
 ((0 :
 Int),
 (0 :
 Int))
 b
 j).fst,
 (nthD
 ((0 :
 Int),
 (0 :
 Int))
 b
 j).snd))
 b.length)) =
 (!validF A
 (mkN
 (fun
 (j :
 Nat) =>
 ((nthD
 ((0 :
 Int),
 (0 :
 Int))
 a
 j).fst,
 (nthD
 ((0 :
 Int),
 (0 :
 Int))
 a
 j).snd))
 a.length) ||
 !validF B
 (mkN
 (fun
 (j :
 Nat) =>
 ((nthD
 ((0 :
 Int),
 (0 :
 Int))
 b
 j).fst,
 (nthD
 ((0 :
 Int),
 (0 :
 Int))
 b
 j).snd))
 b.length)) ∧
 (!validF A
 (mkN
 (fun
 (j :
 Nat) =>
 ((nthD
 ((0 :
 Int),
 (0 :
 Int))
 a
 j).fst,
 (nthD
 ((0 :
 Int),
 (0 :
 Int))
 a
 j).snd))
 a.length) ||
 !validF B
 (mkN
 (fun
 (j :
 Nat) =>
 ((nthD
 ((0 :
 Int),
 (0 :
 Int))
 b
 j).fst,
 (nthD
 ((0 :
 Int),
 (0 :
 Int))
 b
 j).snd))
 b.length)) =
 (!validF A
 (mkN
 (fun
 (j :
 Nat) =>
 ((nthD
 ((0 :
 Int),
 (0 :
 Int))
 a
 j).fst,
 (nthD
 ((0 :
 Int),
 (0 :
 Int))
 a
 j).snd))
 a.length) ||
 !validF B
 (mkN
 (fun
 (j :
 Nat) =>
 ((nthD
 ((0 :
 Int),
 (0 :
 Int))
 b
 j).fst,
 (nthD
 ((0 :
 Int),
 (0 :
 Int))
 b
 j).snd))
 b.length)) ∧
 false = false ∧
 True ∧
 A = A ∧
 (A = A ∧
 a.length =
 a.length) ∧
 (AV.bs
 (tblL
 A.toNat
 (setF
 a))).len =
 (AV.bs
 (tblL
 A.toNat
 (setF
 a))).len ∧
 (B = B ∧
 b.length =
 b.length) ∧
 (AV.bs
 (tblL
 B.toNat
 (setF
 b))).len =
 (AV.bs
 (tblL
 B.toNat
 (setF
 b))).len ∧
 A =
 A ∧
 A =
 A ∧
 IntKind.i64.wrap
 (A *
 A) =
 IntKind.i64.wrap
 (A *
 A) ∧
 (IntKind.i64.wrap
 (A *
 A)).toNat =
 (IntKind.i64.wrap
 (A *
 A)).toNat ∧
 True) ∧
 (a.length = a.length ∧
 (∀ (j : Nat),
 j < a.length →
 (nthD ((0 : Int), (0 : Int)) a j).fst =
 (nthD ((0 : Int), (0 : Int)) a j).fst) ∧
 (∀ (j : Nat),
 j < a.length →
 (nthD ((0 : Int), (0 : Int)) a j).snd =
 (nthD ((0 : Int), (0 : Int)) a
 j).snd) ∧
 True) ∧
 (b.length = b.length ∧
 (∀ (j : Nat),
 j < b.length →
 (nthD ((0 : Int), (0 : Int)) b j).fst =
 (nthD ((0 : Int), (0 : Int)) b
 j).fst) ∧
 (∀ (j : Nat),
 j < b.length →
 (nthD ((0 : Int), (0 : Int)) b
 j).snd =
 (nthD ((0 : Int), (0 : Int)) b
 j).snd) ∧
 True) ∧
 (A = A ∧ a.length = a.length) ∧
 (B = B ∧ b.length = b.length) ∧
 ((0 : Int) = (0 : Int) ∧ True) ∧
 ((AV.bs (tblL A.toNat (setF a))).len =
 (AV.bs
 (tblL A.toNat (setF a))).len ∧
 (∀ (j : Nat),
 j <
 (AV.bs
 (tblL A.toNat
 (setF a))).len →
 nthD false
 (tblL A.toNat (setF a)) j =
 nthD false
 (tblL A.toNat (setF a)) j) ∧
 True) ∧
 ((AV.bs (tblL B.toNat (setF b))).len =
 (AV.bs
 (tblL B.toNat (setF b))).len ∧
 (∀ (j : Nat),
 j <
 (AV.bs
 (tblL B.toNat
 (setF b))).len →
 nthD false
 (tblL B.toNat (setF b))
 j =
 nthD false
 (tblL B.toNat (setF b))
 j) ∧
 True) ∧
 (A.toNat * A.toNat =
 A.toNat * A.toNat ∧
 (∀ (j : Nat),
 j < A.toNat * A.toNat →
 nthD false
 (tblL A.toNat
 (cmB (setF a) (setF b)
 A.toNat x_2 x_3))
 j =
 nthD false
 (tblL A.toNat
 (cmA (setF a) (setF b)
 A.toNat x_4))
 j) ∧
 True) ∧
 True)) ∧
 (decide ((↑x_1 : Int) < A) = false →
 (IntKind.i64.wrap (A * A)).toNat = A.toNat * A.toNat ∧
 ((0 : Int) ≤ A ∧ A ≤ (64 : Int)) ∧
 (mkN (nthD false (tblL A.toNat (cmA (setF a) (setF b) A.toNat x_1)))
 (A.toNat * A.toNat)).length =
 A.toNat * A.toNat ∧
 (AV.ps
 (normL A
 (tblF A.toNat
 (mkN
 (nthD false
 (tblL A.toNat
 (cmA (setF a) (setF b) A.toNat x_1)))
 (A.toNat * A.toNat))))).len =
 (bifL (bothF A a B b)
 (normL A (cmpK (setF a) (setF b) A.toNat))).length ∧
 ((∀ (j : Nat),
 j <
 (bifL (bothF A a B b)
 (normL A
 (cmpK (setF a) (setF b) A.toNat))).length →
 (nthD ((0 : Int), (0 : Int))
 (normL A
 (tblF A.toNat
 (mkN
 (nthD false
 (tblL A.toNat
 (cmA (setF a) (setF b) A.toNat x_1)))
 (A.toNat * A.toNat))))
 j).fst =
 (nthD ((0 : Int), (0 : Int))
 (bifL (bothF A a B b)
 (normL A (cmpK (setF a) (setF b) A.toNat)))
 j).fst) ∧
 (∀ (j : Nat),
 j <
 (bifL (bothF A a B b)
 (normL A
 (cmpK (setF a) (setF b) A.toNat))).length →
 (nthD ((0 : Int), (0 : Int))
 (normL A
 (tblF A.toNat
 (mkN
 (nthD false
 (tblL A.toNat
 (cmA (setF a) (setF b) A.toNat x_1)))
 (A.toNat * A.toNat))))
 j).snd =
 (nthD ((0 : Int), (0 : Int))
 (bifL (bothF A a B b)
 (normL A (cmpK (setF a) (setF b) A.toNat)))
 j).snd) ∧
 True) ∧
 ((A = bif bothF A a B b then A else (0 : Int)) ∧
 (AV.ps
 (normL A
 (tblF A.toNat
 (mkN
 (nthD false
 (tblL A.toNat
 (cmA (setF a) (setF b) A.toNat x_1)))
 (A.toNat * A.toNat))))).len =
 (bifL (bothF A a B b)
 (normL A
 (cmpK (setF a) (setF b) A.toNat))).length ∧
 True) ∧
 ((0 : Int) =
 bif bothF A a B b then (0 : Int) else (1 : Int)) ∧
 True))) := by kernel_rfl
theorem v32 (A : Int) (a : List Pq) (B : Int) (b : List Pq) (ha : L9 a) (hb : L9 b) : fnVc (tab [kVal' [], kTbl [none, none, none, none, none, some (.bs (tblL A.toNat (setF a))), some (.bs (tblL B.toNat (setF b)))], kLst []] [(0, .of (lCa A.toNat (setF a) (setF b))), (2, lCb A.toNat (setF a) (setF b)), (4, lCc A.toNat (setF a) (setF b))]) Try.f32 [rlV A 0 a, rlV B 1 b] [arP a, arP b] (resIs (relE (bif bothF A a B b then A else 0) (bif bothF A a B b then 0 else 1) (bifL (bothF A a B b) (normL A (cmpK (setF a) (setF b) A.toNat))).length) 38 (bifL (bothF A a B b) (normL A (cmpK (setF a) (setF b) A.toNat))).length (psCols (bifL (bothF A a B b) (normL A (cmpK (setF a) (setF b) A.toNat))))) := by
  rw [v32_eq]
  simp only [eq_self, true_and, and_true, implies_true, imp_self, mkN_ps, mkN_rs, mkN_self, mkN_len, PLoop.of, lCnt, AV.len, lCa, lCb, lCc, lIt, lCq, mk_tbl]
  refine ⟨ha, fun _ => hb, fun h => ?_, fun h => ?_⟩
  · have hv : bothF A a B b = false := by
      rw [bothF]
      cases ea : validF A a <;> cases eb : validF B b <;> simp_all
    simp [hv, bifL]
  · have hv : bothF A a B b = true := by
      rw [bothF]
      cases ea : validF A a <;> cases eb : validF B b <;> simp_all
    obtain ⟨h1, h2, h3⟩ := bothF_iff.1 hv
    subst h3
    obtain ⟨q1, q2, q3⟩ := validF_iff.1 h1
    have hs := sqw q1 q2
    have hsq : A.toNat * A.toNat ≤ 4096 := sq_le (by omega)
    rw [hv, hs]
    simp only [tblL_len, bifL, cond_true, Int.toNat_natCast, true_and]
    refine ⟨h1, ha, h2, hb, by omega, by omega, by omega, (), ⟨0, by simp, rfl, fun j hj => cmA_zero hj⟩, fun i hi => ⟨fun hli => ⟨i, ⟨0, ?_, rfl, fun j hj => cmB_zero hj⟩, fun m hm => ⟨fun hlm => ⟨(i, m), ⟨0, ?_, rfl, fun j hj => cmC_zero hj⟩, fun k hk => ?_⟩, fun hlm => ?_⟩⟩, fun hli => ?_⟩⟩
    · have := of_decide_eq_true hli; omega
    · have := of_decide_eq_true hli; have := of_decide_eq_true hlm; simp only; omega
    · have hi2 := of_decide_eq_true hli
      have hm2 := of_decide_eq_true hlm
      have i1 := ixw (a := i) (b := m) (N := A) (by omega) (by omega) (by omega)
      have i1' := ix_lt (n := A.toNat) (a := i) (b := m) (by omega) (by omega)
      rw [i1]
      simp only [Int.toNat_natCast]
      rw [tbl_at (by omega) (by omega)]
      refine ⟨fun hlk => by omega, fun hlk => by omega, fun hc => ?_, fun hc => ?_⟩
      · simp only [Bool.and_eq_true] at hc
        have hk2 := of_decide_eq_true hc.1
        have i2 := ixw (a := i) (b := k) (N := A) (by omega) (by omega) (by omega)
        have i2' := ix_lt (n := A.toNat) (a := i) (b := k) (by omega) (by omega)
        have i3 := ixw (a := m) (b := k) (N := A) (by omega) (by omega) (by omega)
        have i3' := ix_lt (n := A.toNat) (a := m) (b := k) (by omega) (by omega)
        rw [i2, i3]
        simp only [Int.toNat_natCast]
        exact ⟨by omega, i2', fun _ => by omega, fun _ => i3', by omega, i2', k + 1, ⟨by omega, by omega, by omega⟩, by omega, wrS (n := 64) (by omega) (by omega), fun j hj => cmC_step (by omega) (by omega) (by omega) hc.2 hj⟩
      · refine ⟨m + 1, ⟨by omega, by omega⟩, by omega, wrS (n := 64) (by omega) (by omega), fun j hj => cmC_done hj ?_⟩
        cases e : setF a i m
        · exact .inr rfl
        · rw [e, Bool.and_true] at hc
          have := of_decide_eq_false hc
          exact .inl (by omega)
    · have := of_decide_eq_false hlm
      have e : m = A.toNat := by omega
      subst e
      exact ⟨i + 1, by omega, by omega, wrS (n := 64) (by omega) (by omega), fun j hj => cmB_full hj⟩
    · have := of_decide_eq_false hli
      have e : i = A.toNat := by omega
      subst e
      rw [norm_tbl, cmA_full]
      simp only [implies_true, and_true]
      exact ⟨q1, q2⟩

theorem cmL_all {f g : Pf} {n : Nat} {x y : Int} : cmL f g f n x y = false := by
  rw [cmL, List.any_eq_false]
  intro k _
  cases f x k <;> simp
theorem cmL_none {f g left : Pf} {n : Nat} (h : ∀ a b, left a b = false) : cmL f g left n = cmpK f g n := by
  funext x y
  simp only [cmL, cmpK, h, Bool.not_false, Bool.and_true]
theorem cmL_take {N : Int} {l : List Pq} {f left : Pf} (hs : Sup N.toNat f) (hl : ∀ x y, left x y = true → f x y = true) {p q : Int} (h : left p q = true) (hv : validF N l = true) (x y : Int) : stL (cmL f (setF l) left N.toNat) (normL N (setF l)) p q (normL N (setF l)).length x y = cmL f (setF l) (fun x y => left x y && !(x == p && y == q)) N.toNat x y := by
  have hf := hl _ _ h
  have hsp := hs _ _ hf
  rw [stL, List.take_length, Bool.eq_iff_iff, Bool.or_eq_true, Bool.and_eq_true, beq_iff_eq]
  have e : (normL N (setF l)).any (fun t => t.1 == q && t.2 == y) = setF (normL N (setF l)) q y := rfl
  rw [e]
  have e2 : setF (normL N (setF l)) q y = true ↔ setF l q y = true := by
    rw [normL_iff]
    constructor
    · exact fun h => h.2.2.2.2
    · intro h2
      have := sup_set hv _ _ h2
      exact ⟨by omega, by omega, by omega, by omega, h2⟩
  rw [e2]
  simp only [cmL, List.any_eq_true, List.mem_range, Bool.and_eq_true, Bool.not_eq_true', Bool.and_eq_false_iff, Bool.not_eq_false', beq_iff_eq]
  constructor
  · rintro (⟨k, hk, ⟨h1, h2⟩, h3⟩ | ⟨rfl, h1⟩)
    · exact ⟨k, hk, ⟨h1, .inl h2⟩, h3⟩
    · obtain ⟨k, rfl⟩ := Int.eq_ofNat_of_zero_le hsp.2.2.1
      exact ⟨k, by omega, ⟨hf, .inr ⟨rfl, rfl⟩⟩, h1⟩
  · rintro ⟨k, hk, ⟨h1, h2 | ⟨rfl, rfl⟩⟩, h3⟩
    · exact .inl ⟨k, hk, ⟨h1, h2⟩, h3⟩
    · exact .inr ⟨rfl, h3⟩
theorem allL_count {f g : Pf} {n : Nat} (h : ∀ a b, g a b = true → f a b = true) : ∀ k, (allL g n k).length ≤ (allL f n k).length := by
  intro k
  induction k with
  | zero => simp [allL_zero]
  | succ k ih =>
    rw [allL_succ, allL_succ, List.length_append, List.length_append]
    have : (rowL g k n).length ≤ (rowL f k n).length := by
      unfold rowL
      rw [List.length_map, List.length_map]
      exact filter_len_le fun x _ => h _ _
    omega
theorem allL_less {f g : Pf} {n : Nat} (h : ∀ a b, g a b = true → f a b = true) {p q : Nat} (hq : q < n) (h1 : f p q = true) (h2 : g p q = false) : ∀ k, p < k → (allL g n k).length < (allL f n k).length := by
  intro k
  induction k with
  | zero => intro h; omega
  | succ k ih =>
    intro hk
    rw [allL_succ, allL_succ, List.length_append, List.length_append]
    have h3 : (rowL g k n).length ≤ (rowL f k n).length := by
      unfold rowL
      rw [List.length_map, List.length_map]
      exact filter_len_le fun x _ => h _ _
    by_cases e : p = k
    · subst e
      have h4 := allL_count (n := n) h p
      have : (rowL g p n).length < (rowL f p n).length := by
        unfold rowL
        rw [List.length_map, List.length_map]
        exact filter_len_lt (fun x _ => h _ _) (List.mem_range.2 hq) h2 h1
      omega
    · have := ih (by omega)
      omega
theorem left_less {f left : Pf} {n : Nat} (hs : Sup n f) (hl : ∀ x y, left x y = true → f x y = true) {p q : Int} (h : left p q = true) : (allL (fun x y => left x y && !(x == p && y == q)) n n).length < (allL left n n).length := by
  have hsp := hs _ _ (hl _ _ h)
  obtain ⟨a, rfl⟩ := Int.eq_ofNat_of_zero_le hsp.1
  obtain ⟨b, rfl⟩ := Int.eq_ofNat_of_zero_le hsp.2.2.1
  refine allL_less (fun x y hxy => ?_) (p := a) (q := b) (by omega) h ?_ n (by omega)
  · simp only [Bool.and_eq_true] at hxy; exact hxy.1
  · simp
theorem stL_step {s : Pf} {T : List Pq} {p q : Int} {i : Nat} (hi : i < T.length) (x y : Int) : stL s T p q (i + 1) x y = (stL s T p q i x y || (x == p && ((nthD (0, 0) T i).1 == q && (nthD (0, 0) T i).2 == y))) := by
  rw [stL, stL, take_succ' (0, 0) hi, List.any_append]
  simp only [List.any_cons, List.any_nil, Bool.or_false]
  cases s x y <;> cases x == p <;> simp
theorem v27_eq (A : Int) (a : List Pq) (B : Int) (b : List Pq) : (fnVc (tab [kBth [], kSet [none, none, none, none, none, none, some (.mp (setF b)), none, none, some (.mp (setF a))], kNor [none, none, none, none, none, none, none, some (.ps (normL B (setF b)))]] [(0, .of (lIt A.toNat (setF a) 5 10 (fun left => .mapp (cmL (setF a) (setF b) left A.toNat)))), (2, lCq (normL B (setF b)) 32 5)]) Try.f27 [rlV A 0 a, rlV B 1 b] [arP a, arP b] (resIs (relE (bif bothF A a B b then A else 0) (bif bothF A a B b then 0 else 1) (bifL (bothF A a B b) (normL A (cmpK (setF a) (setF b) A.toNat))).length) 38 (bifL (bothF A a B b) (normL A (cmpK (setF a) (setF b) A.toNat))).length (psCols (bifL (bothF A a B b) (normL A (cmpK (setF a) (setF b) A.toNat)))))) = (a.length = a.length ∧
 b.length = b.length ∧
 (mkN (fun (j : Nat) => ((nthD ((0 : Int), (0 : Int)) a j).fst, (nthD ((0 : Int), (0 : Int)) a j).snd))
 a.length).length ≤
 (1099511627776 : Nat) ∧
 (mkN (fun (j : Nat) => ((nthD ((0 : Int), (0 : Int)) b j).fst, (nthD ((0 : Int), (0 : Int)) b j).snd))
 b.length).length ≤
 (1099511627776 : Nat) ∧
 ((!bothF A
 (mkN (fun (j : Nat) => ((nthD ((0 : Int), (0 : Int)) a j).fst, (nthD ((0 : Int), (0 : Int)) a j).snd))
 a.length)
 B
 (mkN (fun (j : Nat) => ((nthD ((0 : Int), (0 : Int)) b j).fst, (nthD ((0 : Int), (0 : Int)) b j).snd))
 b.length)) =
 true →
 (bifL (bothF A a B b) (normL A (cmpK (setF a) (setF b) A.toNat))).length = (0 : Nat) ∧
 (((0 : Int) = bif bothF A a B b then A else (0 : Int)) ∧
 (bifL (bothF A a B b) (normL A (cmpK (setF a) (setF b) A.toNat))).length = (0 : Nat) ∧ True) ∧
 ((1 : Int) = bif bothF A a B b then (0 : Int) else (1 : Int)) ∧ True) ∧
 ((!bothF A
 (mkN (fun (j : Nat) => ((nthD ((0 : Int), (0 : Int)) a j).fst, (nthD ((0 : Int), (0 : Int)) a j).snd))
 a.length)
 B
 (mkN (fun (j : Nat) => ((nthD ((0 : Int), (0 : Int)) b j).fst, (nthD ((0 : Int), (0 : Int)) b j).snd))
 b.length)) =
 false →
 b.length = b.length ∧
 (mkN (fun (j : Nat) => ((nthD ((0 : Int), (0 : Int)) b j).fst, (nthD ((0 : Int), (0 : Int)) b j).snd))
 b.length).length ≤
 (1099511627776 : Nat) ∧
 setF
 (mkN
 (fun (j : Nat) =>
 ((nthD ((0 : Int), (0 : Int)) b j).fst, (nthD ((0 : Int), (0 : Int)) b j).snd))
 b.length) =
 setF b ∧
 ((0 : Int) ≤ B ∧ B ≤ (64 : Int)) ∧
 normL B (setF b) = normL B (setF b) ∧
 a.length = a.length ∧
 (mkN
 (fun (j : Nat) =>
 ((nthD ((0 : Int), (0 : Int)) a j).fst, (nthD ((0 : Int), (0 : Int)) a j).snd))
 a.length).length ≤
 (1099511627776 : Nat) ∧
 setF
 (mkN
 (fun (j : Nat) =>
 ((nthD ((0 : Int), (0 : Int)) a j).fst, (nthD ((0 : Int), (0 : Int)) a j).snd))
 a.length) =
 setF a ∧
 ∃ (x : PUnit),
 (∃ (x : Int → Int → Bool),
 (∀ (x_1 y : Int), x x_1 y = true → setF a x_1 y = true) ∧
 True ∧
 (∀ (x_1 y : Int), false = cmL (setF a) (setF b) x A.toNat x_1 y) ∧
 ((∀ (x_1 y : Int), setF a x_1 y = x x_1 y) ∧ True) ∧ True) ∧
 ∀ (x_1 : Int → Int → Bool),
 (∀ (x y : Int), x_1 x y = true → setF a x y = true) →
 ((∀ (a b : Int), x_1 a b = false) →
 ((0 : Int) ≤ A ∧ A ≤ (64 : Int)) ∧
 (AV.ps (normL A (cmL (setF a) (setF b) x_1 A.toNat))).len =
 (bifL (bothF A a B b) (normL A (cmpK (setF a) (setF b) A.toNat))).length ∧
 ((∀ (j : Nat),
 j <
 (bifL (bothF A a B b)
 (normL A (cmpK (setF a) (setF b) A.toNat))).length →
 (nthD ((0 : Int), (0 : Int))
 (normL A (cmL (setF a) (setF b) x_1 A.toNat)) j).fst =
 (nthD ((0 : Int), (0 : Int))
 (bifL (bothF A a B b)
 (normL A (cmpK (setF a) (setF b) A.toNat)))
 j).fst) ∧
 (∀ (j : Nat),
 j <
 (bifL (bothF A a B b)
 (normL A (cmpK (setF a) (setF b) A.toNat))).length →
 (nthD ((0 : Int), (0 : Int))
 (normL A (cmL (setF a) (setF b) x_1 A.toNat)) j).snd =
 (nthD ((0 : Int), (0 : Int))
 (bifL (bothF A a B b)
 (normL A (cmpK (setF a) (setF b) A.toNat)))
 j).snd) ∧
 True) ∧
 ((A = bif bothF A a B b then A else (0 : Int)) ∧
 (AV.ps (normL A (cmL (setF a) (setF b) x_1 A.toNat))).len =
 (bifL (bothF A a B b)
 (normL A (cmpK (setF a) (setF b) A.toNat))).length ∧
 True) ∧
 ((0 : Int) = bif bothF A a B b then (0 : Int) else (1 : Int)) ∧ True) ∧
 ∀ (a_3 b_1 : Int),
 x_1 a_3 b_1 = true →
 ∃ (x_2 : Pf × Int × Int),
 (∃ (x : Nat),
 (x ≤ (normL B (setF b)).length ∧ True) ∧
 ((0 : Int) = (↑x : Int) ∧ True) ∧
 (∀ (x_3 y : Int),
 cmL (setF a) (setF b) x_1 A.toNat x_3 y =
 stL x_2.fst (normL B (setF b)) x_2.snd.fst x_2.snd.snd x x_3
 y) ∧
 True) ∧
 ∀ (x_3 : Nat),
 x_3 ≤ (normL B (setF b)).length ∧ True →
 (decide ((↑x_3 : Int) < (↑(AV.ps (normL B (setF b))).len : Int)) =
 true →
 ((0 : Int) ≤ (↑x_3 : Int) ∧
 (↑x_3 : Int) < (↑(AV.ps (normL B (setF b))).len : Int)) ∧
 x_3 < (AV.ps (normL B (setF b))).len ∧
 ((b_1 ==
 (nthD ((0 : Int), (0 : Int)) (normL B (setF b))
 x_3).fst) =
 true →
 ∃ (x : Nat),
 (x ≤ (normL B (setF b)).length ∧ True) ∧
 ((lCq (normL B (setF b)) (32 : Nat) (5 : Nat)).ann
 x_2).mu
 x <
 ((lCq (normL B (setF b)) (32 : Nat) (5 : Nat)).ann
 x_2).mu
 x_3 ∧
 ((A = A ∧ a.length = a.length) ∧
 (B = B ∧ b.length = b.length) ∧
 True ∧
 True ∧
 True ∧
 (0 : Int) = (0 : Int) ∧
 True ∧
 True ∧
 True ∧
 (A = A ∧ a.length = a.length) ∧
 (B = B ∧
 b.length = b.length) ∧
 bothF A
 (mkN
 (fun (j : Nat) =>
 ((nthD
 ((0 : Int),
 (0 : Int))
 a j).fst,
 (nthD
 ((0 : Int),
 (0 : Int))
 a j).snd))
 a.length)
 B
 (mkN
 (fun (j : Nat) =>
 ((nthD
 ((0 : Int),
 (0 : Int))
 b j).fst,
 (nthD
 ((0 : Int),
 (0 : Int))
 b j).snd))
 b.length) =
 bothF A
 (mkN
 (fun (j : Nat) =>
 ((nthD
 ((0 : Int),
 (0 : Int))
 a j).fst,
 (nthD
 ((0 : Int),
 (0 : Int))
 a j).snd))
 a.length)
 B
 (mkN
 (fun (j : Nat) =>
 ((nthD
 ((0 : Int),
 (0 : Int))
 b j).fst,
 (nthD
 ((0 : Int),
 (0 : Int))
 b j).snd))
 b.length) ∧
 false = false ∧
 True ∧
 True ∧
 B = B ∧
 (B = B ∧
 b.length =
 b.length) ∧
 True ∧
 (B = B ∧
 (AV.ps
 (normL
 B
 (setF
 b))).len =
 (AV.ps
 (normL
 B
 (setF
 b))).len) ∧
 (A = A ∧
 a.length =
 a.length) ∧
 True ∧
 True ∧
 (true =
 true ∧
 (a_3 =
 a_3 ∧
 b_1 =
 b_1) ∧
 true =
 true) ∧
 true =
 true ∧
 ((a_3 =
 a_3 ∧
 b_1 =
 b_1) ∧
 true =
 true) ∧
 (a_3 =
 a_3 ∧
 b_1 =
 b_1) ∧
 True ∧
 (AV.ps
 (normL
 B
 (setF
 b))).len =
 (AV.ps
 (normL
 B
 (setF
 b))).len ∧
 (↑(AV.ps
 (normL
 B
 (setF
 b))).len :
 Int) =
 (↑(AV.ps
 (normL
 B
 (setF
 b))).len :
 Int) ∧
 IntKind.i64.wrap
 ((↑x_3 :
 Int) +
 (1 :
 Int)) =
 (↑x :
 Int) ∧
 True) ∧
 (a.length = a.length ∧
 (∀ (j : Nat),
 j < a.length →
 (nthD ((0 : Int), (0 : Int)) a j).fst =
 (nthD ((0 : Int), (0 : Int)) a
 j).fst) ∧
 (∀ (j : Nat),
 j < a.length →
 (nthD ((0 : Int), (0 : Int)) a
 j).snd =
 (nthD ((0 : Int), (0 : Int)) a
 j).snd) ∧
 True) ∧
 (b.length = b.length ∧
 (∀ (j : Nat),
 j < b.length →
 (nthD ((0 : Int), (0 : Int)) b
 j).fst =
 (nthD ((0 : Int), (0 : Int)) b
 j).fst) ∧
 (∀ (j : Nat),
 j < b.length →
 (nthD ((0 : Int), (0 : Int)) b
 j).snd =
 (nthD ((0 : Int), (0 : Int)) b
 j).snd) ∧
 True) ∧
 (A = A ∧ a.length = a.length) ∧
 (B = B ∧ b.length = b.length) ∧
 ((0 : Int) = (0 : Int) ∧ True) ∧
 (∀ (x_4 y : Int),
 (x_4 == a_3 &&
 y ==
 (nthD ((0 : Int), (0 : Int))
 (normL B (setF b))
 x_3).snd ||
 stL x_2.fst (normL B (setF b))
 x_2.snd.fst x_2.snd.snd x_3
 x_4 y) =
 stL x_2.fst (normL B (setF b))
 x_2.snd.fst x_2.snd.snd x x_4
 y) ∧
 (∀ (x y : Int),
 setF b x y = setF b x y) ∧
 ((AV.ps (normL B (setF b))).len =
 (AV.ps
 (normL B (setF b))).len ∧
 (∀ (j : Nat),
 j <
 (AV.ps
 (normL B
 (setF b))).len →
 (nthD
 ((0 : Int),
 (0 : Int))
 (normL B (setF b))
 j).fst =
 (nthD
 ((0 : Int),
 (0 : Int))
 (normL B (setF b))
 j).fst) ∧
 (∀ (j : Nat),
 j <
 (AV.ps
 (normL B
 (setF b))).len →
 (nthD
 ((0 : Int),
 (0 : Int))
 (normL B (setF b))
 j).snd =
 (nthD
 ((0 : Int),
 (0 : Int))
 (normL B (setF b))
 j).snd) ∧
 True) ∧
 (B = B ∧
 (AV.ps
 (normL B
 (setF b))).len =
 (AV.ps
 (normL B
 (setF b))).len) ∧
 (∀ (x y : Int),
 setF a x y = setF a x y) ∧
 ((∀ (x y : Int),
 (x_1 x y &&
 !(x == a_3 &&
 y == b_1)) =
 (x_1 x y &&
 !(x == a_3 &&
 y == b_1))) ∧
 some (a_3, b_1) =
 some (a_3, b_1)) ∧
 (a_3 = a_3 ∧ b_1 = b_1) ∧
 True) ∧
 ((b_1 ==
 (nthD ((0 : Int), (0 : Int)) (normL B (setF b))
 x_3).fst) =
 false →
 ∃ (x : Nat),
 (x ≤ (normL B (setF b)).length ∧ True) ∧
 ((lCq (normL B (setF b)) (32 : Nat) (5 : Nat)).ann
 x_2).mu
 x <
 ((lCq (normL B (setF b)) (32 : Nat) (5 : Nat)).ann
 x_2).mu
 x_3 ∧
 ((A = A ∧ a.length = a.length) ∧
 (B = B ∧ b.length = b.length) ∧
 True ∧
 True ∧
 True ∧
 (0 : Int) = (0 : Int) ∧
 True ∧
 True ∧
 True ∧
 (A = A ∧ a.length = a.length) ∧
 (B = B ∧
 b.length = b.length) ∧
 bothF A
 (mkN
 (fun (j : Nat) =>
 ((nthD
 ((0 : Int),
 (0 : Int))
 a j).fst,
 (nthD
 ((0 : Int),
 (0 : Int))
 a j).snd))
 a.length)
 B
 (mkN
 (fun (j : Nat) =>
 ((nthD
 ((0 : Int),
 (0 : Int))
 b j).fst,
 (nthD
 ((0 : Int),
 (0 : Int))
 b j).snd))
 b.length) =
 bothF A
 (mkN
 (fun (j : Nat) =>
 ((nthD
 ((0 : Int),
 (0 : Int))
 a j).fst,
 (nthD
 ((0 : Int),
 (0 : Int))
 a j).snd))
 a.length)
 B
 (mkN
 (fun (j : Nat) =>
 ((nthD
 ((0 : Int),
 (0 : Int))
 b j).fst,
 (nthD
 ((0 : Int),
 (0 : Int))
 b j).snd))
 b.length) ∧
 false = false ∧
 True ∧
 True ∧
 B = B ∧
 (B = B ∧
 b.length =
 b.length) ∧
 True ∧
 (B = B ∧
 (AV.ps
 (normL
 B
 (setF
 b))).len =
 (AV.ps
 (normL
 B
 (setF
 b))).len) ∧
 (A = A ∧
 a.length =
 a.length) ∧
 True ∧
 True ∧
 (true =
 true ∧
 (a_3 =
 a_3 ∧
 b_1 =
 b_1) ∧
 true =
 true) ∧
 true =
 true ∧
 ((a_3 =
 a_3 ∧
 b_1 =
 b_1) ∧
 true =
 true) ∧
 (a_3 =
 a_3 ∧
 b_1 =
 b_1) ∧
 True ∧
 (AV.ps
 (normL
 B
 (setF
 b))).len =
 (AV.ps
 (normL
 B
 (setF
 b))).len ∧
 (↑(AV.ps
 (normL
 B
 (setF
 b))).len :
 Int) =
 (↑(AV.ps
 (normL
 B
 (setF
 b))).len :
 Int) ∧
 IntKind.i64.wrap
 ((↑x_3 :
 Int) +
 (1 :
 Int)) =
 (↑x :
 Int) ∧
 True) ∧
 (a.length = a.length ∧
 (∀ (j : Nat),
 j < a.length →
 (nthD ((0 : Int), (0 : Int)) a j).fst =
 (nthD ((0 : Int), (0 : Int)) a
 j).fst) ∧
 (∀ (j : Nat),
 j < a.length →
 (nthD ((0 : Int), (0 : Int)) a
 j).snd =
 (nthD ((0 : Int), (0 : Int)) a
 j).snd) ∧
 True) ∧
 (b.length = b.length ∧
 (∀ (j : Nat),
 j < b.length →
 (nthD ((0 : Int), (0 : Int)) b
 j).fst =
 (nthD ((0 : Int), (0 : Int)) b
 j).fst) ∧
 (∀ (j : Nat),
 j < b.length →
 (nthD ((0 : Int), (0 : Int)) b
 j).snd =
 (nthD ((0 : Int), (0 : Int)) b
 j).snd) ∧
 True) ∧
 (A = A ∧ a.length = a.length) ∧
 (B = B ∧ b.length = b.length) ∧
 ((0 : Int) = (0 : Int) ∧ True) ∧
 (∀ (x_4 y : Int),
 stL x_2.fst (normL B (setF b))
 x_2.snd.fst x_2.snd.snd x_3 x_4
 y =
 stL x_2.fst (normL B (setF b))
 x_2.snd.fst x_2.snd.snd x x_4
 y) ∧
 (∀ (x y : Int),
 setF b x y = setF b x y) ∧
 ((AV.ps (normL B (setF b))).len =
 (AV.ps
 (normL B (setF b))).len ∧
 (∀ (j : Nat),
 j <
 (AV.ps
 (normL B
 (setF b))).len →
 (nthD
 ((0 : Int),
 (0 : Int))
 (normL B (setF b))
 j).fst =
 (nthD
 ((0 : Int),
 (0 : Int))
 (normL B (setF b))
 j).fst) ∧
 (∀ (j : Nat),
 j <
 (AV.ps
 (normL B
 (setF b))).len →
 (nthD
 ((0 : Int),
 (0 : Int))
 (normL B (setF b))
 j).snd =
 (nthD
 ((0 : Int),
 (0 : Int))
 (normL B (setF b))
 j).snd) ∧
 True) ∧
 (B = B ∧
 (AV.ps
 (normL B
 (setF b))).len =
 (AV.ps
 (normL B
 (setF b))).len) ∧
 (∀ (x y : Int),
 setF a x y = setF a x y) ∧
 ((∀ (x y : Int),
 (x_1 x y &&
 !(x == a_3 &&
 y == b_1)) =
 (x_1 x y &&
 !(x == a_3 &&
 y == b_1))) ∧
 some (a_3, b_1) =
 some (a_3, b_1)) ∧
 (a_3 = a_3 ∧ b_1 = b_1) ∧
 True)) ∧
 (decide ((↑x_3 : Int) < (↑(AV.ps (normL B (setF b))).len : Int)) =
 false →
 ∃ (x_4 : Int → Int → Bool),
 (∀ (x y : Int), x_4 x y = true → setF a x y = true) ∧
 ((PLoop.of
 (lIt A.toNat (setF a) (5 : Nat) (10 : Nat)
 fun (left : Pf) =>
 MBlk.mapp
 (cmL (setF a) (setF b) left A.toNat))).ann
 x).mu
 x_4 <
 ((PLoop.of
 (lIt A.toNat (setF a) (5 : Nat) (10 : Nat)
 fun (left : Pf) =>
 MBlk.mapp
 (cmL (setF a) (setF b) left A.toNat))).ann
 x).mu
 x_1 ∧
 ((A = A ∧ a.length = a.length) ∧
 (B = B ∧ b.length = b.length) ∧
 True ∧
 True ∧
 True ∧
 (0 : Int) = (0 : Int) ∧
 True ∧
 True ∧
 (A = A ∧ a.length = a.length) ∧
 (B = B ∧ b.length = b.length) ∧
 bothF A
 (mkN
 (fun (j : Nat) =>
 ((nthD
 ((0 : Int), (0 : Int))
 a j).fst,
 (nthD
 ((0 : Int), (0 : Int))
 a j).snd))
 a.length)
 B
 (mkN
 (fun (j : Nat) =>
 ((nthD
 ((0 : Int), (0 : Int))
 b j).fst,
 (nthD
 ((0 : Int), (0 : Int))
 b j).snd))
 b.length) =
 bothF A
 (mkN
 (fun (j : Nat) =>
 ((nthD
 ((0 : Int), (0 : Int))
 a j).fst,
 (nthD
 ((0 : Int), (0 : Int))
 a j).snd))
 a.length)
 B
 (mkN
 (fun (j : Nat) =>
 ((nthD
 ((0 : Int), (0 : Int))
 b j).fst,
 (nthD
 ((0 : Int), (0 : Int))
 b j).snd))
 b.length) ∧
 false = false ∧
 True ∧
 True ∧
 B = B ∧
 (B = B ∧
 b.length = b.length) ∧
 True ∧
 (B = B ∧
 (AV.ps
 (normL B
 (setF
 b))).len =
 (AV.ps
 (normL B
 (setF
 b))).len) ∧
 (A = A ∧
 a.length =
 a.length) ∧
 True ∧
 True ∧ True) ∧
 (a.length = a.length ∧
 (∀ (j : Nat),
 j < a.length →
 (nthD ((0 : Int), (0 : Int)) a j).fst =
 (nthD ((0 : Int), (0 : Int)) a j).fst) ∧
 (∀ (j : Nat),
 j < a.length →
 (nthD ((0 : Int), (0 : Int)) a j).snd =
 (nthD ((0 : Int), (0 : Int)) a j).snd) ∧
 True) ∧
 (b.length = b.length ∧
 (∀ (j : Nat),
 j < b.length →
 (nthD ((0 : Int), (0 : Int)) b j).fst =
 (nthD ((0 : Int), (0 : Int)) b j).fst) ∧
 (∀ (j : Nat),
 j < b.length →
 (nthD ((0 : Int), (0 : Int)) b j).snd =
 (nthD ((0 : Int), (0 : Int)) b j).snd) ∧
 True) ∧
 (A = A ∧ a.length = a.length) ∧
 (B = B ∧ b.length = b.length) ∧
 ((0 : Int) = (0 : Int) ∧ True) ∧
 (∀ (x y : Int),
 stL x_2.fst (normL B (setF b)) x_2.snd.fst
 x_2.snd.snd x_3 x y =
 cmL (setF a) (setF b) x_4 A.toNat x y) ∧
 (∀ (x y : Int), setF b x y = setF b x y) ∧
 ((AV.ps (normL B (setF b))).len =
 (AV.ps (normL B (setF b))).len ∧
 (∀ (j : Nat),
 j < (AV.ps (normL B (setF b))).len →
 (nthD ((0 : Int), (0 : Int))
 (normL B (setF b)) j).fst =
 (nthD ((0 : Int), (0 : Int))
 (normL B (setF b)) j).fst) ∧
 (∀ (j : Nat),
 j <
 (AV.ps
 (normL B (setF b))).len →
 (nthD ((0 : Int), (0 : Int))
 (normL B (setF b))
 j).snd =
 (nthD ((0 : Int), (0 : Int))
 (normL B (setF b))
 j).snd) ∧
 True) ∧
 (B = B ∧
 (AV.ps (normL B (setF b))).len =
 (AV.ps (normL B (setF b))).len) ∧
 (∀ (x y : Int),
 setF a x y = setF a x y) ∧
 ((∀ (x y : Int),
 (x_1 x y &&
 !(x == a_3 && y == b_1)) =
 x_4 x y) ∧
 True) ∧
 True))) := by kernel_rfl
theorem v27 (A : Int) (a : List Pq) (B : Int) (b : List Pq) (ha : L9 a) (hb : L9 b) : fnVc (tab [kBth [], kSet [none, none, none, none, none, none, some (.mp (setF b)), none, none, some (.mp (setF a))], kNor [none, none, none, none, none, none, none, some (.ps (normL B (setF b)))]] [(0, .of (lIt A.toNat (setF a) 5 10 (fun left => .mapp (cmL (setF a) (setF b) left A.toNat)))), (2, lCq (normL B (setF b)) 32 5)]) Try.f27 [rlV A 0 a, rlV B 1 b] [arP a, arP b] (resIs (relE (bif bothF A a B b then A else 0) (bif bothF A a B b then 0 else 1) (bifL (bothF A a B b) (normL A (cmpK (setF a) (setF b) A.toNat))).length) 38 (bifL (bothF A a B b) (normL A (cmpK (setF a) (setF b) A.toNat))).length (psCols (bifL (bothF A a B b) (normL A (cmpK (setF a) (setF b) A.toNat))))) := by
  rw [v27_eq]
  simp only [eq_self, true_and, and_true, implies_true, imp_self, mkN_ps, mkN_rs, mkN_self, mkN_len, PLoop.of, lCnt, AV.len, lCa, lCb, lCc, lIt, lCq, mk_tbl]
  refine ⟨ha, hb, fun h => ?_, fun h => ?_⟩
  · have hv : bothF A a B b = false := by simpa using h
    simp [hv, bifL]
  · have hv : bothF A a B b = true := by simpa using h
    obtain ⟨h1, h2, h3⟩ := bothF_iff.1 hv
    subst h3
    obtain ⟨q1, q2, q3⟩ := validF_iff.1 h1
    have hlen := norm_len (f := setF b) q2
    refine ⟨hb, ⟨q1, q2⟩, ha, (), ⟨setF a, fun _ _ h => h, fun x y => cmL_all.symm, fun _ _ => rfl⟩, fun left hl => ⟨fun h0 => ?_, fun p q hpq => ⟨(cmL (setF a) (setF b) left A.toNat, p, q), ⟨0, by omega, rfl, fun x y => by simp [stL]⟩, fun i hi => ⟨fun hlt => ?_, fun hlt => ?_⟩⟩⟩⟩
    · rw [cmL_none h0, hv]
      simp only [bifL, cond_true, eq_self, true_and, and_true, implies_true]
      exact ⟨q1, q2⟩
    · have hi2 := lt_len hlt
      refine ⟨bd hi2, hi2, fun hc => ⟨i + 1, by omega, by omega, wrS (n := 4096) (by omega) (by omega), fun x y => ?_⟩, fun hc => ⟨i + 1, by omega, by omega, wrS (n := 4096) (by omega) (by omega), fun x y => ?_⟩⟩
      · rw [stL_step hi2, Bool.or_comm]
        have hc2 := beq_iff_eq.1 hc
        simp only [hc2]
        congr 1
        congr 1
        rw [Bool.eq_iff_iff]; simp; exact eq_comm
      · rw [stL_step hi2]
        have hc2 : ((nthD (0, 0) (normL A (setF b)) i).1 == q) = false := by rw [Bool.beq_comm]; exact hc
        simp only [hc2, Bool.false_and, Bool.and_false, Bool.or_false]
    · have hi2 := ge_len hlt hi
      refine ⟨fun x y => left x y && !(x == p && y == q), fun x y hxy => ?_, left_less (sup_set h1) hl hpq, fun x y => ?_, fun x y => rfl⟩
      · simp only [Bool.and_eq_true] at hxy; exact hl _ _ hxy.1
      · rw [hi2]; exact cmL_take (sup_set h1) hl hpq h2 x y
theorem fo27 : fnOk Try.prog 27 := ⟨Try.f27, Try.func27, by kernel_rfl, by kernel_rfl⟩
theorem fo32 : fnOk Try.prog 32 := ⟨Try.f32, Try.func32, by kernel_rfl, by kernel_rfl⟩
def t27 : List AV → Tab
  | [.r A a, .r B b] => tab [kBth [], kSet [none, none, none, none, none, none, some (.mp (setF b)), none, none, some (.mp (setF a))], kNor [none, none, none, none, none, none, none, some (.ps (normL B (setF b)))]] [(0, .of (lIt A.toNat (setF a) 5 10 (fun left => .mapp (cmL (setF a) (setF b) left A.toNat)))), (2, lCq (normL B (setF b)) 32 5)]
  | _ => tab [] []
theorem c27 : CallOk Try.prog [] 27 (genF EL [] [.r, .r] sCmp) := by
  refine okT (fn := Try.f27) Try.func27 fo27 t27 (fun av => ?_) (fun av => ?_) (fun av pre rv h => ?_) (fun av pre rv h hp => ?_)
  · unfold t27; split <;> first | exact tabOk (mOne (n45 _) (mOne (n44 _) (mOne (n41 _) mNil))) | exact tabOk mNil
  · unfold t27; split <;> exact ⟨rfl, rfl⟩
  · unfold sCmp at h; split at h <;> cases h
    exact ⟨rfl, fun t a e => by cases e <;> exact List.cons_ne_nil _ _⟩
  · unfold sCmp at h; split at h <;> cases h
    exact v27 _ _ _ _ (hp _ (.head _)) (hp _ (.tail _ (.head _)))
theorem n27 (nm : List (Option AV)) : CallOk Try.prog [] 27 (genF EL nm [.r, .r] sCmp) := genNm c27
def t32 : List AV → Tab
  | [.r A a, .r B b] => tab [kVal' [], kTbl [none, none, none, none, none, some (.bs (tblL A.toNat (setF a))), some (.bs (tblL B.toNat (setF b)))], kLst []] [(0, .of (lCa A.toNat (setF a) (setF b))), (2, lCb A.toNat (setF a) (setF b)), (4, lCc A.toNat (setF a) (setF b))]
  | _ => tab [] []
theorem c32 : CallOk Try.prog [] 32 (genF EL [] [.r, .r] sCmp) := by
  refine okT (fn := Try.f32) Try.func32 fo32 t32 (fun av => ?_) (fun av => ?_) (fun av pre rv h => ?_) (fun av pre rv h hp => ?_)
  · unfold t32; split <;> first | exact tabOk (mOne (n22 _) (mOne (n36 _) (mOne (n42 _) mNil))) | exact tabOk mNil
  · unfold t32; split <;> exact ⟨rfl, rfl⟩
  · unfold sCmp at h; split at h <;> cases h
    exact ⟨rfl, fun t a e => by cases e <;> exact List.cons_ne_nil _ _⟩
  · unfold sCmp at h; split at h <;> cases h
    exact v32 _ _ _ _ (hp _ (.head _)) (hp _ (.tail _ (.head _)))
theorem n32 (nm : List (Option AV)) : CallOk Try.prog [] 32 (genF EL nm [.r, .r] sCmp) := genNm c32
end Go.Proofs.Ytcbmbnlgilampaa
