/-
  A part of the proof (Rw20).
-/
import Derived.Test.YtcbmbnlgilampaaRw19
namespace Go.Proofs.Ytcbmbnlgilampaa
open Go Go.Proofs.Ytcbmbnlgilampaa.Sx
set_option maxRecDepth 100000
set_option linter.unusedSimpArgs false
set_option linter.unusedVariables false

theorem sup_wF {n : Nat} {f : Pf} (hs : Sup n f) : Sup n (wF f n) := fun a b h => ((wF_iff hs).1 h).sup hs
theorem rdA_zero {c : Pf} {n j : Nat} (hj : j < n * n) : false = nthD false (tblL n (rdA c n 0)) j := by
  rw [nthD_tblL hj]
  obtain ⟨h1, h2, h3, h4⟩ := dm hj
  simp only [rdA, cdec]
  rw [if_neg (by omega)]
theorem rdB_zero {c : Pf} {n a j : Nat} (hj : j < n * n) : nthD false (tblL n (rdA c n a)) j = nthD false (tblL n (rdB c n a 0)) j := tbl_eq (fun x y _ _ _ _ => by
  simp only [rdA, rdB, cdec]
  repeat' split
  all_goals first | rfl | omega) hj
theorem rdB_full {c : Pf} {n a j : Nat} (hj : j < n * n) : nthD false (tblL n (rdB c n a n)) j = nthD false (tblL n (rdA c n (a + 1))) j := tbl_eq (fun x y _ _ _ _ => by
  simp only [rdA, rdB, cdec]
  repeat' split
  all_goals first | rfl | omega) hj
theorem ne_at {n a b j : Nat} (e : j ≠ a * n + b) : ¬ (((j / n : Nat) : Int) = (a : Int) ∧ ((j % n : Nat) : Int) = (b : Int)) := fun ⟨e1, e2⟩ => e (by
  have := Nat.div_add_mod j n
  rw [show j / n = a by omega, show j % n = b by omega, Nat.mul_comm] at this
  exact this.symm)
theorem redF_zero {c : Pf} {x y : Int} : redF c 0 x y = c x y := by simp [redF, cmpK]
theorem rdC_zero {c : Pf} {n a b : Nat} (ha : a < n) (hb : b < n) {j : Nat} (hj : j < n * n) : (bif Nat.beq j (a * n + b) then nthD false (tblL n c) (a * n + b) else nthD false (tblL n (rdB c n a b)) j) = nthD false (tblL n (rdC c n a b 0)) j := by
  by_cases e : j = a * n + b
  · subst e
    rw [beq_t, cond_true, tbl_at ha hb, tbl_at ha hb]
    simp only [rdC, cdec]
    rw [if_neg (by omega), if_pos trivial, if_neg (by omega), if_pos trivial, redF_zero, Bool.and_self]
  · rw [beq_f e, cond_false, nthD_tblL hj, nthD_tblL hj]
    have := ne_at e
    generalize ((j / n : Nat) : Int) = x at *
    generalize ((j % n : Nat) : Int) = y at *
    simp only [rdC, rdB, cdec]
    repeat' split
    all_goals first | rfl | omega
theorem redF_step {c : Pf} {k : Nat} {x y : Int} : redF c (k + 1) x y = (redF c k x y && !(c x k && c k y)) := by
  rw [redF, redF, cmpK_succ, Bool.not_or, Bool.and_assoc]
theorem rdC_hit {c : Pf} {n a b k : Nat} (ha : a < n) (hb : b < n) (h : (c a k && c k b) = true) {j : Nat} (hj : j < n * n) : (bif Nat.beq j (a * n + b) then false else nthD false (tblL n (rdC c n a b k)) j) = nthD false (tblL n (rdC c n a b (k + 1))) j := by
  by_cases e : j = a * n + b
  · subst e
    rw [beq_t, cond_true, tbl_at ha hb]
    simp only [rdC, cdec]
    rw [if_neg (by omega), if_pos trivial, if_neg (by omega), if_pos trivial, redF_step, h, Bool.not_true, Bool.and_false, Bool.false_and]
  · rw [beq_f e, cond_false, nthD_tblL hj, nthD_tblL hj]
    have := ne_at e
    generalize ((j / n : Nat) : Int) = x at *
    generalize ((j % n : Nat) : Int) = y at *
    simp only [rdC, cdec]
    repeat' split
    all_goals first | rfl | omega
theorem rdC_miss {c : Pf} {n a b k : Nat} (h : (c a k && c k b) = false) {j : Nat} (hj : j < n * n) : nthD false (tblL n (rdC c n a b k)) j = nthD false (tblL n (rdC c n a b (k + 1))) j := tbl_eq (fun x y _ _ _ _ => by
  simp only [rdC, cdec]
  repeat' split
  all_goals first | rfl | omega | skip
  rename_i e1 _ e2
  rw [redF_step, e1, e2, h, Bool.not_false, Bool.and_true]) hj
theorem redF_and {c : Pf} {n : Nat} {x y : Int} : (redF c n x y && c x y) = redF c n x y := by
  rw [redF]; cases c x y <;> simp
theorem rdC_full {c : Pf} {n a b j : Nat} (hj : j < n * n) : nthD false (tblL n (rdC c n a b n)) j = nthD false (tblL n (rdB c n a (b + 1))) j := tbl_eq (fun x y _ _ _ _ => by
  simp only [rdC, rdB, cdec, redF_and]
  repeat' split
  all_goals first | rfl | omega) hj
theorem rdA_full {N : Int} {c : Pf} : normL N (rdA c N.toNat N.toNat) = normL N (redF c N.toNat) := normL_congr fun a b ha hb => by
  simp only [rdA, cdec]
  rw [if_pos (by omega)]
theorem rdL_none {c left : Pf} {n : Nat} (h : ∀ a b, left a b = false) : rdL c left n = redF c n := by
  funext x y
  simp only [rdL, redF, h, Bool.not_false, Bool.and_true]
theorem rdL_take {c left : Pf} {n : Nat} (hl : ∀ x y, left x y = true → c x y = true) {p q : Int} (h : left p q = true) (x y : Int) : (((x == p && y == q) && !cmpK c c n p q) || rdL c left n x y) = rdL c (fun x y => left x y && !(x == p && y == q)) n x y := by
  by_cases e : x = p ∧ y = q
  · obtain ⟨rfl, rfl⟩ := e
    simp only [rdL, h, hl _ _ h, beq_self_eq_true, Bool.and_self, Bool.not_true, Bool.and_false, Bool.not_false, Bool.false_and, Bool.or_false, Bool.true_and]
  · have e2 : (x == p && y == q) = false := by
      rw [Bool.eq_false_iff]; intro h; simp at h; exact e h
    simp only [rdL, e2, Bool.false_and, Bool.false_or, Bool.not_false, Bool.and_true]
theorem v28_eq (A : Int) (a : List Pq) (B : Int) (b : List Pq) : (fnVc (tab [kUni [none, none, none, none, some (.ps (bif bothF A a B b then normL A (setF (a ++ b)) else []))], kNml [none, none, none, none, none, none, some (.ps (bif validF A a then normL A (setF a) else []))], kSam []] []) Try.f28 [rlV A 0 a, rlV B 1 b] [arP a, arP b] (plainIs (.b (witF A a B b)))) = (a.length = a.length ∧
 b.length = b.length ∧
 (mkN (fun (j : Nat) => ((nthD ((0 : Int), (0 : Int)) a j).fst, (nthD ((0 : Int), (0 : Int)) a j).snd))
 a.length).length ≤
 (1099511627776 : Nat) ∧
 (mkN (fun (j : Nat) => ((nthD ((0 : Int), (0 : Int)) b j).fst, (nthD ((0 : Int), (0 : Int)) b j).snd))
 b.length).length ≤
 (1099511627776 : Nat) ∧
 (mkN (fun (j : Nat) => ((nthD ((0 : Int), (0 : Int)) a j).fst, (nthD ((0 : Int), (0 : Int)) a j).snd))
 a.length ++
 mkN (fun (j : Nat) => ((nthD ((0 : Int), (0 : Int)) b j).fst, (nthD ((0 : Int), (0 : Int)) b j).snd))
 b.length).length ≤
 (1099511627776 : Nat) ∧
 ((bif
 bothF A
 (mkN
 (fun (j : Nat) => ((nthD ((0 : Int), (0 : Int)) a j).fst, (nthD ((0 : Int), (0 : Int)) a j).snd))
 a.length)
 B
 (mkN
 (fun (j : Nat) => ((nthD ((0 : Int), (0 : Int)) b j).fst, (nthD ((0 : Int), (0 : Int)) b j).snd))
 b.length) then
 normL A
 (setF
 (mkN
 (fun (j : Nat) =>
 ((nthD ((0 : Int), (0 : Int)) a j).fst, (nthD ((0 : Int), (0 : Int)) a j).snd))
 a.length ++
 mkN
 (fun (j : Nat) =>
 ((nthD ((0 : Int), (0 : Int)) b j).fst, (nthD ((0 : Int), (0 : Int)) b j).snd))
 b.length))
 else []) =
 bif bothF A a B b then normL A (setF (a ++ b)) else []) ∧
 (((bif
 bothF A
 (mkN
 (fun (j : Nat) =>
 ((nthD ((0 : Int), (0 : Int)) a j).fst, (nthD ((0 : Int), (0 : Int)) a j).snd))
 a.length)
 B
 (mkN
 (fun (j : Nat) =>
 ((nthD ((0 : Int), (0 : Int)) b j).fst, (nthD ((0 : Int), (0 : Int)) b j).snd))
 b.length) then
 (0 : Int)
 else (1 : Int)) ==
 (0 : Int)) =
 true →
 a.length = a.length) ∧
 (((bif
 bothF A
 (mkN
 (fun (j : Nat) =>
 ((nthD ((0 : Int), (0 : Int)) a j).fst, (nthD ((0 : Int), (0 : Int)) a j).snd))
 a.length)
 B
 (mkN
 (fun (j : Nat) =>
 ((nthD ((0 : Int), (0 : Int)) b j).fst, (nthD ((0 : Int), (0 : Int)) b j).snd))
 b.length) then
 (0 : Int)
 else (1 : Int)) ==
 (0 : Int)) =
 true →
 (mkN (fun (j : Nat) => ((nthD ((0 : Int), (0 : Int)) a j).fst, (nthD ((0 : Int), (0 : Int)) a j).snd))
 a.length).length ≤
 (1099511627776 : Nat)) ∧
 (((bif
 bothF A
 (mkN
 (fun (j : Nat) =>
 ((nthD ((0 : Int), (0 : Int)) a j).fst, (nthD ((0 : Int), (0 : Int)) a j).snd))
 a.length)
 B
 (mkN
 (fun (j : Nat) =>
 ((nthD ((0 : Int), (0 : Int)) b j).fst, (nthD ((0 : Int), (0 : Int)) b j).snd))
 b.length) then
 (0 : Int)
 else (1 : Int)) ==
 (0 : Int)) =
 true →
 (bif
 validF A
 (mkN
 (fun (j : Nat) =>
 ((nthD ((0 : Int), (0 : Int)) a j).fst, (nthD ((0 : Int), (0 : Int)) a j).snd))
 a.length) then
 normL A
 (setF
 (mkN
 (fun (j : Nat) =>
 ((nthD ((0 : Int), (0 : Int)) a j).fst, (nthD ((0 : Int), (0 : Int)) a j).snd))
 a.length))
 else []) =
 bif validF A a then normL A (setF a) else []) ∧
 (((bif
 bothF A
 (mkN
 (fun (j : Nat) =>
 ((nthD ((0 : Int), (0 : Int)) a j).fst, (nthD ((0 : Int), (0 : Int)) a j).snd))
 a.length)
 B
 (mkN
 (fun (j : Nat) =>
 ((nthD ((0 : Int), (0 : Int)) b j).fst, (nthD ((0 : Int), (0 : Int)) b j).snd))
 b.length) then
 (0 : Int)
 else (1 : Int)) ==
 (0 : Int)) =
 true →
 (AV.ps (bif bothF A a B b then normL A (setF (a ++ b)) else [])).len =
 (AV.ps (bif bothF A a B b then normL A (setF (a ++ b)) else [])).len) ∧
 (((bif
 bothF A
 (mkN
 (fun (j : Nat) =>
 ((nthD ((0 : Int), (0 : Int)) a j).fst, (nthD ((0 : Int), (0 : Int)) a j).snd))
 a.length)
 B
 (mkN
 (fun (j : Nat) =>
 ((nthD ((0 : Int), (0 : Int)) b j).fst, (nthD ((0 : Int), (0 : Int)) b j).snd))
 b.length) then
 (0 : Int)
 else (1 : Int)) ==
 (0 : Int)) =
 true →
 (AV.ps (bif validF A a then normL A (setF a) else [])).len =
 (AV.ps (bif validF A a then normL A (setF a) else [])).len) ∧
 (((bif
 bothF A
 (mkN
 (fun (j : Nat) =>
 ((nthD ((0 : Int), (0 : Int)) a j).fst, (nthD ((0 : Int), (0 : Int)) a j).snd))
 a.length)
 B
 (mkN
 (fun (j : Nat) =>
 ((nthD ((0 : Int), (0 : Int)) b j).fst, (nthD ((0 : Int), (0 : Int)) b j).snd))
 b.length) then
 (0 : Int)
 else (1 : Int)) ==
 (0 : Int)) =
 true →
 (mkN
 (fun (j : Nat) =>
 ((nthD ((0 : Int), (0 : Int)) (bif bothF A a B b then normL A (setF (a ++ b)) else [])
 j).fst,
 (nthD ((0 : Int), (0 : Int))
 (bif bothF A a B b then normL A (setF (a ++ b)) else []) j).snd))
 (AV.ps (bif bothF A a B b then normL A (setF (a ++ b)) else [])).len).length ≤
 (1099511627776 : Nat)) ∧
 (((bif
 bothF A
 (mkN
 (fun (j : Nat) =>
 ((nthD ((0 : Int), (0 : Int)) a j).fst,
 (nthD ((0 : Int), (0 : Int)) a j).snd))
 a.length)
 B
 (mkN
 (fun (j : Nat) =>
 ((nthD ((0 : Int), (0 : Int)) b j).fst,
 (nthD ((0 : Int), (0 : Int)) b j).snd))
 b.length) then
 (0 : Int)
 else (1 : Int)) ==
 (0 : Int)) =
 true →
 (mkN
 (fun (j : Nat) =>
 ((nthD ((0 : Int), (0 : Int)) (bif validF A a then normL A (setF a) else []) j).fst,
 (nthD ((0 : Int), (0 : Int)) (bif validF A a then normL A (setF a) else [])
 j).snd))
 (AV.ps (bif validF A a then normL A (setF a) else [])).len).length ≤
 (1099511627776 : Nat)) ∧
 ((bif
 bothF A
 (mkN
 (fun (j : Nat) =>
 ((nthD ((0 : Int), (0 : Int)) a j).fst,
 (nthD ((0 : Int), (0 : Int)) a j).snd))
 a.length)
 B
 (mkN
 (fun (j : Nat) =>
 ((nthD ((0 : Int), (0 : Int)) b j).fst,
 (nthD ((0 : Int), (0 : Int)) b j).snd))
 b.length) then
 (0 : Int)
 else (1 : Int)) ==
 (0 : Int) &&
 sameF
 (bif
 bothF A
 (mkN
 (fun (j : Nat) =>
 ((nthD ((0 : Int), (0 : Int)) a j).fst,
 (nthD ((0 : Int), (0 : Int)) a j).snd))
 a.length)
 B
 (mkN
 (fun (j : Nat) =>
 ((nthD ((0 : Int), (0 : Int)) b j).fst,
 (nthD ((0 : Int), (0 : Int)) b j).snd))
 b.length) then
 A
 else (0 : Int))
 (mkN
 (fun (j : Nat) =>
 ((nthD ((0 : Int), (0 : Int))
 (bif bothF A a B b then normL A (setF (a ++ b)) else []) j).fst,
 (nthD ((0 : Int), (0 : Int))
 (bif bothF A a B b then normL A (setF (a ++ b)) else []) j).snd))
 (AV.ps (bif bothF A a B b then normL A (setF (a ++ b)) else [])).len)
 (bif
 validF A
 (mkN
 (fun (j : Nat) =>
 ((nthD ((0 : Int), (0 : Int)) a j).fst,
 (nthD ((0 : Int), (0 : Int)) a j).snd))
 a.length) then
 A
 else (0 : Int))
 (mkN
 (fun (j : Nat) =>
 ((nthD ((0 : Int), (0 : Int)) (bif validF A a then normL A (setF a) else []) j).fst,
 (nthD ((0 : Int), (0 : Int)) (bif validF A a then normL A (setF a) else [])
 j).snd))
 (AV.ps (bif validF A a then normL A (setF a) else [])).len)) =
 witF A a B b) := by kernel_rfl
theorem v28 (A : Int) (a : List Pq) (B : Int) (b : List Pq) (ha : L9 a) (hb : L9 b) (hab : L9 (a ++ b)) : fnVc (tab [kUni [none, none, none, none, some (.ps (bif bothF A a B b then normL A (setF (a ++ b)) else []))], kNml [none, none, none, none, none, none, some (.ps (bif validF A a then normL A (setF a) else []))], kSam []] []) Try.f28 [rlV A 0 a, rlV B 1 b] [arP a, arP b] (plainIs (.b (witF A a B b))) := by
  rw [v28_eq]
  simp only [eq_self, true_and, and_true, implies_true, imp_self, mkN_ps, mkN_rs, mkN_self, mkN_len, PLoop.of, lCnt, AV.len, lRa, lRb, lRc, lIt, lRq, mk_tbl]
  cases hv : bothF A a B b
  · refine ⟨ha, hb, hab, fun h => by simp at h, fun h => by simp at h, fun h => by simp at h, ?_⟩
    simp [witF, hv]
  · obtain ⟨h1, h2, h3⟩ := bothF_iff.1 hv
    obtain ⟨q1, q2, q3⟩ := validF_iff.1 h1
    have e1 := norm_len (f := setF (a ++ b)) q2
    have e2 := norm_len (f := setF a) q2
    rw [h1]
    simp only [cond_true]
    refine ⟨ha, hb, hab, fun _ => ha, fun _ => by omega, fun _ => by omega, ?_⟩
    simp [witF, hv, sameF]
theorem v19_eq (N : Int) (l : List Pq) : (fnVc (tab [kVal [], kAcy [], kCls [none, none, none, some (.mp (clo N l))], kNor []] [(0, .of (lIt N.toNat (clo N l) 4 5 (fun left => .mapp (rdL (clo N l) left N.toNat)))), (2, lRq (clo N l) N.toNat 28 7)]) Try.f19 [rlV N 0 l] [arP l] (resIs (relE (bif okR N l then N else 0) (errR N l) (bifL (okR N l) (redL N l)).length) 38 (bifL (okR N l) (redL N l)).length (psCols (bifL (okR N l) (redL N l))))) = (l.length = l.length ∧
 (mkN (fun (j : Nat) => ((nthD ((0 : Int), (0 : Int)) l j).fst, (nthD ((0 : Int), (0 : Int)) l j).snd))
 l.length).length ≤
 (1099511627776 : Nat) ∧
 ((!validF N
 (mkN (fun (j : Nat) => ((nthD ((0 : Int), (0 : Int)) l j).fst, (nthD ((0 : Int), (0 : Int)) l j).snd))
 l.length)) =
 true →
 (bifL (okR N l) (redL N l)).length = (0 : Nat) ∧
 (((0 : Int) = bif okR N l then N else (0 : Int)) ∧ (bifL (okR N l) (redL N l)).length = (0 : Nat) ∧ True) ∧
 (1 : Int) = errR N l ∧ True) ∧
 ((!validF N
 (mkN (fun (j : Nat) => ((nthD ((0 : Int), (0 : Int)) l j).fst, (nthD ((0 : Int), (0 : Int)) l j).snd))
 l.length)) =
 false →
 l.length = l.length ∧
 (mkN (fun (j : Nat) => ((nthD ((0 : Int), (0 : Int)) l j).fst, (nthD ((0 : Int), (0 : Int)) l j).snd))
 l.length).length ≤
 (1099511627776 : Nat) ∧
 ((!(validF N
 (mkN
 (fun (j : Nat) =>
 ((nthD ((0 : Int), (0 : Int)) l j).fst, (nthD ((0 : Int), (0 : Int)) l j).snd))
 l.length) &&
 acyF N.toNat
 (wF
 (setF
 (mkN
 (fun (j : Nat) =>
 ((nthD ((0 : Int), (0 : Int)) l j).fst, (nthD ((0 : Int), (0 : Int)) l j).snd))
 l.length))
 N.toNat))) =
 true →
 (bifL (okR N l) (redL N l)).length = (0 : Nat) ∧
 (((0 : Int) = bif okR N l then N else (0 : Int)) ∧
 (bifL (okR N l) (redL N l)).length = (0 : Nat) ∧ True) ∧
 (20 : Int) = errR N l ∧ True) ∧
 ((!(validF N
 (mkN
 (fun (j : Nat) =>
 ((nthD ((0 : Int), (0 : Int)) l j).fst, (nthD ((0 : Int), (0 : Int)) l j).snd))
 l.length) &&
 acyF N.toNat
 (wF
 (setF
 (mkN
 (fun (j : Nat) =>
 ((nthD ((0 : Int), (0 : Int)) l j).fst, (nthD ((0 : Int), (0 : Int)) l j).snd))
 l.length))
 N.toNat))) =
 false →
 l.length = l.length ∧
 validF N
 (mkN
 (fun (j : Nat) =>
 ((nthD ((0 : Int), (0 : Int)) l j).fst, (nthD ((0 : Int), (0 : Int)) l j).snd))
 l.length) =
 true ∧
 (mkN
 (fun (j : Nat) =>
 ((nthD ((0 : Int), (0 : Int)) l j).fst, (nthD ((0 : Int), (0 : Int)) l j).snd))
 l.length).length ≤
 (1099511627776 : Nat) ∧
 wF
 (setF
 (mkN
 (fun (j : Nat) =>
 ((nthD ((0 : Int), (0 : Int)) l j).fst, (nthD ((0 : Int), (0 : Int)) l j).snd))
 l.length))
 N.toNat =
 clo N l ∧
 ∃ (x : PUnit),
 (∃ (x : Int → Int → Bool),
 (∀ (x_1 y : Int), x x_1 y = true → clo N l x_1 y = true) ∧
 True ∧
 (∀ (x_1 y : Int), false = rdL (clo N l) x N.toNat x_1 y) ∧
 ((∀ (x_1 y : Int), clo N l x_1 y = x x_1 y) ∧ True) ∧ True) ∧
 ∀ (x_1 : Int → Int → Bool),
 (∀ (x y : Int), x_1 x y = true → clo N l x y = true) →
 ((∀ (a b : Int), x_1 a b = false) →
 ((0 : Int) ≤ N ∧ N ≤ (64 : Int)) ∧
 (AV.ps (normL N (rdL (clo N l) x_1 N.toNat))).len =
 (bifL (okR N l) (redL N l)).length ∧
 ((∀ (j : Nat),
 j < (bifL (okR N l) (redL N l)).length →
 (nthD ((0 : Int), (0 : Int)) (normL N (rdL (clo N l) x_1 N.toNat))
 j).fst =
 (nthD ((0 : Int), (0 : Int)) (bifL (okR N l) (redL N l)) j).fst) ∧
 (∀ (j : Nat),
 j < (bifL (okR N l) (redL N l)).length →
 (nthD ((0 : Int), (0 : Int)) (normL N (rdL (clo N l) x_1 N.toNat))
 j).snd =
 (nthD ((0 : Int), (0 : Int)) (bifL (okR N l) (redL N l)) j).snd) ∧
 True) ∧
 ((N = bif okR N l then N else (0 : Int)) ∧
 (AV.ps (normL N (rdL (clo N l) x_1 N.toNat))).len =
 (bifL (okR N l) (redL N l)).length ∧
 True) ∧
 (0 : Int) = errR N l ∧ True) ∧
 ∀ (a b : Int),
 x_1 a b = true →
 ∃ (x_2 : Int × Int),
 (∃ (x : Nat),
 x ≤ N.toNat ∧
 ((0 : Int) = (↑x : Int) ∧
 true = !cmpK (clo N l) (clo N l) x x_2.fst x_2.snd ∧ True) ∧
 True) ∧
 ∀ (x_3 : Nat),
 x_3 ≤ N.toNat →
 (decide ((↑x_3 : Int) < N) = true →
 ∃ (x : Nat),
 x ≤ N.toNat ∧
 ((lRq (clo N l) N.toNat (28 : Nat) (7 : Nat)).ann x_2).mu x <
 ((lRq (clo N l) N.toNat (28 : Nat) (7 : Nat)).ann x_2).mu
 x_3 ∧
 ((N = N ∧ l.length = l.length) ∧
 True ∧
 True ∧
 (0 : Int) = (0 : Int) ∧
 True ∧
 True ∧
 True ∧
 (!cmpK (clo N l) (clo N l) x_3 x_2.fst
 x_2.snd &&
 !(clo N l a (↑x_3 : Int) &&
 clo N l (↑x_3 : Int) b)) =
 !cmpK (clo N l) (clo N l) x x_2.fst
 x_2.snd ∧
 (N = N ∧ l.length = l.length) ∧
 validF N
 (mkN
 (fun (j : Nat) =>
 ((nthD ((0 : Int), (0 : Int)) l
 j).fst,
 (nthD ((0 : Int), (0 : Int)) l
 j).snd))
 l.length) =
 validF N
 (mkN
 (fun (j : Nat) =>
 ((nthD ((0 : Int), (0 : Int)) l
 j).fst,
 (nthD ((0 : Int), (0 : Int)) l
 j).snd))
 l.length) ∧
 false = false ∧
 (N = N ∧ l.length = l.length) ∧
 (validF N
 (mkN
 (fun (j : Nat) =>
 ((nthD
 ((0 : Int),
 (0 : Int))
 l j).fst,
 (nthD
 ((0 : Int),
 (0 : Int))
 l j).snd))
 l.length) &&
 acyF N.toNat
 (wF
 (setF
 (mkN
 (fun (j : Nat) =>
 ((nthD
 ((0 : Int),
 (0 : Int))
 l j).fst,
 (nthD
 ((0 : Int),
 (0 : Int))
 l j).snd))
 l.length))
 N.toNat)) =
 (validF N
 (mkN
 (fun (j : Nat) =>
 ((nthD
 ((0 : Int),
 (0 : Int))
 l j).fst,
 (nthD
 ((0 : Int),
 (0 : Int))
 l j).snd))
 l.length) &&
 acyF N.toNat
 (wF
 (setF
 (mkN
 (fun (j : Nat) =>
 ((nthD
 ((0 : Int),
 (0 : Int))
 l j).fst,
 (nthD
 ((0 : Int),
 (0 : Int))
 l j).snd))
 l.length))
 N.toNat)) ∧
 false = false ∧
 (N = N ∧ l.length = l.length) ∧
 True ∧
 True ∧
 True ∧
 True ∧
 (true = true ∧
 (a = a ∧ b = b) ∧
 true = true) ∧
 true = true ∧
 ((a = a ∧ b = b) ∧
 true = true) ∧
 (a = a ∧ b = b) ∧
 True ∧
 N = N ∧
 IntKind.i64.wrap
 ((↑x_3 :
 Int) +
 (1 :
 Int)) =
 (↑x :
 Int) ∧
 True) ∧
 (l.length = l.length ∧
 (∀ (j : Nat),
 j < l.length →
 (nthD ((0 : Int), (0 : Int)) l j).fst =
 (nthD ((0 : Int), (0 : Int)) l j).fst) ∧
 (∀ (j : Nat),
 j < l.length →
 (nthD ((0 : Int), (0 : Int)) l j).snd =
 (nthD ((0 : Int), (0 : Int)) l j).snd) ∧
 True) ∧
 (N = N ∧ l.length = l.length) ∧
 ((0 : Int) = (0 : Int) ∧ True) ∧
 (∀ (x y : Int), clo N l x y = clo N l x y) ∧
 (∀ (x y : Int),
 rdL (clo N l) x_1 N.toNat x y =
 rdL (clo N l) x_1 N.toNat x y) ∧
 ((∀ (x y : Int),
 (x_1 x y && !(x == a && y == b)) =
 (x_1 x y && !(x == a && y == b))) ∧
 some (a, b) = some (a, b)) ∧
 (a = a ∧ b = b) ∧ True) ∧
 (decide ((↑x_3 : Int) < N) = false →
 ((!cmpK (clo N l) (clo N l) x_3 x_2.fst x_2.snd) = true →
 ∃ (x_4 : Int → Int → Bool),
 (∀ (x y : Int), x_4 x y = true → clo N l x y = true) ∧
 ((PLoop.of
 (lIt N.toNat (clo N l) (4 : Nat) (5 : Nat)
 fun (left : Pf) =>
 MBlk.mapp (rdL (clo N l) left N.toNat))).ann
 x).mu
 x_4 <
 ((PLoop.of
 (lIt N.toNat (clo N l) (4 : Nat) (5 : Nat)
 fun (left : Pf) =>
 MBlk.mapp (rdL (clo N l) left N.toNat))).ann
 x).mu
 x_1 ∧
 ((N = N ∧ l.length = l.length) ∧
 True ∧
 True ∧
 (0 : Int) = (0 : Int) ∧
 True ∧
 True ∧
 (N = N ∧ l.length = l.length) ∧
 validF N
 (mkN
 (fun (j : Nat) =>
 ((nthD ((0 : Int), (0 : Int)) l
 j).fst,
 (nthD ((0 : Int), (0 : Int)) l
 j).snd))
 l.length) =
 validF N
 (mkN
 (fun (j : Nat) =>
 ((nthD ((0 : Int), (0 : Int)) l
 j).fst,
 (nthD ((0 : Int), (0 : Int)) l
 j).snd))
 l.length) ∧
 false = false ∧
 (N = N ∧ l.length = l.length) ∧
 (validF N
 (mkN
 (fun (j : Nat) =>
 ((nthD
 ((0 : Int),
 (0 : Int))
 l j).fst,
 (nthD
 ((0 : Int),
 (0 : Int))
 l j).snd))
 l.length) &&
 acyF N.toNat
 (wF
 (setF
 (mkN
 (fun (j : Nat) =>
 ((nthD
 ((0 : Int),
 (0 : Int))
 l j).fst,
 (nthD
 ((0 : Int),
 (0 : Int))
 l j).snd))
 l.length))
 N.toNat)) =
 (validF N
 (mkN
 (fun (j : Nat) =>
 ((nthD
 ((0 : Int),
 (0 : Int))
 l j).fst,
 (nthD
 ((0 : Int),
 (0 : Int))
 l j).snd))
 l.length) &&
 acyF N.toNat
 (wF
 (setF
 (mkN
 (fun (j : Nat) =>
 ((nthD
 ((0 : Int),
 (0 : Int))
 l j).fst,
 (nthD
 ((0 : Int),
 (0 : Int))
 l j).snd))
 l.length))
 N.toNat)) ∧
 false = false ∧
 (N = N ∧ l.length = l.length) ∧
 True ∧
 True ∧ True ∧ True ∧ True) ∧
 (l.length = l.length ∧
 (∀ (j : Nat),
 j < l.length →
 (nthD ((0 : Int), (0 : Int)) l j).fst =
 (nthD ((0 : Int), (0 : Int)) l j).fst) ∧
 (∀ (j : Nat),
 j < l.length →
 (nthD ((0 : Int), (0 : Int)) l j).snd =
 (nthD ((0 : Int), (0 : Int)) l j).snd) ∧
 True) ∧
 (N = N ∧ l.length = l.length) ∧
 ((0 : Int) = (0 : Int) ∧ True) ∧
 (∀ (x y : Int), clo N l x y = clo N l x y) ∧
 (∀ (x y : Int),
 (x == a && y == b ||
 rdL (clo N l) x_1 N.toNat x y) =
 rdL (clo N l) x_4 N.toNat x y) ∧
 ((∀ (x y : Int),
 (x_1 x y && !(x == a && y == b)) =
 x_4 x y) ∧
 True) ∧
 True) ∧
 ((!cmpK (clo N l) (clo N l) x_3 x_2.fst x_2.snd) = false →
 ∃ (x_4 : Int → Int → Bool),
 (∀ (x y : Int), x_4 x y = true → clo N l x y = true) ∧
 ((PLoop.of
 (lIt N.toNat (clo N l) (4 : Nat) (5 : Nat)
 fun (left : Pf) =>
 MBlk.mapp (rdL (clo N l) left N.toNat))).ann
 x).mu
 x_4 <
 ((PLoop.of
 (lIt N.toNat (clo N l) (4 : Nat) (5 : Nat)
 fun (left : Pf) =>
 MBlk.mapp (rdL (clo N l) left N.toNat))).ann
 x).mu
 x_1 ∧
 ((N = N ∧ l.length = l.length) ∧
 True ∧
 True ∧
 (0 : Int) = (0 : Int) ∧
 True ∧
 True ∧
 (N = N ∧ l.length = l.length) ∧
 validF N
 (mkN
 (fun (j : Nat) =>
 ((nthD ((0 : Int), (0 : Int)) l
 j).fst,
 (nthD ((0 : Int), (0 : Int)) l
 j).snd))
 l.length) =
 validF N
 (mkN
 (fun (j : Nat) =>
 ((nthD ((0 : Int), (0 : Int)) l
 j).fst,
 (nthD ((0 : Int), (0 : Int)) l
 j).snd))
 l.length) ∧
 false = false ∧
 (N = N ∧ l.length = l.length) ∧
 (validF N
 (mkN
 (fun (j : Nat) =>
 ((nthD
 ((0 : Int),
 (0 : Int))
 l j).fst,
 (nthD
 ((0 : Int),
 (0 : Int))
 l j).snd))
 l.length) &&
 acyF N.toNat
 (wF
 (setF
 (mkN
 (fun (j : Nat) =>
 ((nthD
 ((0 : Int),
 (0 : Int))
 l j).fst,
 (nthD
 ((0 : Int),
 (0 : Int))
 l j).snd))
 l.length))
 N.toNat)) =
 (validF N
 (mkN
 (fun (j : Nat) =>
 ((nthD
 ((0 : Int),
 (0 : Int))
 l j).fst,
 (nthD
 ((0 : Int),
 (0 : Int))
 l j).snd))
 l.length) &&
 acyF N.toNat
 (wF
 (setF
 (mkN
 (fun (j : Nat) =>
 ((nthD
 ((0 : Int),
 (0 : Int))
 l j).fst,
 (nthD
 ((0 : Int),
 (0 : Int))
 l j).snd))
 l.length))
 N.toNat)) ∧
 false = false ∧
 (N = N ∧ l.length = l.length) ∧
 True ∧
 True ∧ True ∧ True ∧ True) ∧
 (l.length = l.length ∧
 (∀ (j : Nat),
 j < l.length →
 (nthD ((0 : Int), (0 : Int)) l j).fst =
 (nthD ((0 : Int), (0 : Int)) l j).fst) ∧
 (∀ (j : Nat),
 j < l.length →
 (nthD ((0 : Int), (0 : Int)) l j).snd =
 (nthD ((0 : Int), (0 : Int)) l j).snd) ∧
 True) ∧
 (N = N ∧ l.length = l.length) ∧
 ((0 : Int) = (0 : Int) ∧ True) ∧
 (∀ (x y : Int), clo N l x y = clo N l x y) ∧
 (∀ (x y : Int),
 rdL (clo N l) x_1 N.toNat x y =
 rdL (clo N l) x_4 N.toNat x y) ∧
 ((∀ (x y : Int),
 (x_1 x y && !(x == a && y == b)) =
 x_4 x y) ∧
 True) ∧
 True))))) := by kernel_rfl
theorem v19 (N : Int) (l : List Pq) (hl : L9 l) : fnVc (tab [kVal [], kAcy [], kCls [none, none, none, some (.mp (clo N l))], kNor []] [(0, .of (lIt N.toNat (clo N l) 4 5 (fun left => .mapp (rdL (clo N l) left N.toNat)))), (2, lRq (clo N l) N.toNat 28 7)]) Try.f19 [rlV N 0 l] [arP l] (resIs (relE (bif okR N l then N else 0) (errR N l) (bifL (okR N l) (redL N l)).length) 38 (bifL (okR N l) (redL N l)).length (psCols (bifL (okR N l) (redL N l)))) := by
  rw [v19_eq]
  simp only [eq_self, true_and, and_true, implies_true, imp_self, mkN_ps, mkN_rs, mkN_self, mkN_len, PLoop.of, lCnt, AV.len, lRa, lRb, lRc, lIt, lRq, mk_tbl]
  refine ⟨hl, fun h => ?_, fun h => ⟨hl, fun h' => ?_, fun h' => ?_⟩⟩
  · have hv : validF N l = false := by simpa using h
    simp [hv, bifL, okR, errR]
  · have hv : validF N l = true := by simpa using h
    have hc : acyF N.toNat (clo N l) = false := by rw [hv] at h'; simpa [clo] using h'
    simp [hv, hc, bifL, okR, errR]
  · have hv : validF N l = true := by simpa using h
    have hc : acyF N.toNat (clo N l) = true := by rw [hv] at h'; simpa [clo] using h'
    have hok : okR N l = true := by rw [okR, hv, hc]; rfl
    have her : errR N l = 0 := by rw [errR, hv, hc]; rfl
    obtain ⟨q1, q2, q3⟩ := validF_iff.1 hv
    have hs : Sup N.toNat (clo N l) := sup_wF (sup_set hv)
    refine ⟨hv, hl, rfl, (), ⟨clo N l, fun _ _ h => h, fun x y => by simp [rdL], fun _ _ => rfl⟩, fun left hlf => ⟨fun h0 => ?_, fun p q hpq => ⟨(p, q), ⟨0, by omega, rfl, by simp [cmpK]⟩, fun i hi => ⟨fun hlt => ?_, fun hlt => ?_⟩⟩⟩⟩
    · rw [rdL_none h0, hok, her]
      simp only [bifL, cond_true, eq_self, true_and, and_true, implies_true, redL]
      exact ⟨q1, q2⟩
    · have hlt2 := of_decide_eq_true hlt
      refine ⟨i + 1, by omega, by omega, ?_, wrS (n := 64) (by omega) (by omega)⟩
      rw [cmpK_succ, Bool.not_or]
    · have hlt2 := of_decide_eq_false hlt
      have e : i = N.toNat := by omega
      subst e
      refine ⟨fun hd => ⟨fun x y => left x y && !(x == p && y == q), fun x y hxy => ?_, left_less hs hlf hpq, fun x y => ?_, fun x y => rfl⟩, fun hd => ⟨fun x y => left x y && !(x == p && y == q), fun x y hxy => ?_, left_less hs hlf hpq, fun x y => ?_, fun x y => rfl⟩⟩
      · simp only [Bool.and_eq_true] at hxy; exact hlf _ _ hxy.1
      · rw [← rdL_take hlf hpq, hd, Bool.and_true]
      · simp only [Bool.and_eq_true] at hxy; exact hlf _ _ hxy.1
      · rw [← rdL_take hlf hpq, hd, Bool.and_false, Bool.false_or]
theorem v20_eq (N : Int) (l : List Pq) : (fnVc (tab [kVal' [], kAcy' [], kCld [none, none, none, some (.bs (tblL N.toNat (clo N l)))], kLst []] [(0, .of (lRa N.toNat (clo N l))), (2, lRb N.toNat (clo N l)), (4, lRc N.toNat (clo N l))]) Try.f20 [rlV N 0 l] [arP l] (resIs (relE (bif okR N l then N else 0) (errR N l) (bifL (okR N l) (redL N l)).length) 38 (bifL (okR N l) (redL N l)).length (psCols (bifL (okR N l) (redL N l))))) = (l.length = l.length ∧
 (mkN (fun (j : Nat) => ((nthD ((0 : Int), (0 : Int)) l j).fst, (nthD ((0 : Int), (0 : Int)) l j).snd))
 l.length).length ≤
 (1099511627776 : Nat) ∧
 ((!validF N
 (mkN (fun (j : Nat) => ((nthD ((0 : Int), (0 : Int)) l j).fst, (nthD ((0 : Int), (0 : Int)) l j).snd))
 l.length)) =
 true →
 (bifL (okR N l) (redL N l)).length = (0 : Nat) ∧
 (((0 : Int) = bif okR N l then N else (0 : Int)) ∧ (bifL (okR N l) (redL N l)).length = (0 : Nat) ∧ True) ∧
 (1 : Int) = errR N l ∧ True) ∧
 ((!validF N
 (mkN (fun (j : Nat) => ((nthD ((0 : Int), (0 : Int)) l j).fst, (nthD ((0 : Int), (0 : Int)) l j).snd))
 l.length)) =
 false →
 l.length = l.length ∧
 (mkN (fun (j : Nat) => ((nthD ((0 : Int), (0 : Int)) l j).fst, (nthD ((0 : Int), (0 : Int)) l j).snd))
 l.length).length ≤
 (1099511627776 : Nat) ∧
 ((!(validF N
 (mkN
 (fun (j : Nat) =>
 ((nthD ((0 : Int), (0 : Int)) l j).fst, (nthD ((0 : Int), (0 : Int)) l j).snd))
 l.length) &&
 acyF N.toNat
 (wF
 (setF
 (mkN
 (fun (j : Nat) =>
 ((nthD ((0 : Int), (0 : Int)) l j).fst, (nthD ((0 : Int), (0 : Int)) l j).snd))
 l.length))
 N.toNat))) =
 true →
 (bifL (okR N l) (redL N l)).length = (0 : Nat) ∧
 (((0 : Int) = bif okR N l then N else (0 : Int)) ∧
 (bifL (okR N l) (redL N l)).length = (0 : Nat) ∧ True) ∧
 (20 : Int) = errR N l ∧ True) ∧
 ((!(validF N
 (mkN
 (fun (j : Nat) =>
 ((nthD ((0 : Int), (0 : Int)) l j).fst, (nthD ((0 : Int), (0 : Int)) l j).snd))
 l.length) &&
 acyF N.toNat
 (wF
 (setF
 (mkN
 (fun (j : Nat) =>
 ((nthD ((0 : Int), (0 : Int)) l j).fst, (nthD ((0 : Int), (0 : Int)) l j).snd))
 l.length))
 N.toNat))) =
 false →
 l.length = l.length ∧
 validF N
 (mkN
 (fun (j : Nat) =>
 ((nthD ((0 : Int), (0 : Int)) l j).fst, (nthD ((0 : Int), (0 : Int)) l j).snd))
 l.length) =
 true ∧
 (mkN
 (fun (j : Nat) =>
 ((nthD ((0 : Int), (0 : Int)) l j).fst, (nthD ((0 : Int), (0 : Int)) l j).snd))
 l.length).length ≤
 (1099511627776 : Nat) ∧
 tblL N.toNat
 (wF
 (setF
 (mkN
 (fun (j : Nat) =>
 ((nthD ((0 : Int), (0 : Int)) l j).fst, (nthD ((0 : Int), (0 : Int)) l j).snd))
 l.length))
 N.toNat) =
 tblL N.toNat (clo N l) ∧
 (0 : Int) ≤ IntKind.i64.wrap (N * N) ∧
 IntKind.i64.wrap (N * N) = IntKind.i64.wrap (N * N) ∧
 (↑(1 : Nat) : Int) * IntKind.i64.wrap (N * N) ≤ (281474976710656 : Int) ∧
 IntKind.i64.wrap (N * N) ≤ (9223372036854775807 : Int) ∧
 ∃ (x : PUnit),
 (∃ (x : Nat),
 (x ≤ N.toNat ∧ True) ∧
 ((0 : Int) = (↑x : Int) ∧ True) ∧
 ((IntKind.i64.wrap (N * N)).toNat = N.toNat * N.toNat ∧
 (∀ (j : Nat),
 j < N.toNat * N.toNat →
 false =
 nthD false
 (tblL N.toNat (Ytcbmbnlgilampaa.rdA (clo N l) N.toNat x)) j) ∧
 True) ∧
 True) ∧
 ∀ (x_1 : Nat),
 x_1 ≤ N.toNat ∧ True →
 (decide ((↑x_1 : Int) < N) = true →
 ∃ (x_2 : Nat),
 (∃ (x : Nat),
 (x ≤ N.toNat ∧ x_2 < N.toNat) ∧
 ((0 : Int) = (↑x : Int) ∧ True) ∧
 (N.toNat * N.toNat = N.toNat * N.toNat ∧
 (∀ (j : Nat),
 j < N.toNat * N.toNat →
 nthD false
 (tblL N.toNat
 (Ytcbmbnlgilampaa.rdA (clo N l) N.toNat x_1))
 j =
 nthD false
 (tblL N.toNat (rdB (clo N l) N.toNat x_2 x)) j) ∧
 True) ∧
 True) ∧
 ∀ (x_3 : Nat),
 x_3 ≤ N.toNat ∧ x_2 < N.toNat →
 (decide ((↑x_3 : Int) < N) = true →
 ((0 : Int) ≤
 IntKind.i64.wrap
 (IntKind.i64.wrap ((↑x_1 : Int) * N) + (↑x_3 : Int)) ∧
 IntKind.i64.wrap
 (IntKind.i64.wrap ((↑x_1 : Int) * N) + (↑x_3 : Int)) <
 (↑(AV.bs (tblL N.toNat (clo N l))).len : Int)) ∧
 (IntKind.i64.wrap
 (IntKind.i64.wrap ((↑x_1 : Int) * N) +
 (↑x_3 : Int))).toNat <
 (AV.bs (tblL N.toNat (clo N l))).len ∧
 ((0 : Int) ≤
 IntKind.i64.wrap
 (IntKind.i64.wrap ((↑x_1 : Int) * N) +
 (↑x_3 : Int)) ∧
 IntKind.i64.wrap
 (IntKind.i64.wrap ((↑x_1 : Int) * N) +
 (↑x_3 : Int)) <
 (↑(IntKind.i64.wrap (N * N)).toNat : Int)) ∧
 (IntKind.i64.wrap
 (IntKind.i64.wrap ((↑x_1 : Int) * N) +
 (↑x_3 : Int))).toNat <
 N.toNat * N.toNat ∧
 ∃ (x : Nat × Nat),
 (∃ (x_4 : Nat),
 (x_4 ≤ N.toNat ∧
 x.fst < N.toNat ∧ x.snd < N.toNat) ∧
 ((0 : Int) = (↑x_4 : Int) ∧ True) ∧
 (N.toNat * N.toNat = N.toNat * N.toNat ∧
 (∀ (j : Nat),
 j < N.toNat * N.toNat →
 (bif
 j.beq
 (IntKind.i64.wrap
 (IntKind.i64.wrap
 ((↑x_1 : Int) * N) +
 (↑x_3 :
 Int))).toNat then
 nthD false
 (tblL N.toNat (clo N l))
 (IntKind.i64.wrap
 (IntKind.i64.wrap
 ((↑x_1 : Int) * N) +
 (↑x_3 : Int))).toNat
 else
 nthD false
 (tblL N.toNat
 (rdB (clo N l) N.toNat x_2
 x_3))
 j) =
 nthD false
 (tblL N.toNat
 (rdC (clo N l) N.toNat x.fst
 x.snd x_4))
 j) ∧
 True) ∧
 True) ∧
 ∀ (x_4 : Nat),
 x_4 ≤ N.toNat ∧
 x.fst < N.toNat ∧ x.snd < N.toNat →
 (decide ((↑x_4 : Int) < N) = true →
 ((0 : Int) ≤
 IntKind.i64.wrap
 (IntKind.i64.wrap
 ((↑x_1 : Int) * N) +
 (↑x_4 : Int)) ∧
 IntKind.i64.wrap
 (IntKind.i64.wrap
 ((↑x_1 : Int) * N) +
 (↑x_4 : Int)) <
 (↑(AV.bs
 (tblL N.toNat
 (clo N l))).len :
 Int)) ∧
 (IntKind.i64.wrap
 (IntKind.i64.wrap
 ((↑x_1 : Int) * N) +
 (↑x_4 : Int))).toNat <
 (AV.bs (tblL N.toNat (clo N l))).len ∧
 (nthD false (tblL N.toNat (clo N l))
 (IntKind.i64.wrap
 (IntKind.i64.wrap
 ((↑x_1 : Int) * N) +
 (↑x_4 : Int))).toNat =
 true →
 (0 : Int) ≤
 IntKind.i64.wrap
 (IntKind.i64.wrap
 ((↑x_4 : Int) * N) +
 (↑x_3 : Int)) ∧
 IntKind.i64.wrap
 (IntKind.i64.wrap
 ((↑x_4 : Int) * N) +
 (↑x_3 : Int)) <
 (↑(AV.bs
 (tblL N.toNat
 (clo N l))).len :
 Int)) ∧
 (nthD false (tblL N.toNat (clo N l))
 (IntKind.i64.wrap
 (IntKind.i64.wrap
 ((↑x_1 : Int) * N) +
 (↑x_4 : Int))).toNat =
 true →
 (IntKind.i64.wrap
 (IntKind.i64.wrap
 ((↑x_4 : Int) * N) +
 (↑x_3 : Int))).toNat <
 (AV.bs
 (tblL N.toNat
 (clo N l))).len) ∧
 ((nthD false
 (tblL N.toNat (clo N l))
 (IntKind.i64.wrap
 (IntKind.i64.wrap
 ((↑x_1 : Int) *
 N) +
 (↑x_4 :
 Int))).toNat &&
 nthD false
 (tblL N.toNat (clo N l))
 (IntKind.i64.wrap
 (IntKind.i64.wrap
 ((↑x_4 : Int) *
 N) +
 (↑x_3 :
 Int))).toNat) =
 true →
 ((0 : Int) ≤
 IntKind.i64.wrap
 (IntKind.i64.wrap
 ((↑x_1 : Int) * N) +
 (↑x_3 : Int)) ∧
 IntKind.i64.wrap
 (IntKind.i64.wrap
 ((↑x_1 : Int) * N) +
 (↑x_3 : Int)) <
 (↑(IntKind.i64.wrap
 (N * N)).toNat :
 Int)) ∧
 (IntKind.i64.wrap
 (IntKind.i64.wrap
 ((↑x_1 : Int) *
 N) +
 (↑x_3 :
 Int))).toNat <
 N.toNat * N.toNat ∧
 ∃ (x_5 : Nat),
 (x_5 ≤ N.toNat ∧
 x.fst < N.toNat ∧
 x.snd < N.toNat) ∧
 ((lRc N.toNat
 (clo N
 l)).ann
 x).mu
 x_5 <
 ((lRc N.toNat
 (clo N
 l)).ann
 x).mu
 x_4 ∧
 ((N = N ∧
 l.length =
 l.length) ∧
 True ∧
 True ∧
 (0 : Int) =
 (0 :
 Int) ∧
 N = N ∧
 (AV.bs
 (tblL
 N.toNat
 (clo
 N
 l))).len =
 (AV.bs
 (tblL
 N.toNat
 (clo
 N
 l))).len ∧
 (IntKind.i64.wrap
 (N *
 N)).toNat =
 (IntKind.i64.wrap
 (N *
 N)).toNat ∧
 (↑x_1 :
 Int) =
 (↑x_1 :
 Int) ∧
 (↑x_3 :
 Int) =
 (↑x_3 :
 Int) ∧
 IntKind.i64.wrap
 ((↑x_4 :
 Int) +
 (1 :
 Int)) =
 (↑x_5 :
 Int) ∧
 (N =
 N ∧
 l.length =
 l.length) ∧
 validF
 N
 (mkN
 (fun
 (j :
 Nat) =>
 ((nthD
 ((0 :
 Int),
 (0 :
 Int))
 l
 j).fst,
 (nthD
 ((0 :
 Int),
 (0 :
 Int))
 l
 j).snd))
 l.length) =
 validF
 N
 (mkN
 (fun
 (j :
 Nat) =>
 ((nthD
 ((0 :
 Int),
 (0 :
 Int))
 l
 j).fst,
 (nthD
 ((0 :
 Int),
 (0 :
 Int))
 l
 j).snd))
 l.length) ∧
 false =
 false ∧
 (N =
 N ∧
 l.length =
 l.length) ∧
 (validF
 N
 (mkN
 (fun
 (j :
 Nat) =>
 ((nthD
 ((0 :
 Int),
 (0 :
 Int))
 l
 j).fst,
 (nthD
 ((0 :
 Int),
 (0 :
 Int))
 l
 j).snd))
 l.length) &&
 acyF
 N.toNat
 (wF
 (setF
 (mkN
 (fun
 (j :
 Nat) =>
 ((nthD
 ((0 :
 Int),
 (0 :
 Int))
 l
 j).fst,
 (nthD
 ((0 :
 Int),
 (0 :
 Int))
 l
 j).snd))
 l.length))
 N.toNat)) =
 (validF
 N
 (mkN
 (fun
 (j :
 Nat) =>
 ((nthD
 ((0 :
 Int),
 (0 :
 Int))
 l
 j).fst,
 (nthD
 ((0 :
 Int),
 (0 :
 Int))
 l
 j).snd))
 l.length) &&
 acyF
 N.toNat
 (wF
 (setF
 (mkN
 (fun
 (j :
 Nat) =>
 ((nthD
 ((0 :
 Int),
 (0 :
 Int))
 l
 j).fst,
 (nthD
 ((0 :
 Int),
 (0 :
 Int))
 l
 j).snd))
 l.length))
 N.toNat)) ∧
 false =
 false ∧
 True ∧
 N =
 N ∧
 (N =
 N ∧
 l.length =
 l.length) ∧
 (AV.bs
 (tblL
 N.toNat
 (clo
 N
 l))).len =
 (AV.bs
 (tblL
 N.toNat
 (clo
 N
 l))).len ∧
 N =
 N ∧
 N =
 N ∧
 IntKind.i64.wrap
 (N *
 N) =
 IntKind.i64.wrap
 (N *
 N) ∧
 (IntKind.i64.wrap
 (N *
 N)).toNat =
 (IntKind.i64.wrap
 (N *
 N)).toNat ∧
 (↑x_1 :
 Int) =
 (↑x_1 :
 Int) ∧
 N =
 N ∧
 true =
 true ∧
 (↑x_3 :
 Int) =
 (↑x_3 :
 Int) ∧
 N =
 N ∧
 true =
 true ∧
 (IntKind.i64.wrap
 (N *
 N)).toNat =
 (IntKind.i64.wrap
 (N *
 N)).toNat ∧
 (↑x_1 :
 Int) =
 (↑x_1 :
 Int) ∧
 N =
 N ∧
 IntKind.i64.wrap
 ((↑x_1 :
 Int) *
 N) =
 IntKind.i64.wrap
 ((↑x_1 :
 Int) *
 N) ∧
 (↑x_3 :
 Int) =
 (↑x_3 :
 Int) ∧
 IntKind.i64.wrap
 (IntKind.i64.wrap
 ((↑x_1 :
 Int) *
 N) +
 (↑x_3 :
 Int)) =
 IntKind.i64.wrap
 (IntKind.i64.wrap
 ((↑x_1 :
 Int) *
 N) +
 (↑x_3 :
 Int)) ∧
 (AV.bs
 (tblL
 N.toNat
 (clo
 N
 l))).len =
 (AV.bs
 (tblL
 N.toNat
 (clo
 N
 l))).len ∧
 (↑x_1 :
 Int) =
 (↑x_1 :
 Int) ∧
 N =
 N ∧
 IntKind.i64.wrap
 ((↑x_1 :
 Int) *
 N) =
 IntKind.i64.wrap
 ((↑x_1 :
 Int) *
 N) ∧
 (↑x_3 :
 Int) =
 (↑x_3 :
 Int) ∧
 IntKind.i64.wrap
 (IntKind.i64.wrap
 ((↑x_1 :
 Int) *
 N) +
 (↑x_3 :
 Int)) =
 IntKind.i64.wrap
 (IntKind.i64.wrap
 ((↑x_1 :
 Int) *
 N) +
 (↑x_3 :
 Int)) ∧
 (IntKind.i64.wrap
 (IntKind.i64.wrap
 ((↑x_1 :
 Int) *
 N) +
 (↑x_3 :
 Int))).toNat =
 (IntKind.i64.wrap
 (IntKind.i64.wrap
 ((↑x_1 :
 Int) *
 N) +
 (↑x_3 :
 Int))).toNat ∧
 nthD
 false
 (tblL
 N.toNat
 (clo
 N
 l))
 (IntKind.i64.wrap
 (IntKind.i64.wrap
 ((↑x_1 :
 Int) *
 N) +
 (↑x_3 :
 Int))).toNat =
 nthD
 false
 (tblL
 N.toNat
 (clo
 N
 l))
 (IntKind.i64.wrap
 (IntKind.i64.wrap
 ((↑x_1 :
 Int) *
 N) +
 (↑x_3 :
 Int))).toNat ∧
 (IntKind.i64.wrap
 (IntKind.i64.wrap
 ((↑x_1 :
 Int) *
 N) +
 (↑x_3 :
 Int))).toNat =
 (IntKind.i64.wrap
 (IntKind.i64.wrap
 ((↑x_1 :
 Int) *
 N) +
 (↑x_3 :
 Int))).toNat ∧
 True) ∧
 (l.length =
 l.length ∧
 (∀ (j : Nat),
 j <
 l.length →
 (nthD
 ((0 :
 Int),
 (0 :
 Int))
 l
 j).fst =
 (nthD
 ((0 :
 Int),
 (0 :
 Int))
 l
 j).fst) ∧
 (∀ (j : Nat),
 j <
 l.length →
 (nthD
 ((0 :
 Int),
 (0 :
 Int))
 l
 j).snd =
 (nthD
 ((0 :
 Int),
 (0 :
 Int))
 l
 j).snd) ∧
 True) ∧
 (N = N ∧
 l.length =
 l.length) ∧
 ((0 : Int) =
 (0 :
 Int) ∧
 True) ∧
 ((AV.bs
 (tblL
 N.toNat
 (clo
 N
 l))).len =
 (AV.bs
 (tblL
 N.toNat
 (clo
 N
 l))).len ∧
 (∀
 (j :
 Nat),
 j <
 (AV.bs
 (tblL
 N.toNat
 (clo
 N
 l))).len →
 nthD
 false
 (tblL
 N.toNat
 (clo
 N
 l))
 j =
 nthD
 false
 (tblL
 N.toNat
 (clo
 N
 l))
 j) ∧
 True) ∧
 (N.toNat *
 N.toNat =
 N.toNat *
 N.toNat ∧
 (∀
 (j :
 Nat),
 j <
 N.toNat *
 N.toNat →
 (bif
 j.beq
 (IntKind.i64.wrap
 (IntKind.i64.wrap
 ((↑x_1 :
 Int) *
 N) +
 (↑x_3 :
 Int))).toNat then
 false
 else
 nthD
 false
 (tblL
 N.toNat
 (rdC
 (clo
 N
 l)
 N.toNat
 x.fst
 x.snd
 x_4))
 j) =
 nthD
 false
 (tblL
 N.toNat
 (rdC
 (clo
 N
 l)
 N.toNat
 x.fst
 x.snd
 x_5))
 j) ∧
 True) ∧
 True) ∧
 ((nthD false
 (tblL N.toNat (clo N l))
 (IntKind.i64.wrap
 (IntKind.i64.wrap
 ((↑x_1 : Int) *
 N) +
 (↑x_4 :
 Int))).toNat &&
 nthD false
 (tblL N.toNat (clo N l))
 (IntKind.i64.wrap
 (IntKind.i64.wrap
 ((↑x_4 : Int) *
 N) +
 (↑x_3 :
 Int))).toNat) =
 false →
 ∃ (x_5 : Nat),
 (x_5 ≤ N.toNat ∧
 x.fst < N.toNat ∧
 x.snd < N.toNat) ∧
 ((lRc N.toNat (clo N l)).ann
 x).mu
 x_5 <
 ((lRc N.toNat
 (clo N l)).ann
 x).mu
 x_4 ∧
 ((N = N ∧
 l.length =
 l.length) ∧
 True ∧
 True ∧
 (0 : Int) =
 (0 : Int) ∧
 N = N ∧
 (AV.bs
 (tblL
 N.toNat
 (clo
 N
 l))).len =
 (AV.bs
 (tblL
 N.toNat
 (clo
 N
 l))).len ∧
 (IntKind.i64.wrap
 (N *
 N)).toNat =
 (IntKind.i64.wrap
 (N *
 N)).toNat ∧
 (↑x_1 :
 Int) =
 (↑x_1 :
 Int) ∧
 (↑x_3 :
 Int) =
 (↑x_3 :
 Int) ∧
 IntKind.i64.wrap
 ((↑x_4 :
 Int) +
 (1 :
 Int)) =
 (↑x_5 :
 Int) ∧
 (N =
 N ∧
 l.length =
 l.length) ∧
 validF
 N
 (mkN
 (fun
 (j :
 Nat) =>
 ((nthD
 ((0 :
 Int),
 (0 :
 Int))
 l
 j).fst,
 (nthD
 ((0 :
 Int),
 (0 :
 Int))
 l
 j).snd))
 l.length) =
 validF
 N
 (mkN
 (fun
 (j :
 Nat) =>
 ((nthD
 ((0 :
 Int),
 (0 :
 Int))
 l
 j).fst,
 (nthD
 ((0 :
 Int),
 (0 :
 Int))
 l
 j).snd))
 l.length) ∧
 false =
 false ∧
 (N =
 N ∧
 l.length =
 l.length) ∧
 (validF
 N
 (mkN
 (fun
 (j :
 Nat) =>
 ((nthD
 ((0 :
 Int),
 (0 :
 Int))
 l
 j).fst,
 (nthD
 ((0 :
 Int),
 (0 :
 Int))
 l
 j).snd))
 l.length) &&
 acyF
 N.toNat
 (wF
 (setF
 (mkN
 (fun
 (j :
 Nat) =>
 ((nthD
 ((0 :
 Int),
 (0 :
 Int))
 l
 j).fst,
 (nthD
 ((0 :
 Int),
 (0 :
 Int))
 l
 j).snd))
 l.length))
 N.toNat)) =
 (validF
 N
 (mkN
 (fun
 (j :
 Nat) =>
 ((nthD
 ((0 :
 Int),
 (0 :
 Int))
 l
 j).fst,
 (nthD
 ((0 :
 Int),
 (0 :
 Int))
 l
 j).snd))
 l.length) &&
 acyF
 N.toNat
 (wF
 (setF
 (mkN
 (fun
 (j :
 Nat) =>
 ((nthD
 ((0 :
 Int),
 (0 :
 Int))
 l
 j).fst,
 (nthD
 ((0 :
 Int),
 (0 :
 Int))
 l
 j).snd))
 l.length))
 N.toNat)) ∧
 false =
 false ∧
 True ∧
 N =
 N ∧
 (N =
 N ∧
 l.length =
 l.length) ∧
 (AV.bs
 (tblL
 N.toNat
 (clo
 N
 l))).len =
 (AV.bs
 (tblL
 N.toNat
 (clo
 N
 l))).len ∧
 N =
 N ∧
 N =
 N ∧
 IntKind.i64.wrap
 (N *
 N) =
 IntKind.i64.wrap
 (N *
 N) ∧
 (IntKind.i64.wrap
 (N *
 N)).toNat =
 (IntKind.i64.wrap
 (N *
 N)).toNat ∧
 (↑x_1 :
 Int) =
 (↑x_1 :
 Int) ∧
 N =
 N ∧
 true =
 true ∧
 (↑x_3 :
 Int) =
 (↑x_3 :
 Int) ∧
 N =
 N ∧
 true =
 true ∧
 (IntKind.i64.wrap
 (N *
 N)).toNat =
 (IntKind.i64.wrap
 (N *
 N)).toNat ∧
 (↑x_1 :
 Int) =
 (↑x_1 :
 Int) ∧
 N =
 N ∧
 IntKind.i64.wrap
 ((↑x_1 :
 Int) *
 N) =
 IntKind.i64.wrap
 ((↑x_1 :
 Int) *
 N) ∧
 (↑x_3 :
 Int) =
 (↑x_3 :
 Int) ∧
 IntKind.i64.wrap
 (IntKind.i64.wrap
 ((↑x_1 :
 Int) *
 N) +
 (↑x_3 :
 Int)) =
 IntKind.i64.wrap
 (IntKind.i64.wrap
 ((↑x_1 :
 Int) *
 N) +
 (↑x_3 :
 Int)) ∧
 (AV.bs
 (tblL
 N.toNat
 (clo
 N
 l))).len =
 (AV.bs
 (tblL
 N.toNat
 (clo
 N
 l))).len ∧
 (↑x_1 :
 Int) =
 (↑x_1 :
 Int) ∧
 N =
 N ∧
 IntKind.i64.wrap
 ((↑x_1 :
 Int) *
 N) =
 IntKind.i64.wrap
 ((↑x_1 :
 Int) *
 N) ∧
 (↑x_3 :
 Int) =
 (↑x_3 :
 Int) ∧
 IntKind.i64.wrap
 (IntKind.i64.wrap
 ((↑x_1 :
 Int) *
 N) +
 (↑x_3 :
 Int)) =
 IntKind.i64.wrap
 (IntKind.i64.wrap
 ((↑x_1 :
 Int) *
 N) +
 (↑x_3 :
 Int)) ∧
 (IntKind.i64.wrap
 (IntKind.i64.wrap
 ((↑x_1 :
 Int) *
 N) +
 (↑x_3 :
 Int))).toNat =
 (IntKind.i64.wrap
 (IntKind.i64.wrap
 ((↑x_1 :
 Int) *
 N) +
 (↑x_3 :
 Int))).toNat ∧
 nthD
 false
 (tblL
 N.toNat
 (clo
 N
 l))
 (IntKind.i64.wrap
 (IntKind.i64.wrap
 ((↑x_1 :
 Int) *
 N) +
 (↑x_3 :
 Int))).toNat =
 nthD
 false
 (tblL
 N.toNat
 (clo
 N
 l))
 (IntKind.i64.wrap
 (IntKind.i64.wrap
 ((↑x_1 :
 Int) *
 N) +
 (↑x_3 :
 Int))).toNat ∧
 (IntKind.i64.wrap
 (IntKind.i64.wrap
 ((↑x_1 :
 Int) *
 N) +
 (↑x_3 :
 Int))).toNat =
 (IntKind.i64.wrap
 (IntKind.i64.wrap
 ((↑x_1 :
 Int) *
 N) +
 (↑x_3 :
 Int))).toNat ∧
 True) ∧
 (l.length = l.length ∧
 (∀ (j : Nat),
 j < l.length →
 (nthD
 ((0 :
 Int),
 (0 :
 Int))
 l
 j).fst =
 (nthD
 ((0 :
 Int),
 (0 :
 Int))
 l
 j).fst) ∧
 (∀ (j : Nat),
 j < l.length →
 (nthD
 ((0 :
 Int),
 (0 :
 Int))
 l
 j).snd =
 (nthD
 ((0 :
 Int),
 (0 :
 Int))
 l
 j).snd) ∧
 True) ∧
 (N = N ∧
 l.length =
 l.length) ∧
 ((0 : Int) =
 (0 : Int) ∧
 True) ∧
 ((AV.bs
 (tblL
 N.toNat
 (clo N
 l))).len =
 (AV.bs
 (tblL
 N.toNat
 (clo N
 l))).len ∧
 (∀ (j : Nat),
 j <
 (AV.bs
 (tblL
 N.toNat
 (clo
 N
 l))).len →
 nthD
 false
 (tblL
 N.toNat
 (clo
 N
 l))
 j =
 nthD
 false
 (tblL
 N.toNat
 (clo
 N
 l))
 j) ∧
 True) ∧
 (N.toNat *
 N.toNat =
 N.toNat *
 N.toNat ∧
 (∀
 (j :
 Nat),
 j <
 N.toNat *
 N.toNat →
 nthD
 false
 (tblL
 N.toNat
 (rdC
 (clo
 N
 l)
 N.toNat
 x.fst
 x.snd
 x_4))
 j =
 nthD
 false
 (tblL
 N.toNat
 (rdC
 (clo
 N
 l)
 N.toNat
 x.fst
 x.snd
 x_5))
 j) ∧
 True) ∧
 True)) ∧
 (decide ((↑x_4 : Int) < N) = false →
 ∃ (x_5 : Nat),
 (x_5 ≤ N.toNat ∧ x_2 < N.toNat) ∧
 ((lRb N.toNat (clo N l)).ann x_2).mu
 x_5 <
 ((lRb N.toNat (clo N l)).ann x_2).mu
 x_3 ∧
 ((N = N ∧ l.length = l.length) ∧
 True ∧
 True ∧
 (0 : Int) = (0 : Int) ∧
 N = N ∧
 (AV.bs
 (tblL N.toNat
 (clo N
 l))).len =
 (AV.bs
 (tblL N.toNat
 (clo N
 l))).len ∧
 (IntKind.i64.wrap
 (N * N)).toNat =
 (IntKind.i64.wrap
 (N * N)).toNat ∧
 (↑x_1 : Int) =
 (↑x_1 : Int) ∧
 IntKind.i64.wrap
 ((↑x_3 :
 Int) +
 (1 : Int)) =
 (↑x_5 : Int) ∧
 (N = N ∧
 l.length =
 l.length) ∧
 validF N
 (mkN
 (fun
 (j :
 Nat) =>
 ((nthD
 ((0 :
 Int),
 (0 :
 Int))
 l
 j).fst,
 (nthD
 ((0 :
 Int),
 (0 :
 Int))
 l
 j).snd))
 l.length) =
 validF N
 (mkN
 (fun
 (j :
 Nat) =>
 ((nthD
 ((0 :
 Int),
 (0 :
 Int))
 l
 j).fst,
 (nthD
 ((0 :
 Int),
 (0 :
 Int))
 l
 j).snd))
 l.length) ∧
 false =
 false ∧
 (N = N ∧
 l.length =
 l.length) ∧
 (validF N
 (mkN
 (fun
 (j :
 Nat) =>
 ((nthD
 ((0 :
 Int),
 (0 :
 Int))
 l
 j).fst,
 (nthD
 ((0 :
 Int),
 (0 :
 Int))
 l
 j).snd))
 l.length) &&
 acyF
 N.toNat
 (wF
 (setF
 (mkN
 (fun
 (j :
 Nat) =>
 ((nthD
 ((0 :
 Int),
 (0 :
 Int))
 l
 j).fst,
 (nthD
 ((0 :
 Int),
 (0 :
 Int))
 l
 j).snd))
 l.length))
 N.toNat)) =
 (validF
 N
 (mkN
 (fun
 (j :
 Nat) =>
 ((nthD
 ((0 :
 Int),
 (0 :
 Int))
 l
 j).fst,
 (nthD
 ((0 :
 Int),
 (0 :
 Int))
 l
 j).snd))
 l.length) &&
 acyF
 N.toNat
 (wF
 (setF
 (mkN
 (fun
 (j :
 Nat) =>
 ((nthD
 ((0 :
 Int),
 (0 :
 Int))
 l
 j).fst,
 (nthD
 ((0 :
 Int),
 (0 :
 Int))
 l
 j).snd))
 l.length))
 N.toNat)) ∧
 false =
 false ∧
 True ∧
 N =
 N ∧
 (N =
 N ∧
 l.length =
 l.length) ∧
 (AV.bs
 (tblL
 N.toNat
 (clo
 N
 l))).len =
 (AV.bs
 (tblL
 N.toNat
 (clo
 N
 l))).len ∧
 N =
 N ∧
 N =
 N ∧
 IntKind.i64.wrap
 (N *
 N) =
 IntKind.i64.wrap
 (N *
 N) ∧
 (IntKind.i64.wrap
 (N *
 N)).toNat =
 (IntKind.i64.wrap
 (N *
 N)).toNat ∧
 (↑x_1 :
 Int) =
 (↑x_1 :
 Int) ∧
 N =
 N ∧
 true =
 true ∧
 True) ∧
 (l.length = l.length ∧
 (∀ (j : Nat),
 j < l.length →
 (nthD
 ((0 : Int),
 (0 : Int))
 l j).fst =
 (nthD
 ((0 : Int),
 (0 : Int))
 l j).fst) ∧
 (∀ (j : Nat),
 j < l.length →
 (nthD
 ((0 : Int),
 (0 : Int))
 l j).snd =
 (nthD
 ((0 : Int),
 (0 : Int))
 l j).snd) ∧
 True) ∧
 (N = N ∧ l.length = l.length) ∧
 ((0 : Int) = (0 : Int) ∧ True) ∧
 ((AV.bs
 (tblL N.toNat
 (clo N l))).len =
 (AV.bs
 (tblL N.toNat
 (clo N l))).len ∧
 (∀ (j : Nat),
 j <
 (AV.bs
 (tblL N.toNat
 (clo N
 l))).len →
 nthD false
 (tblL N.toNat
 (clo N l))
 j =
 nthD false
 (tblL N.toNat
 (clo N l))
 j) ∧
 True) ∧
 (N.toNat * N.toNat =
 N.toNat * N.toNat ∧
 (∀ (j : Nat),
 j <
 N.toNat *
 N.toNat →
 nthD false
 (tblL N.toNat
 (rdC
 (clo N l)
 N.toNat
 x.fst
 x.snd
 x_4))
 j =
 nthD false
 (tblL N.toNat
 (rdB
 (clo N l)
 N.toNat
 x_2 x_5))
 j) ∧
 True) ∧
 True)) ∧
 (decide ((↑x_3 : Int) < N) = false →
 ∃ (x_4 : Nat),
 (x_4 ≤ N.toNat ∧ True) ∧
 ((PLoop.of (lRa N.toNat (clo N l))).ann x).mu x_4 <
 ((PLoop.of (lRa N.toNat (clo N l))).ann x).mu x_1 ∧
 ((N = N ∧ l.length = l.length) ∧
 True ∧
 True ∧
 (0 : Int) = (0 : Int) ∧
 N = N ∧
 (AV.bs (tblL N.toNat (clo N l))).len =
 (AV.bs (tblL N.toNat (clo N l))).len ∧
 (IntKind.i64.wrap (N * N)).toNat =
 (IntKind.i64.wrap (N * N)).toNat ∧
 IntKind.i64.wrap
 ((↑x_1 : Int) + (1 : Int)) =
 (↑x_4 : Int) ∧
 (N = N ∧ l.length = l.length) ∧
 validF N
 (mkN
 (fun (j : Nat) =>
 ((nthD
 ((0 : Int), (0 : Int))
 l j).fst,
 (nthD
 ((0 : Int), (0 : Int))
 l j).snd))
 l.length) =
 validF N
 (mkN
 (fun (j : Nat) =>
 ((nthD
 ((0 : Int), (0 : Int))
 l j).fst,
 (nthD
 ((0 : Int), (0 : Int))
 l j).snd))
 l.length) ∧
 false = false ∧
 (N = N ∧ l.length = l.length) ∧
 (validF N
 (mkN
 (fun (j : Nat) =>
 ((nthD
 ((0 : Int),
 (0 : Int))
 l j).fst,
 (nthD
 ((0 : Int),
 (0 : Int))
 l j).snd))
 l.length) &&
 acyF N.toNat
 (wF
 (setF
 (mkN
 (fun (j : Nat) =>
 ((nthD
 ((0 :
 Int),
 (0 :
 Int))
 l j).fst,
 (nthD
 ((0 :
 Int),
 (0 :
 Int))
 l j).snd))
 l.length))
 N.toNat)) =
 (validF N
 (mkN
 (fun (j : Nat) =>
 ((nthD
 ((0 : Int),
 (0 : Int))
 l j).fst,
 (nthD
 ((0 : Int),
 (0 : Int))
 l j).snd))
 l.length) &&
 acyF N.toNat
 (wF
 (setF
 (mkN
 (fun (j : Nat) =>
 ((nthD
 ((0 :
 Int),
 (0 :
 Int))
 l j).fst,
 (nthD
 ((0 :
 Int),
 (0 :
 Int))
 l j).snd))
 l.length))
 N.toNat)) ∧
 false = false ∧
 True ∧
 N = N ∧
 (N = N ∧
 l.length =
 l.length) ∧
 (AV.bs
 (tblL N.toNat
 (clo N
 l))).len =
 (AV.bs
 (tblL N.toNat
 (clo N
 l))).len ∧
 N = N ∧
 N = N ∧
 IntKind.i64.wrap
 (N * N) =
 IntKind.i64.wrap
 (N * N) ∧
 (IntKind.i64.wrap
 (N *
 N)).toNat =
 (IntKind.i64.wrap
 (N *
 N)).toNat ∧
 True) ∧
 (l.length = l.length ∧
 (∀ (j : Nat),
 j < l.length →
 (nthD ((0 : Int), (0 : Int)) l j).fst =
 (nthD ((0 : Int), (0 : Int)) l j).fst) ∧
 (∀ (j : Nat),
 j < l.length →
 (nthD ((0 : Int), (0 : Int)) l j).snd =
 (nthD ((0 : Int), (0 : Int)) l j).snd) ∧
 True) ∧
 (N = N ∧ l.length = l.length) ∧
 ((0 : Int) = (0 : Int) ∧ True) ∧
 ((AV.bs (tblL N.toNat (clo N l))).len =
 (AV.bs (tblL N.toNat (clo N l))).len ∧
 (∀ (j : Nat),
 j < (AV.bs (tblL N.toNat (clo N l))).len →
 nthD false (tblL N.toNat (clo N l)) j =
 nthD false (tblL N.toNat (clo N l))
 j) ∧
 True) ∧
 (N.toNat * N.toNat = N.toNat * N.toNat ∧
 (∀ (j : Nat),
 j < N.toNat * N.toNat →
 nthD false
 (tblL N.toNat
 (rdB (clo N l) N.toNat x_2 x_3))
 j =
 nthD false
 (tblL N.toNat
 (Ytcbmbnlgilampaa.rdA (clo N l)
 N.toNat x_4))
 j) ∧
 True) ∧
 True)) ∧
 (decide ((↑x_1 : Int) < N) = false →
 (IntKind.i64.wrap (N * N)).toNat = N.toNat * N.toNat ∧
 ((0 : Int) ≤ N ∧ N ≤ (64 : Int)) ∧
 (mkN
 (nthD false
 (tblL N.toNat (Ytcbmbnlgilampaa.rdA (clo N l) N.toNat x_1)))
 (N.toNat * N.toNat)).length =
 N.toNat * N.toNat ∧
 (AV.ps
 (normL N
 (tblF N.toNat
 (mkN
 (nthD false
 (tblL N.toNat
 (Ytcbmbnlgilampaa.rdA (clo N l) N.toNat x_1)))
 (N.toNat * N.toNat))))).len =
 (bifL (okR N l) (redL N l)).length ∧
 ((∀ (j : Nat),
 j < (bifL (okR N l) (redL N l)).length →
 (nthD ((0 : Int), (0 : Int))
 (normL N
 (tblF N.toNat
 (mkN
 (nthD false
 (tblL N.toNat
 (Ytcbmbnlgilampaa.rdA (clo N l) N.toNat
 x_1)))
 (N.toNat * N.toNat))))
 j).fst =
 (nthD ((0 : Int), (0 : Int)) (bifL (okR N l) (redL N l))
 j).fst) ∧
 (∀ (j : Nat),
 j < (bifL (okR N l) (redL N l)).length →
 (nthD ((0 : Int), (0 : Int))
 (normL N
 (tblF N.toNat
 (mkN
 (nthD false
 (tblL N.toNat
 (Ytcbmbnlgilampaa.rdA (clo N l) N.toNat
 x_1)))
 (N.toNat * N.toNat))))
 j).snd =
 (nthD ((0 : Int), (0 : Int)) (bifL (okR N l) (redL N l))
 j).snd) ∧
 True) ∧
 ((N = bif okR N l then N else (0 : Int)) ∧
 (AV.ps
 (normL N
 (tblF N.toNat
 (mkN
 (nthD false
 (tblL N.toNat
 (Ytcbmbnlgilampaa.rdA (clo N l) N.toNat
 x_1)))
 (N.toNat * N.toNat))))).len =
 (bifL (okR N l) (redL N l)).length ∧
 True) ∧
 (0 : Int) = errR N l ∧ True)))) := by kernel_rfl
theorem v20 (N : Int) (l : List Pq) (hl : L9 l) : fnVc (tab [kVal' [], kAcy' [], kCld [none, none, none, some (.bs (tblL N.toNat (clo N l)))], kLst []] [(0, .of (lRa N.toNat (clo N l))), (2, lRb N.toNat (clo N l)), (4, lRc N.toNat (clo N l))]) Try.f20 [rlV N 0 l] [arP l] (resIs (relE (bif okR N l then N else 0) (errR N l) (bifL (okR N l) (redL N l)).length) 38 (bifL (okR N l) (redL N l)).length (psCols (bifL (okR N l) (redL N l)))) := by
  rw [v20_eq]
  simp only [eq_self, true_and, and_true, implies_true, imp_self, mkN_ps, mkN_rs, mkN_self, mkN_len, PLoop.of, lCnt, AV.len, lRa, lRb, lRc, lIt, lRq, mk_tbl]
  refine ⟨hl, fun h => ?_, fun h => ⟨hl, fun h' => ?_, fun h' => ?_⟩⟩
  · have hv : validF N l = false := by simpa using h
    simp [hv, bifL, okR, errR]
  · have hv : validF N l = true := by simpa using h
    have hc : acyF N.toNat (clo N l) = false := by rw [hv] at h'; simpa [clo] using h'
    simp [hv, hc, bifL, okR, errR]
  · have hv : validF N l = true := by simpa using h
    have hc : acyF N.toNat (clo N l) = true := by rw [hv] at h'; simpa [clo] using h'
    have hok : okR N l = true := by rw [okR, hv, hc]; rfl
    have her : errR N l = 0 := by rw [errR, hv, hc]; rfl
    obtain ⟨q1, q2, q3⟩ := validF_iff.1 hv
    have hs := sqw q1 q2
    have hsq : N.toNat * N.toNat ≤ 4096 := sq_le (by omega)
    rw [hs, hok, her]
    simp only [tblL_len, bifL, cond_true, Int.toNat_natCast, true_and]
    refine ⟨hv, hl, rfl, by omega, by omega, by omega, (), ⟨0, by simp, rfl, fun j hj => rdA_zero hj⟩, fun a ha => ⟨fun hla => ⟨a, ⟨0, ?_, rfl, fun j hj => rdB_zero hj⟩, fun b hb => ⟨fun hlb => ?_, fun hlb => ?_⟩⟩, fun hla => ?_⟩⟩
    · have := of_decide_eq_true hla; omega
    · have ha2 := of_decide_eq_true hla
      have hb2 := of_decide_eq_true hlb
      have i1 := ixw (a := a) (b := b) (N := N) (by omega) (by omega) (by omega)
      have i1' := ix_lt (n := N.toNat) (a := a) (b := b) (by omega) (by omega)
      rw [i1]
      simp only [Int.toNat_natCast]
      refine ⟨by omega, i1', by omega, i1', (a, b), ⟨0, ⟨by omega, by simp only; omega, by simp only; omega⟩, rfl, fun j hj => rdC_zero (by omega) (by omega) hj⟩, fun k hk => ⟨fun hlk => ?_, fun hlk => ?_⟩⟩
      · have hk2 := of_decide_eq_true hlk
        have i2 := ixw (a := a) (b := k) (N := N) (by omega) (by omega) (by omega)
        have i2' := ix_lt (n := N.toNat) (a := a) (b := k) (by omega) (by omega)
        have i3 := ixw (a := k) (b := b) (N := N) (by omega) (by omega) (by omega)
        have i3' := ix_lt (n := N.toNat) (a := k) (b := b) (by omega) (by omega)
        rw [i2, i3]
        simp only [Int.toNat_natCast]
        rw [tbl_at (a := a) (b := k) (by omega) (by omega), tbl_at (a := k) (b := b) (by omega) (by omega)]
        exact ⟨by omega, i2', fun _ => by omega, fun _ => i3', fun hc2 => ⟨by omega, i1', k + 1, ⟨by omega, by omega, by omega⟩, by omega, wrS (n := 64) (by omega) (by omega), fun j hj => rdC_hit (by omega) (by omega) hc2 hj⟩, fun hc2 => ⟨k + 1, ⟨by omega, by omega, by omega⟩, by omega, wrS (n := 64) (by omega) (by omega), fun j hj => rdC_miss hc2 hj⟩⟩
      · have := of_decide_eq_false hlk
        have e : k = N.toNat := by omega
        subst e
        exact ⟨b + 1, ⟨by omega, by omega⟩, by omega, wrS (n := 64) (by omega) (by omega), fun j hj => rdC_full hj⟩
    · have := of_decide_eq_false hlb
      have e : b = N.toNat := by omega
      subst e
      exact ⟨a + 1, by omega, by omega, wrS (n := 64) (by omega) (by omega), fun j hj => rdB_full hj⟩
    · have := of_decide_eq_false hla
      have e : a = N.toNat := by omega
      subst e
      rw [norm_tbl, rdA_full]
      simp only [implies_true, and_true, redL]
      exact ⟨q1, q2⟩
theorem fo28 : fnOk Try.prog 28 := ⟨Try.f28, Try.func28, by kernel_rfl, by kernel_rfl⟩
theorem fo19 : fnOk Try.prog 19 := ⟨Try.f19, Try.func19, by kernel_rfl, by kernel_rfl⟩
theorem fo20 : fnOk Try.prog 20 := ⟨Try.f20, Try.func20, by kernel_rfl, by kernel_rfl⟩
def t28 : List AV → Tab
  | [.r A a, .r B b] => tab [kUni [none, none, none, none, some (.ps (bif bothF A a B b then normL A (setF (a ++ b)) else []))], kNml [none, none, none, none, none, none, some (.ps (bif validF A a then normL A (setF a) else []))], kSam []] []
  | _ => tab [] []
theorem c28 : CallOk Try.prog [] 28 (genF EL [] [.r, .r] sWit) := by
  refine okT (fn := Try.f28) Try.func28 fo28 t28 (fun av => ?_) (fun av => ?_) (fun av pre rv h => ?_) (fun av pre rv h hp => ?_)
  · unfold t28; split <;> first | exact tabOk (mOne (n29 _) (mOne (n25 _) (mOne (n16 _) mNil))) | exact tabOk mNil
  · unfold t28; split <;> exact ⟨rfl, rfl⟩
  · unfold sWit at h; split at h <;> cases h
    exact ⟨rfl, fun t a e => by cases e <;> exact List.cons_ne_nil _ _⟩
  · unfold sWit at h; split at h <;> cases h
    exact v28 _ _ _ _ (hp _ (.head _)) (hp _ (.tail _ (.head _))) (hp _ (.tail _ (.tail _ (.head _))))
theorem n28 (nm : List (Option AV)) : CallOk Try.prog [] 28 (genF EL nm [.r, .r] sWit) := genNm c28
def t19 : List AV → Tab
  | [.r N l] => tab [kVal [], kAcy [], kCls [none, none, none, some (.mp (clo N l))], kNor []] [(0, .of (lIt N.toNat (clo N l) 4 5 (fun left => .mapp (rdL (clo N l) left N.toNat)))), (2, lRq (clo N l) N.toNat 28 7)]
  | _ => tab [] []
theorem c19 : CallOk Try.prog [] 19 (genF EL [] [.r] sRed) := by
  refine okT (fn := Try.f19) Try.func19 fo19 t19 (fun av => ?_) (fun av => ?_) (fun av pre rv h => ?_) (fun av pre rv h hp => ?_)
  · unfold t19; split <;> first | exact tabOk (mOne (n21 _) (mOne (n14 _) (mOne (n38 _) (mOne (n41 _) mNil)))) | exact tabOk mNil
  · unfold t19; split <;> exact ⟨rfl, rfl⟩
  · unfold sRed at h; split at h <;> cases h
    exact ⟨rfl, fun t a e => by cases e <;> exact List.cons_ne_nil _ _⟩
  · unfold sRed at h; split at h <;> cases h
    exact v19 _ _ (hp _ (.head _))
theorem n19 (nm : List (Option AV)) : CallOk Try.prog [] 19 (genF EL nm [.r] sRed) := genNm c19
def t20 : List AV → Tab
  | [.r N l] => tab [kVal' [], kAcy' [], kCld [none, none, none, some (.bs (tblL N.toNat (clo N l)))], kLst []] [(0, .of (lRa N.toNat (clo N l))), (2, lRb N.toNat (clo N l)), (4, lRc N.toNat (clo N l))]
  | _ => tab [] []
theorem c20 : CallOk Try.prog [] 20 (genF EL [] [.r] sRed) := by
  refine okT (fn := Try.f20) Try.func20 fo20 t20 (fun av => ?_) (fun av => ?_) (fun av pre rv h => ?_) (fun av pre rv h hp => ?_)
  · unfold t20; split <;> first | exact tabOk (mOne (n22 _) (mOne (n15 _) (mOne (n39 _) (mOne (n42 _) mNil)))) | exact tabOk mNil
  · unfold t20; split <;> exact ⟨rfl, rfl⟩
  · unfold sRed at h; split at h <;> cases h
    exact ⟨rfl, fun t a e => by cases e <;> exact List.cons_ne_nil _ _⟩
  · unfold sRed at h; split at h <;> cases h
    exact v20 _ _ (hp _ (.head _))
theorem n20 (nm : List (Option AV)) : CallOk Try.prog [] 20 (genF EL nm [.r] sRed) := genNm c20
end Go.Proofs.Ytcbmbnlgilampaa
