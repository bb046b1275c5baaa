/-
  The linext layer: relations: acyclicity.
-/
import Derived.Test.YtiokmglajigngaaU4
namespace Go.Proofs.Ytiokmglajigngaa
open Go Go.Proofs.Ytiokmglajigngaa.Sx
set_option maxRecDepth 100000
set_option linter.unusedSimpArgs false
set_option linter.unusedVariables false
def mixA (f : Pf) (m a : Nat) : Pf := fun x y => bif decide (x < (a : Int)) then wF f (m + 1) x y else wF f m x y
def mixB (f : Pf) (m a b : Nat) : Pf := fun x y => bif decide (x < (a : Int)) || (decide (x = (a : Int)) && decide (y < (b : Int))) then wF f (m + 1) x y else wF f m x y
def tblK (e n : Nat) (f : Pf) : Nat × MBlk := (e, .oarr 4 (n * n) (bsCols (tblL n f)))
def lWm (n : Nat) (f : Pf) (t e : Nat) : LAnn := lCnt n t (fun _ => True) (fun m => [tblK e n (wF f m)]) []
def lWa (n : Nat) (f : Pf) (t e : Nat) : PLoop := ⟨Nat, fun m => lCnt n t (fun _ => m < n) (fun a => [tblK e n (mixA f m a)]) []⟩
def lWb (n : Nat) (f : Pf) (t e : Nat) : PLoop := ⟨Nat × Nat, fun p => lCnt n t (fun _ => p.1 < n ∧ p.2 < n) (fun b => [tblK e n (mixB f p.1 p.2 b)]) []⟩
def acyF (n : Nat) (f : Pf) : Bool := (List.range n).all (fun a => !f a a)
def lAcy (n : Nat) (f : Pf) (t : Nat) : LAnn := lCnt n t (fun i => acyF i f = true) (fun _ => []) []
def lIsm (a b : List Int) (t : Nat) : LAnn := lCnt a.length t (fun i => a.take i = b.take i) (fun _ => []) []
def arI (l : List Int) : MBlk := .arr l.length (isCols l)
def sCld : Sp := fun | [.r N l] => some ([validF N l = true, L9 l], .sl (fun k => .sl 0 k) (.bs (tblL N.toNat (wF (setF l) N.toNat)))) | _ => none
def sAcy : Sp := fun | [.r N l] => some ([L9 l], .pl (.b (validF N l && acyF N.toNat (wF (setF l) N.toNat)))) | _ => none
def sInt : Sp := fun | [.is a, .is b] => some ([L9 a, L9 b], .pl (.b (decide (a = b)))) | _ => none
def kCld (nm : List (Option AV)) : Nat × (List MBlk → List SV → Option AR) := (45, genF EL nm [.r] sCld)
def kAcy (nm : List (Option AV)) : Nat × (List MBlk → List SV → Option AR) := (47, genF EL nm [.r] sAcy)
def kAcy' (nm : List (Option AV)) : Nat × (List MBlk → List SV → Option AR) := (28, genF EL nm [.r] sAcy)
def kInt (nm : List (Option AV)) : Nat × (List MBlk → List SV → Option AR) := (18, genF EL nm [.is, .is] sInt)
theorem tbl_at {n a b : Nat} {g : Pf} (ha : a < n) (hb : b < n) : nthD false (tblL n g) (a * n + b) = g a b := by
  rw [nthD_tblL (ix_lt ha hb), ix_div hb, ix_mod hb]
theorem mixA_zero {f : Pf} {m n j : Nat} (hj : j < n * n) : nthD false (tblL n (wF f m)) j = nthD false (tblL n (mixA f m 0)) j := by
  rw [nthD_tblL hj, nthD_tblL hj, mixA]
  rw [decide_eq_false (p := ((j / n : Nat) : Int) < ((0 : Nat) : Int)) (by generalize j / n = q; omega)]; rfl
theorem mixA_full {f : Pf} {m n j : Nat} (hj : j < n * n) : nthD false (tblL n (mixA f m n)) j = nthD false (tblL n (wF f (m + 1))) j := by
  rw [nthD_tblL hj, nthD_tblL hj, mixA]
  have : j / n < n := Nat.div_lt_of_lt_mul hj
  rw [decide_eq_true (by omega)]; rfl
theorem mixB_zero {f : Pf} {m n a j : Nat} (hj : j < n * n) : nthD false (tblL n (mixA f m a)) j = nthD false (tblL n (mixB f m a 0)) j := by
  rw [nthD_tblL hj, nthD_tblL hj, mixA, mixB]
  rw [decide_eq_false (p := ((j % n : Nat) : Int) < ((0 : Nat) : Int)) (by omega), Bool.and_false, Bool.or_false]
theorem mixB_am {f : Pf} {m a b : Nat} : mixB f m a b a m = wF f m a m := by
  rw [mixB]
  rw [decide_eq_false (p := (a : Int) < (a : Int)) (by omega), decide_eq_true (p := (a : Int) = (a : Int)) rfl, Bool.false_or, Bool.true_and]
  cases decide ((m : Int) < (b : Int))
  · rfl
  · simp only [cond_true, wF]
    cases wF f m a m <;> simp
theorem mixB_done {f : Pf} {m n a b j : Nat} (hj : j < n * n) (h : b = n ∨ wF f m a m = false) : nthD false (tblL n (mixB f m a b)) j = nthD false (tblL n (mixA f m (a + 1))) j := by
  rw [nthD_tblL hj, nthD_tblL hj, mixA, mixB]
  have hn : 0 < n := by rcases Nat.eq_zero_or_pos n with e | e; subst e; omega; exact e
  have hm : j % n < n := Nat.mod_lt _ hn
  by_cases h1 : ((j / n : Nat) : Int) < (a : Int)
  · rw [decide_eq_true h1, decide_eq_true (p := ((j / n : Nat) : Int) < ((a + 1 : Nat) : Int)) (by omega)]; rfl
  · rw [decide_eq_false h1, Bool.false_or]
    by_cases h2 : ((j / n : Nat) : Int) = (a : Int)
    · rw [decide_eq_true h2, Bool.true_and, decide_eq_true (p := ((j / n : Nat) : Int) < ((a + 1 : Nat) : Int)) (by omega)]
      rcases h with rfl | h
      · rw [decide_eq_true (by omega)]
      · cases decide (((j % n : Nat) : Int) < (b : Int))
        · rw [h2]; simp only [cond_false, cond_true, wF, h, Bool.false_and, Bool.or_false]
        · rfl
    · rw [decide_eq_false h2, Bool.false_and, decide_eq_false (p := ((j / n : Nat) : Int) < ((a + 1 : Nat) : Int)) (by omega)]
theorem mixB_step {f : Pf} {m n a b : Nat} (hm : m < n) (ha : a < n) (hb : b < n) (h : wF f m a m = true) {j : Nat} (hj : j < n * n) :
    (bif Nat.beq j (a * n + b) then nthD false (tblL n (mixB f m a b)) (a * n + b) || nthD false (tblL n (mixB f m a b)) (m * n + b) else nthD false (tblL n (mixB f m a b)) j) = nthD false (tblL n (mixB f m a (b + 1))) j := by
  by_cases e : j = a * n + b
  · subst e
    rw [beq_t, cond_true, tbl_at ha hb, tbl_at hm hb, tbl_at ha hb]
    have e1 : mixB f m a b a b = wF f m a b := by
      rw [mixB, decide_eq_false (p := (a : Int) < (a : Int)) (by omega), decide_eq_false (p := (b : Int) < (b : Int)) (by omega), Bool.and_false]; rfl
    have e2 : mixB f m a b m b = wF f m m b := by
      rw [mixB, decide_eq_false (p := (b : Int) < (b : Int)) (by omega), Bool.and_false, Bool.or_false]
      cases decide ((m : Int) < (a : Int))
      · rfl
      · simp only [cond_true, wF]
        cases wF f m m b <;> simp
    have e3 : mixB f m a (b + 1) a b = wF f (m + 1) a b := by
      rw [mixB, decide_eq_false (p := (a : Int) < (a : Int)) (by omega), decide_eq_true (p := (a : Int) = (a : Int)) rfl, decide_eq_true (by omega)]; rfl
    rw [e1, e2, e3]
    simp only [wF, h, Bool.true_and]
  · rw [beq_f e, cond_false, nthD_tblL hj, nthD_tblL hj, mixB, mixB]
    by_cases h2 : ((j / n : Nat) : Int) = (a : Int)
    · have : ¬ (j % n = b) := fun e3 => e (by
        have := Nat.div_add_mod j n
        have e4 : j / n = a := by omega
        rw [e4, e3, Nat.mul_comm] at this
        exact this.symm)
      have e5 : decide (((j % n : Nat) : Int) < (b : Int)) = decide (((j % n : Nat) : Int) < ((b + 1 : Nat) : Int)) := by
        rw [decide_eq_decide]; omega
      rw [e5]
    · rw [decide_eq_false h2, Bool.false_and, Bool.false_and]
theorem v45_eq (N : Int) (l : List Pq) : (fnVc (tab [kTbl [none, none, none, some (.bs (tblL N.toNat (setF l)))]] [(0, .of (lWm N.toNat (setF l) 5 3)), (2, lWa N.toNat (setF l) 6 3), (4, lWb N.toNat (setF l) 7 3)]) Try.f45 [rlV N 0 l] [arP l] (resIs (.sl 0 (tblL N.toNat (wF (setF l) N.toNat)).length) 4 (tblL N.toNat (wF (setF l) N.toNat)).length (bsCols (tblL N.toNat (wF (setF l) N.toNat))))) = (l.length = l.length ∧
 validF N
 (mkN (fun (j : Nat) => ((nthD ((0 : Int), (0 : Int)) l j).fst, (nthD ((0 : Int), (0 : Int)) l j).snd))
 l.length) =
 true ∧
 (mkN (fun (j : Nat) => ((nthD ((0 : Int), (0 : Int)) l j).fst, (nthD ((0 : Int), (0 : Int)) l j).snd))
 l.length).length ≤
 (1099511627776 : Nat) ∧
 tblL N.toNat
 (setF
 (mkN (fun (j : Nat) => ((nthD ((0 : Int), (0 : Int)) l j).fst, (nthD ((0 : Int), (0 : Int)) l j).snd))
 l.length)) =
 tblL N.toNat (setF l) ∧
 ∃ (x : PUnit),
 (∃ (x : Nat),
 (x ≤ N.toNat ∧ True) ∧
 ((0 : Int) = (↑x : Int) ∧ True) ∧
 ((AV.bs (tblL N.toNat (setF l))).len = N.toNat * N.toNat ∧
 (∀ (j : Nat),
 j < N.toNat * N.toNat →
 nthD false (tblL N.toNat (setF l)) j = nthD false (tblL N.toNat (wF (setF l) x)) j) ∧
 True) ∧
 True) ∧
 ∀ (x_1 : Nat),
 x_1 ≤ N.toNat ∧ True →
 (decide ((↑x_1 : Int) < N) = true →
 ∃ (x_2 : Nat),
 (∃ (x : Nat),
 (x ≤ N.toNat ∧ x_2 < N.toNat) ∧
 ((0 : Int) = (↑x : Int) ∧ True) ∧
 (N.toNat * N.toNat = N.toNat * N.toNat ∧
 (∀ (j : Nat),
 j < N.toNat * N.toNat →
 nthD false (tblL N.toNat (wF (setF l) x_1)) j =
 nthD false (tblL N.toNat (mixA (setF l) x_2 x)) j) ∧
 True) ∧
 True) ∧
 ∀ (x_3 : Nat),
 x_3 ≤ N.toNat ∧ x_2 < N.toNat →
 (decide ((↑x_3 : Int) < N) = true →
 ∃ (x : Nat × Nat),
 (∃ (x_4 : Nat),
 (x_4 ≤ N.toNat ∧ x.fst < N.toNat ∧ x.snd < N.toNat) ∧
 ((0 : Int) = (↑x_4 : Int) ∧ True) ∧
 (N.toNat * N.toNat = N.toNat * N.toNat ∧
 (∀ (j : Nat),
 j < N.toNat * N.toNat →
 nthD false (tblL N.toNat (mixA (setF l) x_2 x_3)) j =
 nthD false (tblL N.toNat (mixB (setF l) x.fst x.snd x_4)) j) ∧
 True) ∧
 True) ∧
 ∀ (x_4 : Nat),
 x_4 ≤ N.toNat ∧ x.fst < N.toNat ∧ x.snd < N.toNat →
 (decide ((↑x_4 : Int) < N) = true →
 (0 : Int) ≤
 IntKind.i64.wrap (IntKind.i64.wrap ((↑x_3 : Int) * N) + (↑x_1 : Int)) ∧
 IntKind.i64.wrap (IntKind.i64.wrap ((↑x_3 : Int) * N) + (↑x_1 : Int)) <
 (↑(AV.bs (tblL N.toNat (setF l))).len : Int)) ∧
 (decide ((↑x_4 : Int) < N) = true →
 (IntKind.i64.wrap
 (IntKind.i64.wrap ((↑x_3 : Int) * N) + (↑x_1 : Int))).toNat <
 N.toNat * N.toNat) ∧
 ((decide ((↑x_4 : Int) < N) &&
 nthD false (tblL N.toNat (mixB (setF l) x.fst x.snd x_4))
 (IntKind.i64.wrap
 (IntKind.i64.wrap ((↑x_3 : Int) * N) + (↑x_1 : Int))).toNat) =
 true →
 ((0 : Int) ≤
 IntKind.i64.wrap
 (IntKind.i64.wrap ((↑x_3 : Int) * N) + (↑x_4 : Int)) ∧
 IntKind.i64.wrap
 (IntKind.i64.wrap ((↑x_3 : Int) * N) + (↑x_4 : Int)) <
 (↑(AV.bs (tblL N.toNat (setF l))).len : Int)) ∧
 (IntKind.i64.wrap
 (IntKind.i64.wrap ((↑x_3 : Int) * N) + (↑x_4 : Int))).toNat <
 N.toNat * N.toNat ∧
 (nthD false (tblL N.toNat (mixB (setF l) x.fst x.snd x_4))
 (IntKind.i64.wrap
 (IntKind.i64.wrap ((↑x_3 : Int) * N) +
 (↑x_4 : Int))).toNat =
 false →
 (0 : Int) ≤
 IntKind.i64.wrap
 (IntKind.i64.wrap ((↑x_1 : Int) * N) + (↑x_4 : Int)) ∧
 IntKind.i64.wrap
 (IntKind.i64.wrap ((↑x_1 : Int) * N) + (↑x_4 : Int)) <
 (↑(AV.bs (tblL N.toNat (setF l))).len : Int)) ∧
 (nthD false (tblL N.toNat (mixB (setF l) x.fst x.snd x_4))
 (IntKind.i64.wrap
 (IntKind.i64.wrap ((↑x_3 : Int) * N) +
 (↑x_4 : Int))).toNat =
 false →
 (IntKind.i64.wrap
 (IntKind.i64.wrap ((↑x_1 : Int) * N) +
 (↑x_4 : Int))).toNat <
 N.toNat * N.toNat) ∧
 ((0 : Int) ≤
 IntKind.i64.wrap
 (IntKind.i64.wrap ((↑x_3 : Int) * N) + (↑x_4 : Int)) ∧
 IntKind.i64.wrap
 (IntKind.i64.wrap ((↑x_3 : Int) * N) + (↑x_4 : Int)) <
 (↑(AV.bs (tblL N.toNat (setF l))).len : Int)) ∧
 (IntKind.i64.wrap
 (IntKind.i64.wrap ((↑x_3 : Int) * N) +
 (↑x_4 : Int))).toNat <
 N.toNat * N.toNat ∧
 ∃ (x_5 : Nat),
 (x_5 ≤ N.toNat ∧ x.fst < N.toNat ∧ x.snd < N.toNat) ∧
 ((lWb N.toNat (setF l) (7 : Nat) (3 : Nat)).ann x).mu
 x_5 <
 ((lWb N.toNat (setF l) (7 : Nat) (3 : Nat)).ann
 x).mu
 x_4 ∧
 ((N = N ∧ l.length = l.length) ∧
 True ∧
 (0 : Nat) = (0 : Nat) ∧
 (AV.bs (tblL N.toNat (setF l))).len =
 (AV.bs (tblL N.toNat (setF l))).len ∧
 N = N ∧
 (↑x_1 : Int) = (↑x_1 : Int) ∧
 (↑x_3 : Int) = (↑x_3 : Int) ∧
 IntKind.i64.wrap
 ((↑x_4 : Int) + (1 : Int)) =
 (↑x_5 : Int) ∧
 (N = N ∧ l.length = l.length) ∧
 (AV.bs
 (tblL N.toNat
 (setF l))).len =
 (AV.bs
 (tblL N.toNat
 (setF l))).len ∧
 True ∧
 N = N ∧
 (↑x_1 : Int) =
 (↑x_1 : Int) ∧
 N = N ∧
 true = true ∧
 (↑x_3 : Int) =
 (↑x_3 : Int) ∧
 N = N ∧
 true = true ∧
 True) ∧
 (l.length = l.length ∧
 (∀ (j : Nat),
 j < l.length →
 (nthD ((0 : Int), (0 : Int)) l j).fst =
 (nthD ((0 : Int), (0 : Int)) l j).fst) ∧
 (∀ (j : Nat),
 j < l.length →
 (nthD ((0 : Int), (0 : Int)) l j).snd =
 (nthD ((0 : Int), (0 : Int)) l
 j).snd) ∧
 True) ∧
 (N = N ∧ l.length = l.length) ∧
 ((0 : Nat) = (0 : Nat) ∧ True ∧ True) ∧
 (N.toNat * N.toNat = N.toNat * N.toNat ∧
 (∀ (j : Nat),
 j < N.toNat * N.toNat →
 (bif
 j.beq
 (IntKind.i64.wrap
 (IntKind.i64.wrap
 ((↑x_3 : Int) * N) +
 (↑x_4 :
 Int))).toNat then
 nthD false
 (tblL N.toNat
 (mixB (setF l) x.fst x.snd
 x_4))
 (IntKind.i64.wrap
 (IntKind.i64.wrap
 ((↑x_3 : Int) * N) +
 (↑x_4 :
 Int))).toNat ||
 nthD false
 (tblL N.toNat
 (mixB (setF l) x.fst x.snd
 x_4))
 (IntKind.i64.wrap
 (IntKind.i64.wrap
 ((↑x_1 : Int) * N) +
 (↑x_4 : Int))).toNat
 else
 nthD false
 (tblL N.toNat
 (mixB (setF l) x.fst x.snd
 x_4))
 j) =
 nthD false
 (tblL N.toNat
 (mixB (setF l) x.fst x.snd
 x_5))
 j) ∧
 True) ∧
 True) ∧
 ((decide ((↑x_4 : Int) < N) &&
 nthD false (tblL N.toNat (mixB (setF l) x.fst x.snd x_4))
 (IntKind.i64.wrap
 (IntKind.i64.wrap ((↑x_3 : Int) * N) + (↑x_1 : Int))).toNat) =
 false →
 ∃ (x_5 : Nat),
 (x_5 ≤ N.toNat ∧ x_2 < N.toNat) ∧
 ((lWa N.toNat (setF l) (6 : Nat) (3 : Nat)).ann x_2).mu x_5 <
 ((lWa N.toNat (setF l) (6 : Nat) (3 : Nat)).ann x_2).mu x_3 ∧
 ((N = N ∧ l.length = l.length) ∧
 True ∧
 (0 : Nat) = (0 : Nat) ∧
 (AV.bs (tblL N.toNat (setF l))).len =
 (AV.bs (tblL N.toNat (setF l))).len ∧
 N = N ∧
 (↑x_1 : Int) = (↑x_1 : Int) ∧
 IntKind.i64.wrap ((↑x_3 : Int) + (1 : Int)) =
 (↑x_5 : Int) ∧
 (N = N ∧ l.length = l.length) ∧
 (AV.bs (tblL N.toNat (setF l))).len =
 (AV.bs (tblL N.toNat (setF l))).len ∧
 True ∧
 N = N ∧
 (↑x_1 : Int) = (↑x_1 : Int) ∧
 N = N ∧ true = true ∧ True) ∧
 (l.length = l.length ∧
 (∀ (j : Nat),
 j < l.length →
 (nthD ((0 : Int), (0 : Int)) l j).fst =
 (nthD ((0 : Int), (0 : Int)) l j).fst) ∧
 (∀ (j : Nat),
 j < l.length →
 (nthD ((0 : Int), (0 : Int)) l j).snd =
 (nthD ((0 : Int), (0 : Int)) l j).snd) ∧
 True) ∧
 (N = N ∧ l.length = l.length) ∧
 ((0 : Nat) = (0 : Nat) ∧ True ∧ True) ∧
 (N.toNat * N.toNat = N.toNat * N.toNat ∧
 (∀ (j : Nat),
 j < N.toNat * N.toNat →
 nthD false
 (tblL N.toNat
 (mixB (setF l) x.fst x.snd x_4))
 j =
 nthD false
 (tblL N.toNat (mixA (setF l) x_2 x_5)) j) ∧
 True) ∧
 True)) ∧
 (decide ((↑x_3 : Int) < N) = false →
 ∃ (x_4 : Nat),
 (x_4 ≤ N.toNat ∧ True) ∧
 ((PLoop.of (lWm N.toNat (setF l) (5 : Nat) (3 : Nat))).ann x).mu x_4 <
 ((PLoop.of (lWm N.toNat (setF l) (5 : Nat) (3 : Nat))).ann x).mu x_1 ∧
 ((N = N ∧ l.length = l.length) ∧
 True ∧
 (0 : Nat) = (0 : Nat) ∧
 (AV.bs (tblL N.toNat (setF l))).len =
 (AV.bs (tblL N.toNat (setF l))).len ∧
 N = N ∧
 IntKind.i64.wrap ((↑x_1 : Int) + (1 : Int)) = (↑x_4 : Int) ∧
 (N = N ∧ l.length = l.length) ∧
 (AV.bs (tblL N.toNat (setF l))).len =
 (AV.bs (tblL N.toNat (setF l))).len ∧
 True ∧ N = N ∧ True) ∧
 (l.length = l.length ∧
 (∀ (j : Nat),
 j < l.length →
 (nthD ((0 : Int), (0 : Int)) l j).fst =
 (nthD ((0 : Int), (0 : Int)) l j).fst) ∧
 (∀ (j : Nat),
 j < l.length →
 (nthD ((0 : Int), (0 : Int)) l j).snd =
 (nthD ((0 : Int), (0 : Int)) l j).snd) ∧
 True) ∧
 (N = N ∧ l.length = l.length) ∧
 ((0 : Nat) = (0 : Nat) ∧ True ∧ True) ∧
 (N.toNat * N.toNat = N.toNat * N.toNat ∧
 (∀ (j : Nat),
 j < N.toNat * N.toNat →
 nthD false (tblL N.toNat (mixA (setF l) x_2 x_3)) j =
 nthD false (tblL N.toNat (wF (setF l) x_4)) j) ∧
 True) ∧
 True)) ∧
 (decide ((↑x_1 : Int) < N) = false →
 N.toNat * N.toNat = (tblL N.toNat (wF (setF l) N.toNat)).length ∧
 ((∀ (j : Nat),
 j < (tblL N.toNat (wF (setF l) N.toNat)).length →
 nthD false (tblL N.toNat (wF (setF l) x_1)) j =
 nthD false (tblL N.toNat (wF (setF l) N.toNat)) j) ∧
 True) ∧
 (AV.bs (tblL N.toNat (setF l))).len = (tblL N.toNat (wF (setF l) N.toNat)).length)) := by kernel_rfl
theorem v45 (N : Int) (l : List Pq) (hv : validF N l = true) (hl : L9 l) : fnVc (tab [kTbl [none, none, none, some (.bs (tblL N.toNat (setF l)))]] [(0, .of (lWm N.toNat (setF l) 5 3)), (2, lWa N.toNat (setF l) 6 3), (4, lWb N.toNat (setF l) 7 3)]) Try.f45 [rlV N 0 l] [arP l] (resIs (.sl 0 (tblL N.toNat (wF (setF l) N.toNat)).length) 4 (tblL N.toNat (wF (setF l) N.toNat)).length (bsCols (tblL N.toNat (wF (setF l) N.toNat)))) := by
  rw [v45_eq]
  obtain ⟨h1, h2, h3⟩ := validF_iff.1 hv
  have hb : N.toNat * N.toNat ≤ 4096 := sq_le (by omega)
  simp only [eq_self, true_and, and_true, implies_true, imp_self, mkN_ps, mkN_rs, mkN_self, mkN_len, PLoop.of, lCnt, AV.len, tblL_len, lWm, lWa, lWb, lAcy, lIsm]
  refine ⟨hv, hl, (), ⟨0, by simp, rfl, fun j hj => rfl⟩, fun m hm => ⟨fun hlm => ⟨m, ⟨0, ?_, rfl, fun j hj => mixA_zero hj⟩, fun a ha => ⟨fun hla => ⟨(m, a), ⟨0, ?_, rfl, fun j hj => mixB_zero hj⟩, fun b hb => ?_⟩, fun hla => ?_⟩⟩, fun hlm => ?_⟩⟩
  · have := of_decide_eq_true hlm; omega
  · have := of_decide_eq_true hlm; have := of_decide_eq_true hla; simp only; omega
  · have hm2 := of_decide_eq_true hlm
    have ha2 := of_decide_eq_true hla
    have i1 := ixw (a := a) (b := m) (N := N) (by omega) (by omega) (by omega)
    have i1' := ix_lt (n := N.toNat) (a := a) (b := m) (by omega) (by omega)
    rw [i1]
    simp only [Int.toNat_natCast]
    rw [tbl_at (by omega) (by omega), mixB_am]
    refine ⟨fun hlb => by omega, fun hlb => by omega, fun hc => ?_, fun hc => ?_⟩
    · simp only [Bool.and_eq_true] at hc
      have hb2 := of_decide_eq_true hc.1
      have i2 := ixw (a := a) (b := b) (N := N) (by omega) (by omega) (by omega)
      have i2' := ix_lt (n := N.toNat) (a := a) (b := b) (by omega) (by omega)
      have i3 := ixw (a := m) (b := b) (N := N) (by omega) (by omega) (by omega)
      have i3' := ix_lt (n := N.toNat) (a := m) (b := b) (by omega) (by omega)
      rw [i2, i3]
      simp only [Int.toNat_natCast]
      exact ⟨by omega, i2', fun _ => by omega, fun _ => i3', by omega, i2', b + 1, ⟨by omega, by omega, by omega⟩, by omega, wrS (n := 64) (by omega) (by omega), fun j hj => mixB_step (by omega) (by omega) (by omega) hc.2 hj⟩
    · refine ⟨a + 1, ⟨by omega, by omega⟩, by omega, wrS (n := 64) (by omega) (by omega), fun j hj => mixB_done hj ?_⟩
      cases e : wF (setF l) m a m
      · exact .inr rfl
      · rw [e, Bool.and_true] at hc
        have := of_decide_eq_false hc
        exact .inl (by omega)
  · have := of_decide_eq_false hla
    have e : a = N.toNat := by omega
    subst e
    exact ⟨m + 1, by omega, by omega, wrS (n := 64) (by omega) (by omega), fun j hj => mixA_full hj⟩
  · have := of_decide_eq_false hlm
    have e : m = N.toNat := by omega
    subst e
    exact fun j hj => rfl
theorem v47_eq (N : Int) (l : List Pq) : (fnVc (tab [kVal [], kCls []] [(0, .of (lAcy N.toNat (wF (setF l) N.toNat) 12))]) Try.f47 [rlV N 0 l] [arP l] (plainIs (.b (validF N l && acyF N.toNat (wF (setF l) N.toNat))))) = (l.length = l.length ∧
 (mkN (fun (j : Nat) => ((nthD ((0 : Int), (0 : Int)) l j).fst, (nthD ((0 : Int), (0 : Int)) l j).snd))
 l.length).length ≤
 (1099511627776 : Nat) ∧
 ((!validF N
 (mkN (fun (j : Nat) => ((nthD ((0 : Int), (0 : Int)) l j).fst, (nthD ((0 : Int), (0 : Int)) l j).snd))
 l.length)) =
 true →
 false = (validF N l && acyF N.toNat (wF (setF l) N.toNat))) ∧
 ((!validF N
 (mkN (fun (j : Nat) => ((nthD ((0 : Int), (0 : Int)) l j).fst, (nthD ((0 : Int), (0 : Int)) l j).snd))
 l.length)) =
 false →
 l.length = l.length ∧
 validF N
 (mkN (fun (j : Nat) => ((nthD ((0 : Int), (0 : Int)) l j).fst, (nthD ((0 : Int), (0 : Int)) l j).snd))
 l.length) =
 true ∧
 (mkN (fun (j : Nat) => ((nthD ((0 : Int), (0 : Int)) l j).fst, (nthD ((0 : Int), (0 : Int)) l j).snd))
 l.length).length ≤
 (1099511627776 : Nat) ∧
 ∃ (x : PUnit),
 (∃ (x : Nat),
 (x ≤ N.toNat ∧ acyF x (wF (setF l) N.toNat) = true) ∧ ((0 : Int) = (↑x : Int) ∧ True) ∧ True) ∧
 ∀ (x_1 : Nat),
 x_1 ≤ N.toNat ∧ acyF x_1 (wF (setF l) N.toNat) = true →
 (decide ((↑x_1 : Int) < N) = true →
 (wF
 (setF
 (mkN
 (fun (j : Nat) =>
 ((nthD ((0 : Int), (0 : Int)) l j).fst, (nthD ((0 : Int), (0 : Int)) l j).snd))
 l.length))
 N.toNat (↑x_1 : Int) (↑x_1 : Int) =
 true →
 false = (validF N l && acyF N.toNat (wF (setF l) N.toNat))) ∧
 (wF
 (setF
 (mkN
 (fun (j : Nat) =>
 ((nthD ((0 : Int), (0 : Int)) l j).fst, (nthD ((0 : Int), (0 : Int)) l j).snd))
 l.length))
 N.toNat (↑x_1 : Int) (↑x_1 : Int) =
 false →
 ∃ (x_2 : Nat),
 (x_2 ≤ N.toNat ∧ acyF x_2 (wF (setF l) N.toNat) = true) ∧
 ((PLoop.of (lAcy N.toNat (wF (setF l) N.toNat) (12 : Nat))).ann x).mu x_2 <
 ((PLoop.of (lAcy N.toNat (wF (setF l) N.toNat) (12 : Nat))).ann x).mu x_1 ∧
 ((N = N ∧ l.length = l.length) ∧
 True ∧
 True ∧
 (N = N ∧ l.length = l.length) ∧
 validF N
 (mkN
 (fun (j : Nat) =>
 ((nthD ((0 : Int), (0 : Int)) l j).fst,
 (nthD ((0 : Int), (0 : Int)) l j).snd))
 l.length) =
 validF N
 (mkN
 (fun (j : Nat) =>
 ((nthD ((0 : Int), (0 : Int)) l j).fst,
 (nthD ((0 : Int), (0 : Int)) l j).snd))
 l.length) ∧
 false = false ∧
 (N = N ∧ l.length = l.length) ∧
 True ∧
 True ∧
 N = N ∧
 IntKind.i64.wrap ((↑x_1 : Int) + (1 : Int)) = (↑x_2 : Int) ∧
 True) ∧
 (l.length = l.length ∧
 (∀ (j : Nat),
 j < l.length →
 (nthD ((0 : Int), (0 : Int)) l j).fst =
 (nthD ((0 : Int), (0 : Int)) l j).fst) ∧
 (∀ (j : Nat),
 j < l.length →
 (nthD ((0 : Int), (0 : Int)) l j).snd =
 (nthD ((0 : Int), (0 : Int)) l j).snd) ∧
 True) ∧
 (N = N ∧ l.length = l.length) ∧
 (∀ (x y : Int),
 wF
 (setF
 (mkN
 (fun (j : Nat) =>
 ((nthD ((0 : Int), (0 : Int)) l j).fst,
 (nthD ((0 : Int), (0 : Int)) l j).snd))
 l.length))
 N.toNat x y =
 wF
 (setF
 (mkN
 (fun (j : Nat) =>
 ((nthD ((0 : Int), (0 : Int)) l j).fst,
 (nthD ((0 : Int), (0 : Int)) l j).snd))
 l.length))
 N.toNat x y) ∧
 True)) ∧
 (decide ((↑x_1 : Int) < N) = false → true = (validF N l && acyF N.toNat (wF (setF l) N.toNat))))) := by kernel_rfl
theorem v47 (N : Int) (l : List Pq) (hl : L9 l) : fnVc (tab [kVal [], kCls []] [(0, .of (lAcy N.toNat (wF (setF l) N.toNat) 12))]) Try.f47 [rlV N 0 l] [arP l] (plainIs (.b (validF N l && acyF N.toNat (wF (setF l) N.toNat)))) := by
  rw [v47_eq]
  simp only [eq_self, true_and, and_true, implies_true, imp_self, mkN_ps, mkN_rs, mkN_self, mkN_len, PLoop.of, lCnt, AV.len, tblL_len, lWm, lWa, lWb, lAcy, lIsm]
  refine ⟨hl, fun h => ?_, fun h => ?_⟩
  · have hv : validF N l = false := by simpa using h
    rw [hv]; rfl
  · have hv : validF N l = true := by simpa using h
    obtain ⟨h1, h2, h3⟩ := validF_iff.1 hv
    rw [hv]
    refine ⟨rfl, hl, (), ⟨0, by simp [acyF], rfl⟩, fun i hi => ⟨fun hlt => ?_, fun hlt => ?_⟩⟩
    · have hlt2 := of_decide_eq_true hlt
      refine ⟨fun hc => ?_, fun hc => ?_⟩
      · have e : acyF N.toNat (wF (setF l) N.toNat) = false := by
          rw [acyF, List.all_eq_false]
          exact ⟨i, List.mem_range.2 (by omega), by rw [hc]; simp⟩
        rw [e]; rfl
      · exact ⟨i + 1, ⟨by omega, by rw [acyF, List.range_succ, List.all_append]; rw [acyF] at hi; rw [hi.2]; simp [hc]⟩, by omega, wrS (n := 64) (by omega) (by omega)⟩
    · have hlt2 := of_decide_eq_false hlt
      have e : i = N.toNat := by omega
      have hi3 := hi.2
      rw [e] at hi3
      rw [hi3]; rfl
theorem v28_eq (N : Int) (l : List Pq) : (fnVc (tab [kVal' [], kCld []] [(0, .of (lAcy N.toNat (wF (setF l) N.toNat) 4))]) Try.f28 [rlV N 0 l] [arP l] (plainIs (.b (validF N l && acyF N.toNat (wF (setF l) N.toNat))))) = (l.length = l.length ∧
 (mkN (fun (j : Nat) => ((nthD ((0 : Int), (0 : Int)) l j).fst, (nthD ((0 : Int), (0 : Int)) l j).snd))
 l.length).length ≤
 (1099511627776 : Nat) ∧
 ((!validF N
 (mkN (fun (j : Nat) => ((nthD ((0 : Int), (0 : Int)) l j).fst, (nthD ((0 : Int), (0 : Int)) l j).snd))
 l.length)) =
 true →
 false = (validF N l && acyF N.toNat (wF (setF l) N.toNat))) ∧
 ((!validF N
 (mkN (fun (j : Nat) => ((nthD ((0 : Int), (0 : Int)) l j).fst, (nthD ((0 : Int), (0 : Int)) l j).snd))
 l.length)) =
 false →
 l.length = l.length ∧
 validF N
 (mkN (fun (j : Nat) => ((nthD ((0 : Int), (0 : Int)) l j).fst, (nthD ((0 : Int), (0 : Int)) l j).snd))
 l.length) =
 true ∧
 (mkN (fun (j : Nat) => ((nthD ((0 : Int), (0 : Int)) l j).fst, (nthD ((0 : Int), (0 : Int)) l j).snd))
 l.length).length ≤
 (1099511627776 : Nat) ∧
 ∃ (x : PUnit),
 (∃ (x : Nat),
 (x ≤ N.toNat ∧ acyF x (wF (setF l) N.toNat) = true) ∧ ((0 : Int) = (↑x : Int) ∧ True) ∧ True) ∧
 ∀ (x_1 : Nat),
 x_1 ≤ N.toNat ∧ acyF x_1 (wF (setF l) N.toNat) = true →
 (decide ((↑x_1 : Int) < N) = true →
 ((0 : Int) ≤ IntKind.i64.wrap (IntKind.i64.wrap ((↑x_1 : Int) * N) + (↑x_1 : Int)) ∧
 IntKind.i64.wrap (IntKind.i64.wrap ((↑x_1 : Int) * N) + (↑x_1 : Int)) <
 (↑(AV.bs
 (tblL N.toNat
 (wF
 (setF
 (mkN
 (fun (j : Nat) =>
 ((nthD ((0 : Int), (0 : Int)) l j).fst,
 (nthD ((0 : Int), (0 : Int)) l j).snd))
 l.length))
 N.toNat))).len :
 Int)) ∧
 (IntKind.i64.wrap (IntKind.i64.wrap ((↑x_1 : Int) * N) + (↑x_1 : Int))).toNat <
 (AV.bs
 (tblL N.toNat
 (wF
 (setF
 (mkN
 (fun (j : Nat) =>
 ((nthD ((0 : Int), (0 : Int)) l j).fst,
 (nthD ((0 : Int), (0 : Int)) l j).snd))
 l.length))
 N.toNat))).len ∧
 (nthD false
 (tblL N.toNat
 (wF
 (setF
 (mkN
 (fun (j : Nat) =>
 ((nthD ((0 : Int), (0 : Int)) l j).fst,
 (nthD ((0 : Int), (0 : Int)) l j).snd))
 l.length))
 N.toNat))
 (IntKind.i64.wrap (IntKind.i64.wrap ((↑x_1 : Int) * N) + (↑x_1 : Int))).toNat =
 true →
 false = (validF N l && acyF N.toNat (wF (setF l) N.toNat))) ∧
 (nthD false
 (tblL N.toNat
 (wF
 (setF
 (mkN
 (fun (j : Nat) =>
 ((nthD ((0 : Int), (0 : Int)) l j).fst,
 (nthD ((0 : Int), (0 : Int)) l j).snd))
 l.length))
 N.toNat))
 (IntKind.i64.wrap (IntKind.i64.wrap ((↑x_1 : Int) * N) + (↑x_1 : Int))).toNat =
 false →
 ∃ (x_2 : Nat),
 (x_2 ≤ N.toNat ∧ acyF x_2 (wF (setF l) N.toNat) = true) ∧
 ((PLoop.of (lAcy N.toNat (wF (setF l) N.toNat) (4 : Nat))).ann x).mu x_2 <
 ((PLoop.of (lAcy N.toNat (wF (setF l) N.toNat) (4 : Nat))).ann x).mu x_1 ∧
 ((N = N ∧ l.length = l.length) ∧
 True ∧
 (AV.bs
 (tblL N.toNat
 (wF
 (setF
 (mkN
 (fun (j : Nat) =>
 ((nthD ((0 : Int), (0 : Int)) l j).fst,
 (nthD ((0 : Int), (0 : Int)) l j).snd))
 l.length))
 N.toNat))).len =
 (AV.bs
 (tblL N.toNat
 (wF
 (setF
 (mkN
 (fun (j : Nat) =>
 ((nthD ((0 : Int), (0 : Int)) l j).fst,
 (nthD ((0 : Int), (0 : Int)) l j).snd))
 l.length))
 N.toNat))).len ∧
 IntKind.i64.wrap ((↑x_1 : Int) + (1 : Int)) = (↑x_2 : Int) ∧
 (N = N ∧ l.length = l.length) ∧
 validF N
 (mkN
 (fun (j : Nat) =>
 ((nthD ((0 : Int), (0 : Int)) l j).fst,
 (nthD ((0 : Int), (0 : Int)) l j).snd))
 l.length) =
 validF N
 (mkN
 (fun (j : Nat) =>
 ((nthD ((0 : Int), (0 : Int)) l j).fst,
 (nthD ((0 : Int), (0 : Int)) l j).snd))
 l.length) ∧
 false = false ∧
 (N = N ∧ l.length = l.length) ∧
 (AV.bs
 (tblL N.toNat
 (wF
 (setF
 (mkN
 (fun (j : Nat) =>
 ((nthD ((0 : Int), (0 : Int)) l j).fst,
 (nthD ((0 : Int), (0 : Int)) l j).snd))
 l.length))
 N.toNat))).len =
 (AV.bs
 (tblL N.toNat
 (wF
 (setF
 (mkN
 (fun (j : Nat) =>
 ((nthD ((0 : Int), (0 : Int)) l j).fst,
 (nthD ((0 : Int), (0 : Int)) l j).snd))
 l.length))
 N.toNat))).len ∧
 True) ∧
 (l.length = l.length ∧
 (∀ (j : Nat),
 j < l.length →
 (nthD ((0 : Int), (0 : Int)) l j).fst =
 (nthD ((0 : Int), (0 : Int)) l j).fst) ∧
 (∀ (j : Nat),
 j < l.length →
 (nthD ((0 : Int), (0 : Int)) l j).snd =
 (nthD ((0 : Int), (0 : Int)) l j).snd) ∧
 True) ∧
 (N = N ∧ l.length = l.length) ∧
 ((AV.bs
 (tblL N.toNat
 (wF
 (setF
 (mkN
 (fun (j : Nat) =>
 ((nthD ((0 : Int), (0 : Int)) l j).fst,
 (nthD ((0 : Int), (0 : Int)) l j).snd))
 l.length))
 N.toNat))).len =
 (AV.bs
 (tblL N.toNat
 (wF
 (setF
 (mkN
 (fun (j : Nat) =>
 ((nthD ((0 : Int), (0 : Int)) l j).fst,
 (nthD ((0 : Int), (0 : Int)) l j).snd))
 l.length))
 N.toNat))).len ∧
 (∀ (j : Nat),
 j <
 (AV.bs
 (tblL N.toNat
 (wF
 (setF
 (mkN
 (fun (j : Nat) =>
 ((nthD ((0 : Int), (0 : Int)) l j).fst,
 (nthD ((0 : Int), (0 : Int)) l j).snd))
 l.length))
 N.toNat))).len →
 nthD false
 (tblL N.toNat
 (wF
 (setF
 (mkN
 (fun (j : Nat) =>
 ((nthD ((0 : Int), (0 : Int)) l j).fst,
 (nthD ((0 : Int), (0 : Int)) l j).snd))
 l.length))
 N.toNat))
 j =
 nthD false
 (tblL N.toNat
 (wF
 (setF
 (mkN
 (fun (j : Nat) =>
 ((nthD ((0 : Int), (0 : Int)) l j).fst,
 (nthD ((0 : Int), (0 : Int)) l j).snd))
 l.length))
 N.toNat))
 j) ∧
 True) ∧
 True)) ∧
 (decide ((↑x_1 : Int) < N) = false → true = (validF N l && acyF N.toNat (wF (setF l) N.toNat))))) := by kernel_rfl
theorem v28 (N : Int) (l : List Pq) (hl : L9 l) : fnVc (tab [kVal' [], kCld []] [(0, .of (lAcy N.toNat (wF (setF l) N.toNat) 4))]) Try.f28 [rlV N 0 l] [arP l] (plainIs (.b (validF N l && acyF N.toNat (wF (setF l) N.toNat)))) := by
  rw [v28_eq]
  simp only [eq_self, true_and, and_true, implies_true, imp_self, mkN_ps, mkN_rs, mkN_self, mkN_len, PLoop.of, lCnt, AV.len, tblL_len, lWm, lWa, lWb, lAcy, lIsm]
  refine ⟨hl, fun h => ?_, fun h => ?_⟩
  · have hv : validF N l = false := by simpa using h
    rw [hv]; rfl
  · have hv : validF N l = true := by simpa using h
    obtain ⟨h1, h2, h3⟩ := validF_iff.1 hv
    rw [hv]
    refine ⟨rfl, hl, (), ⟨0, by simp [acyF], rfl⟩, fun i hi => ⟨fun hlt => ?_, fun hlt => ?_⟩⟩
    · have hlt2 := of_decide_eq_true hlt
      have i1 := ixw (a := i) (b := i) (N := N) (by omega) (by omega) (by omega)
      have i1' := ix_lt (n := N.toNat) (a := i) (b := i) (by omega) (by omega)
      rw [i1]
      simp only [Int.toNat_natCast]
      rw [tbl_at (by omega) (by omega)]
      refine ⟨by omega, i1', fun hc => ?_, fun hc => ?_⟩
      · have e : acyF N.toNat (wF (setF l) N.toNat) = false := by
          rw [acyF, List.all_eq_false]
          exact ⟨i, List.mem_range.2 (by omega), by rw [hc]; simp⟩
        rw [e]; rfl
      · exact ⟨i + 1, ⟨by omega, by rw [acyF, List.range_succ, List.all_append]; rw [acyF] at hi; rw [hi.2]; simp [hc]⟩, by omega, wrS (n := 64) (by omega) (by omega)⟩
    · have hlt2 := of_decide_eq_false hlt
      have e : i = N.toNat := by omega
      have hi3 := hi.2
      rw [e] at hi3
      rw [hi3]; rfl
theorem eq_takes {α : Type} {a b : List α} (h : a.length = b.length) (h2 : a.take a.length = b.take a.length) : a = b := by
  rw [List.take_length, h, List.take_length] at h2; exact h2
theorem v18_eq (a b : List Int) : (fnVc (tab [] [(0, .of (lIsm a b 5))]) Try.f18 [.sl 0 a.length, .sl 1 b.length] [arI a, arI b] (plainIs (.b (decide (a = b))))) = ((((↑a.length : Int) != (↑b.length : Int)) = true → false = decide (a = b)) ∧
 (((↑a.length : Int) != (↑b.length : Int)) = false →
 ∃ (x : PUnit),
 (∃ (x : Nat), (x ≤ a.length ∧ List.take x a = List.take x b) ∧ ((0 : Int) = (↑x : Int) ∧ True) ∧ True) ∧
 ∀ (x_1 : Nat),
 x_1 ≤ a.length ∧ List.take x_1 a = List.take x_1 b →
 (decide ((↑x_1 : Int) < (↑a.length : Int)) = true →
 ((0 : Int) ≤ (↑x_1 : Int) ∧ (↑x_1 : Int) < (↑a.length : Int)) ∧
 x_1 < a.length ∧
 ((0 : Int) ≤ (↑x_1 : Int) ∧ (↑x_1 : Int) < (↑b.length : Int)) ∧
 x_1 < b.length ∧
 ((nthD (0 : Int) a x_1 != nthD (0 : Int) b x_1) = true → false = decide (a = b)) ∧
 ((nthD (0 : Int) a x_1 != nthD (0 : Int) b x_1) = false →
 ∃ (x_2 : Nat),
 (x_2 ≤ a.length ∧ List.take x_2 a = List.take x_2 b) ∧
 ((PLoop.of (lIsm a b (5 : Nat))).ann x).mu x_2 <
 ((PLoop.of (lIsm a b (5 : Nat))).ann x).mu x_1 ∧
 (a.length = a.length ∧
 b.length = b.length ∧
 IntKind.i64.wrap ((↑x_1 : Int) + (1 : Int)) = (↑x_2 : Int) ∧
 a.length = a.length ∧
 (↑a.length : Int) = (↑a.length : Int) ∧
 b.length = b.length ∧
 (↑b.length : Int) = (↑b.length : Int) ∧ false = false ∧ True) ∧
 (a.length = a.length ∧
 (∀ (j : Nat), j < a.length → nthD (0 : Int) a j = nthD (0 : Int) a j) ∧ True) ∧
 (b.length = b.length ∧
 (∀ (j : Nat), j < b.length → nthD (0 : Int) b j = nthD (0 : Int) b j) ∧
 True) ∧
 True)) ∧
 (decide ((↑x_1 : Int) < (↑a.length : Int)) = false → true = decide (a = b)))) := by kernel_rfl
theorem v18 (a b : List Int) (ha : L9 a) : fnVc (tab [] [(0, .of (lIsm a b 5))]) Try.f18 [.sl 0 a.length, .sl 1 b.length] [arI a, arI b] (plainIs (.b (decide (a = b)))) := by
  rw [v18_eq]
  simp only [eq_self, true_and, and_true, implies_true, imp_self, mkN_ps, mkN_rs, mkN_self, mkN_len, PLoop.of, lCnt, AV.len, tblL_len, lWm, lWa, lWb, lAcy, lIsm]
  refine ⟨fun h => ?_, fun h => ⟨(), ⟨0, by simp, rfl⟩, fun i hi => ⟨fun hlt => ?_, fun hlt => ?_⟩⟩⟩
  · rw [eq_comm, decide_eq_false_iff_not]
    skip
    rintro rfl
    simp at h
  · have hi2 := lt_len hlt
    have hlen : a.length = b.length := by simp at h; omega
    refine ⟨bd hi2, hi2, by omega, by omega, fun hc => ?_, fun hc => ?_⟩
    · rw [eq_comm, decide_eq_false_iff_not]
      skip
      rintro rfl
      simp at hc
    · refine ⟨i + 1, ⟨by omega, ?_⟩, by omega, w64_sub (by omega) ha⟩
      rw [take_succ' 0 hi2, take_succ' 0 (show i < b.length by omega), hi.2]
      congr 2
      simpa using hc
  · have hi2 := ge_len hlt hi.1
    have hlen : a.length = b.length := by simp at h; omega
    have h2 := hi.2
    rw [hi2] at h2
    have := eq_takes hlen h2
    rw [this]; simp
theorem fo45 : fnOk Try.prog 45 := ⟨Try.f45, Try.func45, by kernel_rfl, by kernel_rfl⟩
theorem fo47 : fnOk Try.prog 47 := ⟨Try.f47, Try.func47, by kernel_rfl, by kernel_rfl⟩
theorem fo28 : fnOk Try.prog 28 := ⟨Try.f28, Try.func28, by kernel_rfl, by kernel_rfl⟩
theorem fo18 : fnOk Try.prog 18 := ⟨Try.f18, Try.func18, by kernel_rfl, by kernel_rfl⟩
def t45 : List AV → Tab
  | [.r N l] => tab [kTbl [none, none, none, some (.bs (tblL N.toNat (setF l)))]] [(0, .of (lWm N.toNat (setF l) 5 3)), (2, lWa N.toNat (setF l) 6 3), (4, lWb N.toNat (setF l) 7 3)]
  | _ => tab [] []
theorem c45 : CallOk Try.prog [] 45 (genF EL [] [.r] sCld) := by
  refine okT (fn := Try.f45) Try.func45 fo45 t45 (fun av => ?_) (fun av => ?_) (fun av pre rv h => ?_) (fun av pre rv h hp => ?_)
  · unfold t45; split <;> first | exact tabOk (mOne (n51 _) mNil) | exact tabOk mNil
  · unfold t45; split <;> exact ⟨rfl, rfl⟩
  · unfold sCld at h; split at h <;> cases h
    exact ⟨rfl, fun t a e => by cases e <;> exact List.cons_ne_nil _ _⟩
  · unfold sCld at h; split at h <;> cases h
    exact v45 _ _ (hp _ (.head _)) (hp _ (.tail _ (.head _)))
theorem n45 (nm : List (Option AV)) : CallOk Try.prog [] 45 (genF EL nm [.r] sCld) := genNm c45
def t47 : List AV → Tab
  | [.r N l] => tab [kVal [], kCls []] [(0, .of (lAcy N.toNat (wF (setF l) N.toNat) 12))]
  | _ => tab [] []
theorem c47 : CallOk Try.prog [] 47 (genF EL [] [.r] sAcy) := by
  refine okT (fn := Try.f47) Try.func47 fo47 t47 (fun av => ?_) (fun av => ?_) (fun av pre rv h => ?_) (fun av pre rv h hp => ?_)
  · unfold t47; split <;> first | exact tabOk (mOne (n37 _) (mOne (n52 _) mNil)) | exact tabOk mNil
  · unfold t47; split <;> exact ⟨rfl, rfl⟩
  · unfold sAcy at h; split at h <;> cases h
    exact ⟨rfl, fun t a e => by cases e <;> exact List.cons_ne_nil _ _⟩
  · unfold sAcy at h; split at h <;> cases h
    exact v47 _ _ (hp _ (.head _))
theorem n47 (nm : List (Option AV)) : CallOk Try.prog [] 47 (genF EL nm [.r] sAcy) := genNm c47
def t28 : List AV → Tab
  | [.r N l] => tab [kVal' [], kCld []] [(0, .of (lAcy N.toNat (wF (setF l) N.toNat) 4))]
  | _ => tab [] []
theorem c28 : CallOk Try.prog [] 28 (genF EL [] [.r] sAcy) := by
  refine okT (fn := Try.f28) Try.func28 fo28 t28 (fun av => ?_) (fun av => ?_) (fun av pre rv h => ?_) (fun av pre rv h hp => ?_)
  · unfold t28; split <;> first | exact tabOk (mOne (n27 _) (mOne (n45 _) mNil)) | exact tabOk mNil
  · unfold t28; split <;> exact ⟨rfl, rfl⟩
  · unfold sAcy at h; split at h <;> cases h
    exact ⟨rfl, fun t a e => by cases e <;> exact List.cons_ne_nil _ _⟩
  · unfold sAcy at h; split at h <;> cases h
    exact v28 _ _ (hp _ (.head _))
theorem n28 (nm : List (Option AV)) : CallOk Try.prog [] 28 (genF EL nm [.r] sAcy) := genNm c28
def t18 : List AV → Tab
  | [.is a, .is b] => tab [] [(0, .of (lIsm a b 5))]
  | _ => tab [] []
theorem c18 : CallOk Try.prog [] 18 (genF EL [] [.is, .is] sInt) := by
  refine okT (fn := Try.f18) Try.func18 fo18 t18 (fun av => ?_) (fun av => ?_) (fun av pre rv h => ?_) (fun av pre rv h hp => ?_)
  · unfold t18; split <;> first | exact tabOk mNil | exact tabOk mNil
  · unfold t18; split <;> exact ⟨rfl, rfl⟩
  · unfold sInt at h; split at h <;> cases h
    exact ⟨rfl, fun t a e => by cases e <;> exact List.cons_ne_nil _ _⟩
  · unfold sInt at h; split at h <;> cases h
    exact v18 _ _ (hp _ (.head _))
theorem n18 (nm : List (Option AV)) : CallOk Try.prog [] 18 (genF EL nm [.is, .is] sInt) := genNm c18
end Go.Proofs.Ytiokmglajigngaa
