/-
  The linext layer: relations: acyclicity.
-/
import Derived.Test.YtiokmglajigngaaW4
namespace Go.Proofs.Ytiokmglajigngaa
open Go Go.Proofs.Ytiokmglajigngaa.Sx
set_option maxRecDepth 100000
set_option linter.unusedSimpArgs false
set_option linter.unusedVariables false
def mixA (f : Pf) (m a : Nat) : Pf := fun x y => bif decide (x < (a : Int)) then wF f (m + 1) x y else wF f m x y
def mixB (f : Pf) (m a b : Nat) : Pf := fun x y => bif decide (x < (a : Int)) || (decide (x = (a : Int)) && decide (y < (b : Int))) then wF f (m + 1) x y else wF f m x y
def tblK (e n : Nat) (f : Pf) : Nat × MBlk := (e, .oarr 4 (n * n) (bsCols (tblL n f)))
def lWm (n : Nat) (f : Pf) (t e : Nat) : LAnn := lCnt n t (fun _ => True) (fun m => [tblK e n (wF f m)]) []
def lWa (n : Nat) (f : Pf) (t e : Nat) : PLoop := ⟨Nat, fun m => lCnt n t (fun _ => m < n) (fun a => [tblK e n (mixA f m a)]) []⟩
def lWb (n : Nat) (f : Pf) (t e : Nat) : PLoop := ⟨Nat × Nat, fun p => lCnt n t (fun _ => p.1 < n ∧ p.2 < n) (fun b => [tblK e n (mixB f p.1 p.2 b)]) []⟩
def acyF (n : Nat) (f : Pf) : Bool := (List.range n).all (fun a => !f a a)
def lAcy (n : Nat) (f : Pf) (t : Nat) : LAnn := lCnt n t (fun i => acyF i f = true) (fun _ => []) []
def lIsm (a b : List Int) (t : Nat) : LAnn := lCnt a.length t (fun i => a.take i = b.take i) (fun _ => []) []
def arI (l : List Int) : MBlk := .arr l.length (isCols l)
def sCld : Sp := fun | [.r N l] => some ([validF N l = true, L9 l], .sl (fun k => .sl 0 k) (.bs (tblL N.toNat (wF (setF l) N.toNat)))) | _ => none
def sAcy : Sp := fun | [.r N l] => some ([L9 l], .pl (.b (validF N l && acyF N.toNat (wF (setF l) N.toNat)))) | _ => none
def sInt : Sp := fun | [.is a, .is b] => some ([L9 a, L9 b], .pl (.b (decide (a = b)))) | _ => none
def kCld (nm : List (Option AV)) : Nat × (List MBlk → List SV → Option AR) := (45, genF EL nm [.r] sCld)
def kAcy (nm : List (Option AV)) : Nat × (List MBlk → List SV → Option AR) := (47, genF EL nm [.r] sAcy)
def kAcy' (nm : List (Option AV)) : Nat × (List MBlk → List SV → Option AR) := (28, genF EL nm [.r] sAcy)
def kInt (nm : List (Option AV)) : Nat × (List MBlk → List SV → Option AR) := (18, genF EL nm [.is, .is] sInt)
theorem tbl_at {n a b : Nat} {g : Pf} (ha : a < n) (hb : b < n) : nthD false (tblL n g) (a * n + b) = g a b := by
  rw [nthD_tblL (ix_lt ha hb), ix_div hb, ix_mod hb]
theorem mixA_zero {f : Pf} {m n j : Nat} (hj : j < n * n) : nthD false (tblL n (wF f m)) j = nthD false (tblL n (mixA f m 0)) j := by
  rw [nthD_tblL hj, nthD_tblL hj, mixA]
  rw [decide_eq_false (p := ((j / n : Nat) : Int) < ((0 : Nat) : Int)) (by generalize j / n = q; omega)]; rfl
theorem mixA_full {f : Pf} {m n j : Nat} (hj : j < n * n) : nthD false (tblL n (mixA f m n)) j = nthD false (tblL n (wF f (m + 1))) j := by
  rw [nthD_tblL hj, nthD_tblL hj, mixA]
  have : j / n < n := Nat.div_lt_of_lt_mul hj
  rw [decide_eq_true (by omega)]; rfl
theorem mixB_zero {f : Pf} {m n a j : Nat} (hj : j < n * n) : nthD false (tblL n (mixA f m a)) j = nthD false (tblL n (mixB f m a 0)) j := by
  rw [nthD_tblL hj, nthD_tblL hj, mixA, mixB]
  rw [decide_eq_false (p := ((j % n : Nat) : Int) < ((0 : Nat) : Int)) (by omega), Bool.and_false, Bool.or_false]
theorem mixB_am {f : Pf} {m a b : Nat} : mixB f m a b a m = wF f m a m := by
  rw [mixB]
  rw [decide_eq_false (p := (a : Int) < (a : Int)) (by omega), decide_eq_true (p := (a : Int) = (a : Int)) rfl, Bool.false_or, Bool.true_and]
  cases decide ((m : Int) < (b : Int))
  · rfl
  · simp only [cond_true, wF]
    cases wF f m a m <;> simp
theorem mixB_done {f : Pf} {m n a b j : Nat} (hj : j < n * n) (h : b = n ∨ wF f m a m = false) : nthD false (tblL n (mixB f m a b)) j = nthD false (tblL n (mixA f m (a + 1))) j := by
  rw [nthD_tblL hj, nthD_tblL hj, mixA, mixB]
  have hn : 0 < n := by rcases Nat.eq_zero_or_pos n with e | e; subst e; omega; exact e
  have hm : j % n < n := Nat.mod_lt _ hn
  by_cases h1 : ((j / n : Nat) : Int) < (a : Int)
  · rw [decide_eq_true h1, decide_eq_true (p := ((j / n : Nat) : Int) < ((a + 1 : Nat) : Int)) (by omega)]; rfl
  · rw [decide_eq_false h1, Bool.false_or]
    by_cases h2 : ((j / n : Nat) : Int) = (a : Int)
    · rw [decide_eq_true h2, Bool.true_and, decide_eq_true (p := ((j / n : Nat) : Int) < ((a + 1 : Nat) : Int)) (by omega)]
      rcases h with rfl | h
      · rw [decide_eq_true (by omega)]
      · cases decide (((j % n : Nat) : Int) < (b : Int))
        · rw [h2]; simp only [cond_false, cond_true, wF, h, Bool.false_and, Bool.or_false]
        · rfl
    · rw [decide_eq_false h2, Bool.false_and, decide_eq_false (p := ((j / n : Nat) : Int) < ((a + 1 : Nat) : Int)) (by omega)]
theorem mixB_step {f : Pf} {m n a b : Nat} (hm : m < n) (ha : a < n) (hb : b < n) (h : wF f m a m = true) {j : Nat} (hj : j < n * n) :
    (bif Nat.beq j (a * n + b) then nthD false (tblL n (mixB f m a b)) (a * n + b) || nthD false (tblL n (mixB f m a b)) (m * n + b) else nthD false (tblL n (mixB f m a b)) j) = nthD false (tblL n (mixB f m a (b + 1))) j := by
  by_cases e : j = a * n + b
  · subst e
    rw [beq_t, cond_true, tbl_at ha hb, tbl_at hm hb, tbl_at ha hb]
    have e1 : mixB f m a b a b = wF f m a b := by
      rw [mixB, decide_eq_false (p := (a : Int) < (a : Int)) (by omega), decide_eq_false (p := (b : Int) < (b : Int)) (by omega), Bool.and_false]; rfl
    have e2 : mixB f m a b m b = wF f m m b := by
      rw [mixB, decide_eq_false (p := (b : Int) < (b : Int)) (by omega), Bool.and_false, Bool.or_false]
      cases decide ((m : Int) < (a : Int))
      · rfl
      · simp only [cond_true, wF]
        cases wF f m m b <;> simp
    have e3 : mixB f m a (b + 1) a b = wF f (m + 1) a b := by
      rw [mixB, decide_eq_false (p := (a : Int) < (a : Int)) (by omega), decide_eq_true (p := (a : Int) = (a : Int)) rfl, decide_eq_true (by omega)]; rfl
    rw [e1, e2, e3]
    simp only [wF, h, Bool.true_and]
  · rw [beq_f e, cond_false, nthD_tblL hj, nthD_tblL hj, mixB, mixB]
    by_cases h2 : ((j / n : Nat) : Int) = (a : Int)
    · have : ¬ (j % n = b) := fun e3 => e (by
        have := Nat.div_add_mod j n
        have e4 : j / n = a := by omega
        rw [e4, e3, Nat.mul_comm] at this
        exact this.symm)
      have e5 : decide (((j % n : Nat) : Int) < (b : Int)) = decide (((j % n : Nat) : Int) < ((b + 1 : Nat) : Int)) := by
        rw [decide_eq_decide]; omega
      rw [e5]
    · rw [decide_eq_false h2, Bool.false_and, Bool.false_and]
theorem v45_eq (N : Int) (l : List Pq) : (fnVc (tab [kTbl [none, none, none, some (.bs (tblL N.toNat (setF l)))]] [(0, .of (lWm N.toNat (setF l) 5 3)), (2, lWa N.toNat (setF l) 6 3), (4, lWb N.toNat (setF l) 7 3)]) Try.f45 [rlV N 0 l] [arP l] (resIs (.sl 0 (tblL N.toNat (wF (setF l) N.toNat)).length) 4 (tblL N.toNat (wF (setF l) N.toNat)).length (bsCols (tblL N.toNat (wF (setF l) N.toNat))))) = (l.length = l.length ∧
 validF N
 (psK l) =
 true ∧
 (psK l).length ≤
 (1099511627776 : Nat) ∧
 tblL N.toNat
 (setF
 (psK l)) =
 tblL N.toNat (setF l) ∧
 ∃ (x : PUnit),
 (∃ (x : Nat),
 (x ≤ N.toNat ∧ True) ∧
 ((0 : Int) = (↑x : Int) ∧ True) ∧
 ((AV.bs (tblL N.toNat (setF l))).len = N.toNat * N.toNat ∧
 (∀ (j : Nat),
 j < N.toNat * N.toNat →
 nthD false (tblL N.toNat (setF l)) j = nthD false (tblL N.toNat (wF (setF l) x)) j) ∧
 True) ∧
 True) ∧
 ∀ (x_1 : Nat),
 x_1 ≤ N.toNat ∧ True →
 (decide ((↑x_1 : Int) < N) = true →
 ∃ (x_2 : Nat),
 (∃ (x : Nat),
 (x ≤ N.toNat ∧ x_2 < N.toNat) ∧
 ((0 : Int) = (↑x : Int) ∧ True) ∧
 (N.toNat * N.toNat = N.toNat * N.toNat ∧
 (∀ (j : Nat),
 j < N.toNat * N.toNat →
 nthD false (tblL N.toNat (wF (setF l) x_1)) j =
 nthD false (tblL N.toNat (mixA (setF l) x_2 x)) j) ∧
 True) ∧
 True) ∧
 ∀ (x_3 : Nat),
 x_3 ≤ N.toNat ∧ x_2 < N.toNat →
 (decide ((↑x_3 : Int) < N) = true →
 ∃ (x : Nat × Nat),
 (∃ (x_4 : Nat),
 (x_4 ≤ N.toNat ∧ x.fst < N.toNat ∧ x.snd < N.toNat) ∧
 ((0 : Int) = (↑x_4 : Int) ∧ True) ∧
 (N.toNat * N.toNat = N.toNat * N.toNat ∧
 (∀ (j : Nat),
 j < N.toNat * N.toNat →
 nthD false (tblL N.toNat (mixA (setF l) x_2 x_3)) j =
 nthD false (tblL N.toNat (mixB (setF l) x.fst x.snd x_4)) j) ∧
 True) ∧
 True) ∧
 ∀ (x_4 : Nat),
 x_4 ≤ N.toNat ∧ x.fst < N.toNat ∧ x.snd < N.toNat →
 (decide ((↑x_4 : Int) < N) = true →
 (0 : Int) ≤
 IntKind.i64.wrap (IntKind.i64.wrap ((↑x_3 : Int) * N) + (↑x_1 : Int)) ∧
 IntKind.i64.wrap (IntKind.i64.wrap ((↑x_3 : Int) * N) + (↑x_1 : Int)) <
 (↑(AV.bs (tblL N.toNat (setF l))).len : Int)) ∧
 (decide ((↑x_4 : Int) < N) = true →
 (IntKind.i64.wrap
 (IntKind.i64.wrap ((↑x_3 : Int) * N) + (↑x_1 : Int))).toNat <
 N.toNat * N.toNat) ∧
 ((decide ((↑x_4 : Int) < N) &&
 nthD false (tblL N.toNat (mixB (setF l) x.fst x.snd x_4))
 (IntKind.i64.wrap
 (IntKind.i64.wrap ((↑x_3 : Int) * N) + (↑x_1 : Int))).toNat) =
 true →
 ((0 : Int) ≤
 IntKind.i64.wrap
 (IntKind.i64.wrap ((↑x_3 : Int) * N) + (↑x_4 : Int)) ∧
 IntKind.i64.wrap
 (IntKind.i64.wrap ((↑x_3 : Int) * N) + (↑x_4 : Int)) <
 (↑(AV.bs (tblL N.toNat (setF l))).len : Int)) ∧
 (IntKind.i64.wrap
 (IntKind.i64.wrap ((↑x_3 : Int) * N) + (↑x_4 : Int))).toNat <
 N.toNat * N.toNat ∧
 (nthD false (tblL N.toNat (mixB (setF l) x.fst x.snd x_4))
 (IntKind.i64.wrap
 (IntKind.i64.wrap ((↑x_3 : Int) * N) +
 (↑x_4 : Int))).toNat =
 false →
 (0 : Int) ≤
 IntKind.i64.wrap
 (IntKind.i64.wrap ((↑x_1 : Int) * N) + (↑x_4 : Int)) ∧
 IntKind.i64.wrap
 (IntKind.i64.wrap ((↑x_1 : Int) * N) + (↑x_4 : Int)) <
 (↑(AV.bs (tblL N.toNat (setF l))).len : Int)) ∧
 (nthD false (tblL N.toNat (mixB (setF l) x.fst x.snd x_4))
 (IntKind.i64.wrap
 (IntKind.i64.wrap ((↑x_3 : Int) * N) +
 (↑x_4 : Int))).toNat =
 false →
 (IntKind.i64.wrap
 (IntKind.i64.wrap ((↑x_1 : Int) * N) +
 (↑x_4 : Int))).toNat <
 N.toNat * N.toNat) ∧
 ((0 : Int) ≤
 IntKind.i64.wrap
 (IntKind.i64.wrap ((↑x_3 : Int) * N) + (↑x_4 : Int)) ∧
 IntKind.i64.wrap
 (IntKind.i64.wrap ((↑x_3 : Int) * N) + (↑x_4 : Int)) <
 (↑(AV.bs (tblL N.toNat (setF l))).len : Int)) ∧
 (IntKind.i64.wrap
 (IntKind.i64.wrap ((↑x_3 : Int) * N) +
 (↑x_4 : Int))).toNat <
 N.toNat * N.toNat ∧
 ∃ (x_5 : Nat),
 (x_5 ≤ N.toNat ∧ x.fst < N.toNat ∧ x.snd < N.toNat) ∧
 ((lWb N.toNat (setF l) (7 : Nat) (3 : Nat)).ann x).mu
 x_5 <
 ((lWb N.toNat (setF l) (7 : Nat) (3 : Nat)).ann
 x).mu
 x_4 ∧
 ((N = N ∧ l.length = l.length) ∧
 True ∧
 (0 : Nat) = (0 : Nat) ∧
 (AV.bs (tblL N.toNat (setF l))).len =
 (AV.bs (tblL N.toNat (setF l))).len ∧
 N = N ∧
 (↑x_1 : Int) = (↑x_1 : Int) ∧
 (↑x_3 : Int) = (↑x_3 : Int) ∧
 IntKind.i64.wrap
 ((↑x_4 : Int) + (1 : Int)) =
 (↑x_5 : Int) ∧
 (N = N ∧ l.length = l.length) ∧
 (AV.bs
 (tblL N.toNat
 (setF l))).len =
 (AV.bs
 (tblL N.toNat
 (setF l))).len ∧
 True ∧
 N = N ∧
 (↑x_1 : Int) =
 (↑x_1 : Int) ∧
 N = N ∧
 true = true ∧
 (↑x_3 : Int) =
 (↑x_3 : Int) ∧
 N = N ∧
 true = true ∧
 True) ∧
 (l.length = l.length ∧
 (∀ (j : Nat),
 j < l.length →
 (nthD ((0 : Int), (0 : Int)) l j).fst =
 (nthD ((0 : Int), (0 : Int)) l j).fst) ∧
 (∀ (j : Nat),
 j < l.length →
 (nthD ((0 : Int), (0 : Int)) l j).snd =
 (nthD ((0 : Int), (0 : Int)) l
 j).snd) ∧
 True) ∧
 (N = N ∧ l.length = l.length) ∧
 ((0 : Nat) = (0 : Nat) ∧ True ∧ True) ∧
 (N.toNat * N.toNat = N.toNat * N.toNat ∧
 (∀ (j : Nat),
 j < N.toNat * N.toNat →
 (bif
 j.beq
 (IntKind.i64.wrap
 (IntKind.i64.wrap
 ((↑x_3 : Int) * N) +
 (↑x_4 :
 Int))).toNat then
 nthD false
 (tblL N.toNat
 (mixB (setF l) x.fst x.snd
 x_4))
 (IntKind.i64.wrap
 (IntKind.i64.wrap
 ((↑x_3 : Int) * N) +
 (↑x_4 :
 Int))).toNat ||
 nthD false
 (tblL N.toNat
 (mixB (setF l) x.fst x.snd
 x_4))
 (IntKind.i64.wrap
 (IntKind.i64.wrap
 ((↑x_1 : Int) * N) +
 (↑x_4 : Int))).toNat
 else
 nthD false
 (tblL N.toNat
 (mixB (setF l) x.fst x.snd
 x_4))
 j) =
 nthD false
 (tblL N.toNat
 (mixB (setF l) x.fst x.snd
 x_5))
 j) ∧
 True) ∧
 True) ∧
 ((decide ((↑x_4 : Int) < N) &&
 nthD false (tblL N.toNat (mixB (setF l) x.fst x.snd x_4))
 (IntKind.i64.wrap
 (IntKind.i64.wrap ((↑x_3 : Int) * N) + (↑x_1 : Int))).toNat) =
 false →
 ∃ (x_5 : Nat),
 (x_5 ≤ N.toNat ∧ x_2 < N.toNat) ∧
 ((lWa N.toNat (setF l) (6 : Nat) (3 : Nat)).ann x_2).mu x_5 <
 ((lWa N.toNat (setF l) (6 : Nat) (3 : Nat)).ann x_2).mu x_3 ∧
 ((N = N ∧ l.length = l.length) ∧
 True ∧
 (0 : Nat) = (0 : Nat) ∧
 (AV.bs (tblL N.toNat (setF l))).len =
 (AV.bs (tblL N.toNat (setF l))).len ∧
 N = N ∧
 (↑x_1 : Int) = (↑x_1 : Int) ∧
 IntKind.i64.wrap ((↑x_3 : Int) + (1 : Int)) =
 (↑x_5 : Int) ∧
 (N = N ∧ l.length = l.length) ∧
 (AV.bs (tblL N.toNat (setF l))).len =
 (AV.bs (tblL N.toNat (setF l))).len ∧
 True ∧
 N = N ∧
 (↑x_1 : Int) = (↑x_1 : Int) ∧
 N = N ∧ true = true ∧ True) ∧
 (l.length = l.length ∧
 (∀ (j : Nat),
 j < l.length →
 (nthD ((0 : Int), (0 : Int)) l j).fst =
 (nthD ((0 : Int), (0 : Int)) l j).fst) ∧
 (∀ (j : Nat),
 j < l.length →
 (nthD ((0 : Int), (0 : Int)) l j).snd =
 (nthD ((0 : Int), (0 : Int)) l j).snd) ∧
 True) ∧
 (N = N ∧ l.length = l.length) ∧
 ((0 : Nat) = (0 : Nat) ∧ True ∧ True) ∧
 (N.toNat * N.toNat = N.toNat * N.toNat ∧
 (∀ (j : Nat),
 j < N.toNat * N.toNat →
 nthD false
 (tblL N.toNat
 (mixB (setF l) x.fst x.snd x_4))
 j =
 nthD false
 (tblL N.toNat (mixA (setF l) x_2 x_5)) j) ∧
 True) ∧
 True)) ∧
 (decide ((↑x_3 : Int) < N) = false →
 ∃ (x_4 : Nat),
 (x_4 ≤ N.toNat ∧ True) ∧
 ((PLoop.of (lWm N.toNat (setF l) (5 : Nat) (3 : Nat))).ann x).mu x_4 <
 ((PLoop.of (lWm N.toNat (setF l) (5 : Nat) (3 : Nat))).ann x).mu x_1 ∧
 ((N = N ∧ l.length = l.length) ∧
 True ∧
 (0 : Nat) = (0 : Nat) ∧
 (AV.bs (tblL N.toNat (setF l))).len =
 (AV.bs (tblL N.toNat (setF l))).len ∧
 N = N ∧
 IntKind.i64.wrap ((↑x_1 : Int) + (1 : Int)) = (↑x_4 : Int) ∧
 (N = N ∧ l.length = l.length) ∧
 (AV.bs (tblL N.toNat (setF l))).len =
 (AV.bs (tblL N.toNat (setF l))).len ∧
 True ∧ N = N ∧ True) ∧
 (l.length = l.length ∧
 (∀ (j : Nat),
 j < l.length →
 (nthD ((0 : Int), (0 : Int)) l j).fst =
 (nthD ((0 : Int), (0 : Int)) l j).fst) ∧
 (∀ (j : Nat),
 j < l.length →
 (nthD ((0 : Int), (0 : Int)) l j).snd =
 (nthD ((0 : Int), (0 : Int)) l j).snd) ∧
 True) ∧
 (N = N ∧ l.length = l.length) ∧
 ((0 : Nat) = (0 : Nat) ∧ True ∧ True) ∧
 (N.toNat * N.toNat = N.toNat * N.toNat ∧
 (∀ (j : Nat),
 j < N.toNat * N.toNat →
 nthD false (tblL N.toNat (mixA (setF l) x_2 x_3)) j =
 nthD false (tblL N.toNat (wF (setF l) x_4)) j) ∧
 True) ∧
 True)) ∧
 (decide ((↑x_1 : Int) < N) = false →
 N.toNat * N.toNat = (tblL N.toNat (wF (setF l) N.toNat)).length ∧
 ((∀ (j : Nat),
 j < (tblL N.toNat (wF (setF l) N.toNat)).length →
 nthD false (tblL N.toNat (wF (setF l) x_1)) j =
 nthD false (tblL N.toNat (wF (setF l) N.toNat)) j) ∧
 True) ∧
 (AV.bs (tblL N.toNat (setF l))).len = (tblL N.toNat (wF (setF l) N.toNat)).length)) := by kernel_rfl
theorem v45 (N : Int) (l : List Pq) (hv : validF N l = true) (hl : L9 l) : fnVc (tab [kTbl [none, none, none, some (.bs (tblL N.toNat (setF l)))]] [(0, .of (lWm N.toNat (setF l) 5 3)), (2, lWa N.toNat (setF l) 6 3), (4, lWb N.toNat (setF l) 7 3)]) Try.f45 [rlV N 0 l] [arP l] (resIs (.sl 0 (tblL N.toNat (wF (setF l) N.toNat)).length) 4 (tblL N.toNat (wF (setF l) N.toNat)).length (bsCols (tblL N.toNat (wF (setF l) N.toNat)))) := by
  rw [v45_eq]
  obtain ⟨h1, h2, h3⟩ := validF_iff.1 hv
  have hb : N.toNat * N.toNat ≤ 4096 := sq_le (by omega)
  simp only [eq_self, true_and, and_true, implies_true, imp_self, psK_eq, mkN_ps, mkN_rs, mkN_self, mkN_len, PLoop.of, lCnt, AV.len, tblL_len, lWm, lWa, lWb, lAcy, lIsm]
  refine ⟨hv, hl, (), ⟨0, by simp, rfl, fun j hj => rfl⟩, fun m hm => ⟨fun hlm => ⟨m, ⟨0, ?_, rfl, fun j hj => mixA_zero hj⟩, fun a ha => ⟨fun hla => ⟨(m, a), ⟨0, ?_, rfl, fun j hj => mixB_zero hj⟩, fun b hb => ?_⟩, fun hla => ?_⟩⟩, fun hlm => ?_⟩⟩
  · have := of_decide_eq_true hlm; omega
  · have := of_decide_eq_true hlm; have := of_decide_eq_true hla; simp only; omega
  · have hm2 := of_decide_eq_true hlm
    have ha2 := of_decide_eq_true hla
    have i1 := ixw (a := a) (b := m) (N := N) (by omega) (by omega) (by omega)
    have i1' := ix_lt (n := N.toNat) (a := a) (b := m) (by omega) (by omega)
    rw [i1]
    simp only [Int.toNat_natCast]
    rw [tbl_at (by omega) (by omega), mixB_am]
    refine ⟨fun hlb => by omega, fun hlb => by omega, fun hc => ?_, fun hc => ?_⟩
    · simp only [Bool.and_eq_true] at hc
      have hb2 := of_decide_eq_true hc.1
      have i2 := ixw (a := a) (b := b) (N := N) (by omega) (by omega) (by omega)
      have i2' := ix_lt (n := N.toNat) (a := a) (b := b) (by omega) (by omega)
      have i3 := ixw (a := m) (b := b) (N := N) (by omega) (by omega) (by omega)
      have i3' := ix_lt (n := N.toNat) (a := m) (b := b) (by omega) (by omega)
      rw [i2, i3]
      simp only [Int.toNat_natCast]
      exact ⟨by omega, i2', fun _ => by omega, fun _ => i3', by omega, i2', b + 1, ⟨by omega, by omega, by omega⟩, by omega, wrS (n := 64) (by omega) (by omega), fun j hj => mixB_step (by omega) (by omega) (by omega) hc.2 hj⟩
    · refine ⟨a + 1, ⟨by omega, by omega⟩, by omega, wrS (n := 64) (by omega) (by omega), fun j hj => mixB_done hj ?_⟩
      cases e : wF (setF l) m a m
      · exact .inr rfl
      · rw [e, Bool.and_true] at hc
        have := of_decide_eq_false hc
        exact .inl (by omega)
  · have := of_decide_eq_false hla
    have e : a = N.toNat := by omega
    subst e
    exact ⟨m + 1, by omega, by omega, wrS (n := 64) (by omega) (by omega), fun j hj => mixA_full hj⟩
  · have := of_decide_eq_false hlm
    have e : m = N.toNat := by omega
    subst e
    exact fun j hj => rfl
theorem v47_eq (N : Int) (l : List Pq) : (fnVc (tab [kVal [], kCls []] [(0, .of (lAcy N.toNat (wF (setF l) N.toNat) 12))]) Try.f47 [rlV N 0 l] [arP l] (plainIs (.b (validF N l && acyF N.toNat (wF (setF l) N.toNat))))) = (l.length = l.length ∧
 (psK l).length ≤
 (1099511627776 : Nat) ∧
 ((!validF N
 (psK l)) =
 true →
 false = (validF N l && acyF N.toNat (wF (setF l) N.toNat))) ∧
 ((!validF N
 (psK l)) =
 false →
 l.length = l.length ∧
 validF N
 (psK l) =
 true ∧
 (psK l).length ≤
 (1099511627776 : Nat) ∧
 ∃ (x : PUnit),
 (∃ (x : Nat),
 (x ≤ N.toNat ∧ acyF x (wF (setF l) N.toNat) = true) ∧ ((0 : Int) = (↑x : Int) ∧ True) ∧ True) ∧
 ∀ (x_1 : Nat),
 x_1 ≤ N.toNat ∧ acyF x_1 (wF (setF l) N.toNat) = true →
 (decide ((↑x_1 : Int) < N) = true →
 (wF
 (setF
 (psK l))
 N.toNat (↑x_1 : Int) (↑x_1 : Int) =
 true →
 false = (validF N l && acyF N.toNat (wF (setF l) N.toNat))) ∧
 (wF
 (setF
 (psK l))
 N.toNat (↑x_1 : Int) (↑x_1 : Int) =
 false →
 ∃ (x_2 : Nat),
 (x_2 ≤ N.toNat ∧ acyF x_2 (wF (setF l) N.toNat) = true) ∧
 ((PLoop.of (lAcy N.toNat (wF (setF l) N.toNat) (12 : Nat))).ann x).mu x_2 <
 ((PLoop.of (lAcy N.toNat (wF (setF l) N.toNat) (12 : Nat))).ann x).mu x_1 ∧
 ((N = N ∧ l.length = l.length) ∧
 True ∧
 True ∧
 (N = N ∧ l.length = l.length) ∧
 validF N
 (psK l) =
 validF N
 (psK l) ∧
 false = false ∧
 (N = N ∧ l.length = l.length) ∧
 True ∧
 True ∧
 N = N ∧
 IntKind.i64.wrap ((↑x_1 : Int) + (1 : Int)) = (↑x_2 : Int) ∧
 True) ∧
 (l.length = l.length ∧
 (∀ (j : Nat),
 j < l.length →
 (nthD ((0 : Int), (0 : Int)) l j).fst =
 (nthD ((0 : Int), (0 : Int)) l j).fst) ∧
 (∀ (j : Nat),
 j < l.length →
 (nthD ((0 : Int), (0 : Int)) l j).snd =
 (nthD ((0 : Int), (0 : Int)) l j).snd) ∧
 True) ∧
 (N = N ∧ l.length = l.length) ∧
 (∀ (x y : Int),
 wF
 (setF
 (psK l))
 N.toNat x y =
 wF
 (setF
 (psK l))
 N.toNat x y) ∧
 True)) ∧
 (decide ((↑x_1 : Int) < N) = false → true = (validF N l && acyF N.toNat (wF (setF l) N.toNat))))) := by kernel_rfl
theorem v47 (N : Int) (l : List Pq) (hl : L9 l) : fnVc (tab [kVal [], kCls []] [(0, .of (lAcy N.toNat (wF (setF l) N.toNat) 12))]) Try.f47 [rlV N 0 l] [arP l] (plainIs (.b (validF N l && acyF N.toNat (wF (setF l) N.toNat)))) := by
  rw [v47_eq]
  simp only [eq_self, true_and, and_true, implies_true, imp_self, psK_eq, mkN_ps, mkN_rs, mkN_self, mkN_len, PLoop.of, lCnt, AV.len, tblL_len, lWm, lWa, lWb, lAcy, lIsm]
  refine ⟨hl, fun h => ?_, fun h => ?_⟩
  · have hv : validF N l = false := by simpa using h
    rw [hv]; rfl
  · have hv : validF N l = true := by simpa using h
    obtain ⟨h1, h2, h3⟩ := validF_iff.1 hv
    rw [hv]
    refine ⟨rfl, hl, (), ⟨0, by simp [acyF], rfl⟩, fun i hi => ⟨fun hlt => ?_, fun hlt => ?_⟩⟩
    · have hlt2 := of_decide_eq_true hlt
      refine ⟨fun hc => ?_, fun hc => ?_⟩
      · have e : acyF N.toNat (wF (setF l) N.toNat) = false := by
          rw [acyF, List.all_eq_false]
          exact ⟨i, List.mem_range.2 (by omega), by rw [hc]; simp⟩
        rw [e]; rfl
      · exact ⟨i + 1, ⟨by omega, by rw [acyF, List.range_succ, List.all_append]; rw [acyF] at hi; rw [hi.2]; simp [hc]⟩, by omega, wrS (n := 64) (by omega) (by omega)⟩
    · have hlt2 := of_decide_eq_false hlt
      have e : i = N.toNat := by omega
      have hi3 := hi.2
      rw [e] at hi3
      rw [hi3]; rfl
theorem v28_eq (N : Int) (l : List Pq) : (fnVc (tab [kVal' [], kCld []] [(0, .of (lAcy N.toNat (wF (setF l) N.toNat) 4))]) Try.f28 [rlV N 0 l] [arP l] (plainIs (.b (validF N l && acyF N.toNat (wF (setF l) N.toNat))))) = (l.length = l.length ∧
 (psK l).length ≤
 (1099511627776 : Nat) ∧
 ((!validF N
 (psK l)) =
 true →
 false = (validF N l && acyF N.toNat (wF (setF l) N.toNat))) ∧
 ((!validF N
 (psK l)) =
 false →
 l.length = l.length ∧
 validF N
 (psK l) =
 true ∧
 (psK l).length ≤
 (1099511627776 : Nat) ∧
 ∃ (x : PUnit),
 (∃ (x : Nat),
 (x ≤ N.toNat ∧ acyF x (wF (setF l) N.toNat) = true) ∧ ((0 : Int) = (↑x : Int) ∧ True) ∧ True) ∧
 ∀ (x_1 : Nat),
 x_1 ≤ N.toNat ∧ acyF x_1 (wF (setF l) N.toNat) = true →
 (decide ((↑x_1 : Int) < N) = true →
 ((0 : Int) ≤ IntKind.i64.wrap (IntKind.i64.wrap ((↑x_1 : Int) * N) + (↑x_1 : Int)) ∧
 IntKind.i64.wrap (IntKind.i64.wrap ((↑x_1 : Int) * N) + (↑x_1 : Int)) <
 (↑(AV.bs
 (tblL N.toNat
 (wF
 (setF
 (psK l))
 N.toNat))).len :
 Int)) ∧
 (IntKind.i64.wrap (IntKind.i64.wrap ((↑x_1 : Int) * N) + (↑x_1 : Int))).toNat <
 (AV.bs
 (tblL N.toNat
 (wF
 (setF
 (psK l))
 N.toNat))).len ∧
 (nthD false
 (tblL N.toNat
 (wF
 (setF
 (psK l))
 N.toNat))
 (IntKind.i64.wrap (IntKind.i64.wrap ((↑x_1 : Int) * N) + (↑x_1 : Int))).toNat =
 true →
 false = (validF N l && acyF N.toNat (wF (setF l) N.toNat))) ∧
 (nthD false
 (tblL N.toNat
 (wF
 (setF
 (psK l))
 N.toNat))
 (IntKind.i64.wrap (IntKind.i64.wrap ((↑x_1 : Int) * N) + (↑x_1 : Int))).toNat =
 false →
 ∃ (x_2 : Nat),
 (x_2 ≤ N.toNat ∧ acyF x_2 (wF (setF l) N.toNat) = true) ∧
 ((PLoop.of (lAcy N.toNat (wF (setF l) N.toNat) (4 : Nat))).ann x).mu x_2 <
 ((PLoop.of (lAcy N.toNat (wF (setF l) N.toNat) (4 : Nat))).ann x).mu x_1 ∧
 ((N = N ∧ l.length = l.length) ∧
 True ∧
 (AV.bs
 (tblL N.toNat
 (wF
 (setF
 (psK l))
 N.toNat))).len =
 (AV.bs
 (tblL N.toNat
 (wF
 (setF
 (psK l))
 N.toNat))).len ∧
 IntKind.i64.wrap ((↑x_1 : Int) + (1 : Int)) = (↑x_2 : Int) ∧
 (N = N ∧ l.length = l.length) ∧
 validF N
 (psK l) =
 validF N
 (psK l) ∧
 false = false ∧
 (N = N ∧ l.length = l.length) ∧
 (AV.bs
 (tblL N.toNat
 (wF
 (setF
 (psK l))
 N.toNat))).len =
 (AV.bs
 (tblL N.toNat
 (wF
 (setF
 (psK l))
 N.toNat))).len ∧
 True) ∧
 (l.length = l.length ∧
 (∀ (j : Nat),
 j < l.length →
 (nthD ((0 : Int), (0 : Int)) l j).fst =
 (nthD ((0 : Int), (0 : Int)) l j).fst) ∧
 (∀ (j : Nat),
 j < l.length →
 (nthD ((0 : Int), (0 : Int)) l j).snd =
 (nthD ((0 : Int), (0 : Int)) l j).snd) ∧
 True) ∧
 (N = N ∧ l.length = l.length) ∧
 ((AV.bs
 (tblL N.toNat
 (wF
 (setF
 (psK l))
 N.toNat))).len =
 (AV.bs
 (tblL N.toNat
 (wF
 (setF
 (psK l))
 N.toNat))).len ∧
 (∀ (j : Nat),
 j <
 (AV.bs
 (tblL N.toNat
 (wF
 (setF
 (psK l))
 N.toNat))).len →
 nthD false
 (tblL N.toNat
 (wF
 (setF
 (psK l))
 N.toNat))
 j =
 nthD false
 (tblL N.toNat
 (wF
 (setF
 (psK l))
 N.toNat))
 j) ∧
 True) ∧
 True)) ∧
 (decide ((↑x_1 : Int) < N) = false → true = (validF N l && acyF N.toNat (wF (setF l) N.toNat))))) := by kernel_rfl
theorem v28 (N : Int) (l : List Pq) (hl : L9 l) : fnVc (tab [kVal' [], kCld []] [(0, .of (lAcy N.toNat (wF (setF l) N.toNat) 4))]) Try.f28 [rlV N 0 l] [arP l] (plainIs (.b (validF N l && acyF N.toNat (wF (setF l) N.toNat)))) := by
  rw [v28_eq]
  simp only [eq_self, true_and, and_true, implies_true, imp_self, psK_eq, mkN_ps, mkN_rs, mkN_self, mkN_len, PLoop.of, lCnt, AV.len, tblL_len, lWm, lWa, lWb, lAcy, lIsm]
  refine ⟨hl, fun h => ?_, fun h => ?_⟩
  · have hv : validF N l = false := by simpa using h
    rw [hv]; rfl
  · have hv : validF N l = true := by simpa using h
    obtain ⟨h1, h2, h3⟩ := validF_iff.1 hv
    rw [hv]
    refine ⟨rfl, hl, (), ⟨0, by simp [acyF], rfl⟩, fun i hi => ⟨fun hlt => ?_, fun hlt => ?_⟩⟩
    · have hlt2 := of_decide_eq_true hlt
      have i1 := ixw (a := i) (b := i) (N := N) (by omega) (by omega) (by omega)
      have i1' := ix_lt (n := N.toNat) (a := i) (b := i) (by omega) (by omega)
      rw [i1]
      simp only [Int.toNat_natCast]
      rw [tbl_at (by omega) (by omega)]
      refine ⟨by omega, i1', fun hc => ?_, fun hc => ?_⟩
      · have e : acyF N.toNat (wF (setF l) N.toNat) = false := by
          rw [acyF, List.all_eq_false]
          exact ⟨i, List.mem_range.2 (by omega), by rw [hc]; simp⟩
        rw [e]; rfl
      · exact ⟨i + 1, ⟨by omega, by rw [acyF, List.range_succ, List.all_append]; rw [acyF] at hi; rw [hi.2]; simp [hc]⟩, by omega, wrS (n := 64) (by omega) (by omega)⟩
    · have hlt2 := of_decide_eq_false hlt
      have e : i = N.toNat := by omega
      have hi3 := hi.2
      rw [e] at hi3
      rw [hi3]; rfl
theorem eq_takes {α : Type} {a b : List α} (h : a.length = b.length) (h2 : a.take a.length = b.take a.length) : a = b := by
  rw [List.take_length, h, List.take_length] at h2; exact h2
theorem v18_eq (a b : List Int) : (fnVc (tab [] [(0, .of (lIsm a b 5))]) Try.f18 [.sl 0 a.length, .sl 1 b.length] [arI a, arI b] (plainIs (.b (decide (a = b))))) = ((((↑a.length : Int) != (↑b.length : Int)) = true → false = decide (a = b)) ∧
 (((↑a.length : Int) != (↑b.length : Int)) = false →
 ∃ (x : PUnit),
 (∃ (x : Nat), (x ≤ a.length ∧ List.take x a = List.take x b) ∧ ((0 : Int) = (↑x : Int) ∧ True) ∧ True) ∧
 ∀ (x_1 : Nat),
 x_1 ≤ a.length ∧ List.take x_1 a = List.take x_1 b →
 (decide ((↑x_1 : Int) < (↑a.length : Int)) = true →
 ((0 : Int) ≤ (↑x_1 : Int) ∧ (↑x_1 : Int) < (↑a.length : Int)) ∧
 x_1 < a.length ∧
 ((0 : Int) ≤ (↑x_1 : Int) ∧ (↑x_1 : Int) < (↑b.length : Int)) ∧
 x_1 < b.length ∧
 ((nthD (0 : Int) a x_1 != nthD (0 : Int) b x_1) = true → false = decide (a = b)) ∧
 ((nthD (0 : Int) a x_1 != nthD (0 : Int) b x_1) = false →
 ∃ (x_2 : Nat),
 (x_2 ≤ a.length ∧ List.take x_2 a = List.take x_2 b) ∧
 ((PLoop.of (lIsm a b (5 : Nat))).ann x).mu x_2 <
 ((PLoop.of (lIsm a b (5 : Nat))).ann x).mu x_1 ∧
 (a.length = a.length ∧
 b.length = b.length ∧
 IntKind.i64.wrap ((↑x_1 : Int) + (1 : Int)) = (↑x_2 : Int) ∧
 a.length = a.length ∧
 (↑a.length : Int) = (↑a.length : Int) ∧
 b.length = b.length ∧
 (↑b.length : Int) = (↑b.length : Int) ∧ false = false ∧ True) ∧
 (a.length = a.length ∧
 (∀ (j : Nat), j < a.length → nthD (0 : Int) a j = nthD (0 : Int) a j) ∧ True) ∧
 (b.length = b.length ∧
 (∀ (j : Nat), j < b.length → nthD (0 : Int) b j = nthD (0 : Int) b j) ∧
 True) ∧
 True)) ∧
 (decide ((↑x_1 : Int) < (↑a.length : Int)) = false → true = decide (a = b)))) := by kernel_rfl
theorem v18 (a b : List Int) (ha : L9 a) : fnVc (tab [] [(0, .of (lIsm a b 5))]) Try.f18 [.sl 0 a.length, .sl 1 b.length] [arI a, arI b] (plainIs (.b (decide (a = b)))) := by
  rw [v18_eq]
  simp only [eq_self, true_and, and_true, implies_true, imp_self, psK_eq, mkN_ps, mkN_rs, mkN_self, mkN_len, PLoop.of, lCnt, AV.len, tblL_len, lWm, lWa, lWb, lAcy, lIsm]
  refine ⟨fun h => ?_, fun h => ⟨(), ⟨0, by simp, rfl⟩, fun i hi => ⟨fun hlt => ?_, fun hlt => ?_⟩⟩⟩
  · rw [eq_comm, decide_eq_false_iff_not]
    skip
    rintro rfl
    simp at h
  · have hi2 := lt_len hlt
    have hlen : a.length = b.length := by simp at h; omega
    refine ⟨bd hi2, hi2, by omega, by omega, fun hc => ?_, fun hc => ?_⟩
    · rw [eq_comm, decide_eq_false_iff_not]
      skip
      rintro rfl
      simp at hc
    · refine ⟨i + 1, ⟨by omega, ?_⟩, by omega, w64_sub (by omega) ha⟩
      rw [take_succ' 0 hi2, take_succ' 0 (show i < b.length by omega), hi.2]
      congr 2
      simpa using hc
  · have hi2 := ge_len hlt hi.1
    have hlen : a.length = b.length := by simp at h; omega
    have h2 := hi.2
    rw [hi2] at h2
    have := eq_takes hlen h2
    rw [this]; simp
theorem fo45 : fnOk Try.prog 45 := ⟨Try.f45, Try.func45, by kernel_rfl, by kernel_rfl⟩
theorem fo47 : fnOk Try.prog 47 := ⟨Try.f47, Try.func47, by kernel_rfl, by kernel_rfl⟩
theorem fo28 : fnOk Try.prog 28 := ⟨Try.f28, Try.func28, by kernel_rfl, by kernel_rfl⟩
theorem fo18 : fnOk Try.prog 18 := ⟨Try.f18, Try.func18, by kernel_rfl, by kernel_rfl⟩
def t45 : List AV → Tab
  | [.r N l] => tab [kTbl [none, none, none, some (.bs (tblL N.toNat (setF l)))]] [(0, .of (lWm N.toNat (setF l) 5 3)), (2, lWa N.toNat (setF l) 6 3), (4, lWb N.toNat (setF l) 7 3)]
  | _ => tab [] []
theorem c45 : CallOk Try.prog [] 45 (genF EL [] [.r] sCld) := by
  refine okT (fn := Try.f45) Try.func45 fo45 t45 (fun av => ?_) (fun av => ?_) (fun av pre rv h => ?_) (fun av pre rv h hp => ?_)
  · unfold t45; split <;> first | exact tabOk (mOne (n51 _) mNil) | exact tabOk mNil
  · unfold t45; split <;> exact ⟨rfl, rfl⟩
  · unfold sCld at h; split at h <;> cases h
    exact ⟨rfl, fun t a e => by cases e <;> exact List.cons_ne_nil _ _⟩
  · unfold sCld at h; split at h <;> cases h
    exact v45 _ _ (hp _ (.head _)) (hp _ (.tail _ (.head _)))
theorem n45 (nm : List (Option AV)) : CallOk Try.prog [] 45 (genF EL nm [.r] sCld) := genNm c45
def t47 : List AV → Tab
  | [.r N l] => tab [kVal [], kCls []] [(0, .of (lAcy N.toNat (wF (setF l) N.toNat) 12))]
  | _ => tab [] []
theorem c47 : CallOk Try.prog [] 47 (genF EL [] [.r] sAcy) := by
  refine okT (fn := Try.f47) Try.func47 fo47 t47 (fun av => ?_) (fun av => ?_) (fun av pre rv h => ?_) (fun av pre rv h hp => ?_)
  · unfold t47; split <;> first | exact tabOk (mOne (n37 _) (mOne (n52 _) mNil)) | exact tabOk mNil
  · unfold t47; split <;> exact ⟨rfl, rfl⟩
  · unfold sAcy at h; split at h <;> cases h
    exact ⟨rfl, fun t a e => by cases e <;> exact List.cons_ne_nil _ _⟩
  · unfold sAcy at h; split at h <;> cases h
    exact v47 _ _ (hp _ (.head _))
theorem n47 (nm : List (Option AV)) : CallOk Try.prog [] 47 (genF EL nm [.r] sAcy) := genNm c47
def t28 : List AV → Tab
  | [.r N l] => tab [kVal' [], kCld []] [(0, .of (lAcy N.toNat (wF (setF l) N.toNat) 4))]
  | _ => tab [] []
theorem c28 : CallOk Try.prog [] 28 (genF EL [] [.r] sAcy) := by
  refine okT (fn := Try.f28) Try.func28 fo28 t28 (fun av => ?_) (fun av => ?_) (fun av pre rv h => ?_) (fun av pre rv h hp => ?_)
  · unfold t28; split <;> first | exact tabOk (mOne (n27 _) (mOne (n45 _) mNil)) | exact tabOk mNil
  · unfold t28; split <;> exact ⟨rfl, rfl⟩
  · unfold sAcy at h; split at h <;> cases h
    exact ⟨rfl, fun t a e => by cases e <;> exact List.cons_ne_nil _ _⟩
  · unfold sAcy at h; split at h <;> cases h
    exact v28 _ _ (hp _ (.head _))
theorem n28 (nm : List (Option AV)) : CallOk Try.prog [] 28 (genF EL nm [.r] sAcy) := genNm c28
def t18 : List AV → Tab
  | [.is a, .is b] => tab [] [(0, .of (lIsm a b 5))]
  | _ => tab [] []
theorem c18 : CallOk Try.prog [] 18 (genF EL [] [.is, .is] sInt) := by
  refine okT (fn := Try.f18) Try.func18 fo18 t18 (fun av => ?_) (fun av => ?_) (fun av pre rv h => ?_) (fun av pre rv h hp => ?_)
  · unfold t18; split <;> first | exact tabOk mNil | exact tabOk mNil
  · unfold t18; split <;> exact ⟨rfl, rfl⟩
  · unfold sInt at h; split at h <;> cases h
    exact ⟨rfl, fun t a e => by cases e <;> exact List.cons_ne_nil _ _⟩
  · unfold sInt at h; split at h <;> cases h
    exact v18 _ _ (hp _ (.head _))
theorem n18 (nm : List (Option AV)) : CallOk Try.prog [] 18 (genF EL nm [.is, .is] sInt) := genNm c18
end Go.Proofs.Ytiokmglajigngaa
namespace Go.Proofs.Ytiokmglajigngaa
open Go Go.Proofs.Ytiokmglajigngaa.Sx
/-- The mask of the numbers before x. -/
def befM (l : List Pq) (x : Int) : Nat := l.foldl (fun m p => bif p.2 == x then m ||| 1 <<< p.1.toNat else m) 0
def befL (n : Nat) (l : List Pq) : List Int := mkN (fun x => (befM l x : Int)) n
def acy (N : Int) (l : List Pq) : Bool := acyF N.toNat (wF (setF l) N.toNat)
def okP (N : Int) (l : List Pq) : Bool := validF N l && acy N l
/-- The error of a relation. -/
def errP (N : Int) (l : List Pq) : Int := bif validF N l then (bif acy N l then 0 else 20) else 1
def posT (N : Int) (e : Int) : Nat → SV := fun k => .tup [.agg [.i .i64 N, .sl 0 k], .i .i64 e]
def sChk : Sp := fun | [.r N l] => some ([L9 l], .sl (posT (bif okP N l then N else 0) (errP N l)) (.us (bif okP N l then befL N.toNat l else []))) | _ => none
def kChk (nm : List (Option AV)) : Nat × (List MBlk → List SV → Option AR) := (33, genF EL nm [.r] sChk)
/-- Whether x can come next behind the set. -/
def frR (B : List Int) (s x : Int) : Bool := bits .and .u64 s (IntKind.u64.wrap (1 * 2 ^ x.toNat)) == 0 && bits .andNot .u64 (nthD 0 B x.toNat) s == 0
def sFre : Sp := fun | [.po N B, .u s, .i x] => some ([0 ≤ x ∧ x < 64, x < (B.length : Int)], .pl (.b (frR B s x))) | _ => none
def kFre (nm : List (Option AV)) : Nat × (List MBlk → List SV → Option AR) := (34, genF EL nm [.po, .u, .i] sFre)
def lChk (N : Int) (l : List Pq) (t e : Nat) : LAnn := lCnt l.length t (fun _ => True) (fun i => [(e, .oarr 54 N.toNat (usCols (befL N.toNat (l.take i))))]) []
def poV (N : Int) (x : Nat) (B : List Int) : SV := .agg [.i .i64 N, .sl x B.length]
def arU (B : List Int) : MBlk := .arr B.length (usCols B)
def bifU (c : Bool) (l : List Int) : List Int := bif c then l else []
end Go.Proofs.Ytiokmglajigngaa
namespace Go.Proofs.Ytiokmglajigngaa
open Go Go.Proofs.Ytiokmglajigngaa.Sx
set_option maxRecDepth 100000
set_option linter.unusedSimpArgs false
set_option linter.unusedVariables false
theorem u64_wrap {n : Nat} (h : n < 2 ^ 64) : IntKind.u64.wrap (n : Int) = (n : Int) := by
  simp only [IntKind.wrap, IntKind.signed, IntKind.bits]
  simp
  omega
theorem ofInt_nat (n : Nat) : BitVec.ofInt 64 (n : Int) = BitVec.ofNat 64 n := by
  apply BitVec.eq_of_toInt_eq; simp
theorem bits_or {a b : Nat} (ha : a < 2 ^ 64) (hb : b < 2 ^ 64) : bits .or .u64 (a : Int) (b : Int) = ((a ||| b : Nat) : Int) := by
  have h := Nat.or_lt_two_pow ha hb
  show IntKind.u64.wrap (((BitVec.ofInt 64 (a : Int) ||| BitVec.ofInt 64 (b : Int)).toNat : Nat) : Int) = _
  rw [ofInt_nat, ofInt_nat, BitVec.toNat_or, BitVec.toNat_ofNat, BitVec.toNat_ofNat, Nat.mod_eq_of_lt ha, Nat.mod_eq_of_lt hb]
  exact u64_wrap h
theorem bits_and {a b : Nat} (ha : a < 2 ^ 64) (hb : b < 2 ^ 64) : bits .and .u64 (a : Int) (b : Int) = ((a &&& b : Nat) : Int) := by
  have h : a &&& b < 2 ^ 64 := Nat.and_lt_two_pow a hb
  show IntKind.u64.wrap (((BitVec.ofInt 64 (a : Int) &&& BitVec.ofInt 64 (b : Int)).toNat : Nat) : Int) = _
  rw [ofInt_nat, ofInt_nat, BitVec.toNat_and, BitVec.toNat_ofNat, BitVec.toNat_ofNat, Nat.mod_eq_of_lt ha, Nat.mod_eq_of_lt hb]
  exact u64_wrap h
/-- What a has and b has not. -/
def diff (a b : Nat) : Nat := (BitVec.ofNat 64 a &&& ~~~BitVec.ofNat 64 b).toNat
theorem diff_bit {a b : Nat} (ha : a < 2 ^ 64) (i : Nat) : (diff a b).testBit i = (a.testBit i && !b.testBit i) := by
  unfold diff
  rw [BitVec.testBit_toNat, BitVec.getLsbD_and, BitVec.getLsbD_not, BitVec.getLsbD_ofNat, BitVec.getLsbD_ofNat]
  by_cases h : i < 64
  · simp [h]
  · have : a.testBit i = false := Nat.testBit_lt_two_pow (Nat.lt_of_lt_of_le ha (Nat.pow_le_pow_right (by omega) (by omega)))
    simp [h, this]
theorem diff_lt (a b : Nat) : diff a b < 2 ^ 64 := (BitVec.ofNat 64 a &&& ~~~BitVec.ofNat 64 b).isLt
theorem bits_andNot {a b : Nat} : bits .andNot .u64 (a : Int) (b : Int) = ((diff a b : Nat) : Int) := by
  show IntKind.u64.wrap (((BitVec.ofInt 64 (a : Int) &&& ~~~BitVec.ofInt 64 (b : Int)).toNat : Nat) : Int) = _
  rw [ofInt_nat, ofInt_nat]
  exact u64_wrap (diff_lt a b)
theorem one_lt {x : Nat} (h : x < 64) : 1 <<< x < 2 ^ 64 := by
  rw [Nat.one_shiftLeft]
  exact Nat.pow_lt_pow_right (by omega) h
theorem wrap_shl {x : Nat} (h : x < 64) : IntKind.u64.wrap (1 * 2 ^ x) = ((1 <<< x : Nat) : Int) := by
  have e : (1 * 2 ^ x : Int) = ((1 <<< x : Nat) : Int) := by rw [Nat.one_shiftLeft]; simp
  rw [e]
  exact u64_wrap (one_lt h)
theorem or_bit {a x i : Nat} : (a ||| 1 <<< x).testBit i = (a.testBit i || decide (i = x)) := by
  rw [Nat.testBit_or, Nat.one_shiftLeft, Nat.testBit_two_pow]
  congr 1
  rw [decide_eq_decide]; exact eq_comm
theorem and_zero {a x : Nat} : (((a &&& 1 <<< x : Nat) : Int) == 0) = !a.testBit x := by
  rw [Bool.eq_iff_iff, beq_iff_eq, Bool.not_eq_true', Nat.one_shiftLeft]
  constructor
  · intro h
    have h : a &&& 2 ^ x = 0 := by omega
    have := congrArg (fun n => n.testBit x) h
    simpa using this
  · intro h
    have : a &&& 2 ^ x = 0 := by
      apply Nat.eq_of_testBit_eq
      intro i
      rw [Nat.testBit_and, Nat.testBit_two_pow, Nat.zero_testBit]
      by_cases e : x = i
      · subst e; rw [h]; rfl
      · simp [e]
    rw [this]; rfl
theorem diff_zero {a b : Nat} (ha : a < 2 ^ 64) : (((diff a b : Nat) : Int) == 0) = true ↔ ∀ i, a.testBit i = true → b.testBit i = true := by
  rw [beq_iff_eq]
  constructor
  · intro h i hi
    have h0 : diff a b = 0 := by omega
    have := diff_bit (a := a) (b := b) ha i
    rw [h0, Nat.zero_testBit, hi] at this
    simpa using this.symm
  · intro h
    have : diff a b = 0 := by
      apply Nat.eq_of_testBit_eq
      intro i
      rw [diff_bit ha, Nat.zero_testBit]
      cases e : a.testBit i
      · rfl
      · rw [h i e]; rfl
    rw [this]; rfl
theorem befM_app {l : List Pq} {p : Pq} {x : Int} : befM (l ++ [p]) x = bif p.2 == x then befM l x ||| 1 <<< p.1.toNat else befM l x := by
  simp only [befM, List.foldl_append, List.foldl_cons, List.foldl_nil]
theorem befM_go {x : Int} {i : Nat} : ∀ (l : List Pq) (m : Nat), (∀ p ∈ l, 0 ≤ p.1) → (l.foldl (fun m p => bif p.2 == x then m ||| 1 <<< p.1.toNat else m) m).testBit i = (m.testBit i || setF l i x) := by
  intro l
  induction l with
  | nil => intro m _; simp [setF]
  | cons p l ih =>
    intro m hl
    have hp := hl p List.mem_cons_self
    rw [List.foldl_cons, ih _ fun q hq => hl q (List.mem_cons_of_mem _ hq)]
    have e : setF (p :: l) i x = ((p.1 == (i : Int) && p.2 == x) || setF l i x) := rfl
    rw [e, ← Bool.or_assoc]
    congr 1
    cases h : p.2 == x
    · rw [cond_false, Bool.and_false, Bool.or_false]
    · rw [cond_true, or_bit, Bool.and_true]
      congr 1
      rw [Bool.eq_iff_iff, decide_eq_true_eq, beq_iff_eq]
      omega
theorem befM_bit {l : List Pq} {x : Int} {i : Nat} (hl : ∀ p ∈ l, 0 ≤ p.1) : (befM l x).testBit i = setF l i x := by
  rw [befM, befM_go l 0 hl, Nat.zero_testBit, Bool.false_or]
theorem befM_lt {l : List Pq} {x : Int} {n : Nat} (hl : ∀ p ∈ l, 0 ≤ p.1 ∧ p.1 < (n : Int)) : befM l x < 2 ^ n := by
  apply Nat.lt_pow_two_of_testBit
  intro i hi
  rw [befM_bit fun p hp => (hl p hp).1, Bool.eq_false_iff]
  intro h
  have := hl _ (setF_iff.1 h)
  simp only at this
  omega
@[simp] theorem befL_len (n : Nat) (l : List Pq) : (befL n l).length = n := mkN_len _ _
theorem nthD_befL {n j : Nat} {l : List Pq} (h : j < n) : nthD 0 (befL n l) j = (befM l j : Int) := nthD_mkN _ _ h
theorem v33_eq (N : Int) (l : List Pq) : (fnVc (tab [kVal [], kAcy []] [(0, .of (lChk N l 24 3))]) Try.f33 [rlV N 0 l] [arP l] (resIs (posT (bif okP N l then N else 0) (errP N l) (bifU (okP N l) (befL N.toNat l)).length) 54 (bifU (okP N l) (befL N.toNat l)).length (usCols (bifU (okP N l) (befL N.toNat l))))) = (l.length = l.length ∧
 (psK l).length ≤
 (1099511627776 : Nat) ∧
 ((!validF N
 (psK l)) =
 true →
 (bifU (okP N l) (befL N.toNat l)).length = (0 : Nat) ∧
 (((0 : Int) = bif okP N l then N else (0 : Int)) ∧
 (bifU (okP N l) (befL N.toNat l)).length = (0 : Nat) ∧ True) ∧
 (1 : Int) = errP N l ∧ True) ∧
 ((!validF N
 (psK l)) =
 false →
 l.length = l.length ∧
 (psK l).length ≤
 (1099511627776 : Nat) ∧
 ((!(validF N
 (psK l) &&
 acyF N.toNat
 (wF
 (setF
 (psK l))
 N.toNat))) =
 true →
 (bifU (okP N l) (befL N.toNat l)).length = (0 : Nat) ∧
 (((0 : Int) = bif okP N l then N else (0 : Int)) ∧
 (bifU (okP N l) (befL N.toNat l)).length = (0 : Nat) ∧ True) ∧
 (20 : Int) = errP N l ∧ True) ∧
 ((!(validF N
 (psK l) &&
 acyF N.toNat
 (wF
 (setF
 (psK l))
 N.toNat))) =
 false →
 (0 : Int) ≤ N ∧
 N = N ∧
 (↑(8 : Nat) : Int) * N ≤ (281474976710656 : Int) ∧
 N ≤ (9223372036854775807 : Int) ∧
 ∃ (x : PUnit),
 (∃ (x : Nat),
 (x ≤ l.length ∧ True) ∧
 ((0 : Int) = (↑x : Int) ∧ True) ∧
 (N.toNat = N.toNat ∧
 (∀ (j : Nat),
 j < N.toNat → (0 : Int) = nthD (0 : Int) (befL N.toNat (List.take x l)) j) ∧
 True) ∧
 True) ∧
 ∀ (x_1 : Nat),
 x_1 ≤ l.length ∧ True →
 (decide ((↑x_1 : Int) < (↑l.length : Int)) = true →
 ((0 : Int) ≤ (↑x_1 : Int) ∧ (↑x_1 : Int) < (↑l.length : Int)) ∧
 x_1 < l.length ∧
 ((0 : Int) ≤ (nthD ((0 : Int), (0 : Int)) l x_1).snd ∧
 (nthD ((0 : Int), (0 : Int)) l x_1).snd < (↑N.toNat : Int)) ∧
 (nthD ((0 : Int), (0 : Int)) l x_1).snd.toNat < N.toNat ∧
 ((0 : Int) ≤ (nthD ((0 : Int), (0 : Int)) l x_1).fst ∧
 (nthD ((0 : Int), (0 : Int)) l x_1).fst ≤ (↑IntKind.u64.bits : Int)) ∧
 ((0 : Int) ≤ (nthD ((0 : Int), (0 : Int)) l x_1).snd ∧
 (nthD ((0 : Int), (0 : Int)) l x_1).snd < (↑N.toNat : Int)) ∧
 (nthD ((0 : Int), (0 : Int)) l x_1).snd.toNat < N.toNat ∧
 ∃ (x_2 : Nat),
 (x_2 ≤ l.length ∧ True) ∧
 ((PLoop.of (lChk N l (24 : Nat) (3 : Nat))).ann x).mu x_2 <
 ((PLoop.of (lChk N l (24 : Nat) (3 : Nat))).ann x).mu x_1 ∧
 ((N = N ∧ l.length = l.length) ∧
 True ∧
 True ∧
 (0 : Int) = (0 : Int) ∧
 True ∧
 (N = N ∧ l.length = l.length) ∧
 validF N
 (psK l) =
 validF N
 (psK l) ∧
 false = false ∧
 (N = N ∧ l.length = l.length) ∧
 (validF N
 (psK l) &&
 acyF N.toNat
 (wF
 (setF
 (psK l))
 N.toNat)) =
 (validF N
 (psK l) &&
 acyF N.toNat
 (wF
 (setF
 (psK l))
 N.toNat)) ∧
 false = false ∧
 True ∧
 N = N ∧
 True ∧
 N = N ∧
 N.toNat = N.toNat ∧
 (N = N ∧ N.toNat = N.toNat) ∧
 True ∧
 l.length = l.length ∧
 (↑l.length : Int) =
 (↑l.length : Int) ∧
 IntKind.i64.wrap
 ((↑x_1 : Int) +
 (1 : Int)) =
 (↑x_2 : Int) ∧
 True) ∧
 (l.length = l.length ∧
 (∀ (j : Nat),
 j < l.length →
 (nthD ((0 : Int), (0 : Int)) l j).fst =
 (nthD ((0 : Int), (0 : Int)) l j).fst) ∧
 (∀ (j : Nat),
 j < l.length →
 (nthD ((0 : Int), (0 : Int)) l j).snd =
 (nthD ((0 : Int), (0 : Int)) l j).snd) ∧
 True) ∧
 (N = N ∧ l.length = l.length) ∧
 ((0 : Int) = (0 : Int) ∧ True) ∧
 (N.toNat = N.toNat ∧
 (∀ (j : Nat),
 j < N.toNat →
 (bif
 j.beq
 (nthD ((0 : Int), (0 : Int)) l
 x_1).snd.toNat then
 bits BinOp.or IntKind.u64
 (nthD (0 : Int)
 (befL N.toNat (List.take x_1 l))
 (nthD ((0 : Int), (0 : Int)) l
 x_1).snd.toNat)
 (IntKind.u64.wrap
 ((1 : Int) *
 (2 : Int) ^
 (nthD ((0 : Int), (0 : Int)) l
 x_1).fst.toNat))
 else
 nthD (0 : Int)
 (befL N.toNat (List.take x_1 l)) j) =
 nthD (0 : Int)
 (befL N.toNat (List.take x_2 l)) j) ∧
 True) ∧
 (N = N ∧ N.toNat = N.toNat) ∧ True) ∧
 (decide ((↑x_1 : Int) < (↑l.length : Int)) = false →
 N.toNat = (bifU (okP N l) (befL N.toNat l)).length ∧
 ((∀ (j : Nat),
 j < (bifU (okP N l) (befL N.toNat l)).length →
 nthD (0 : Int) (befL N.toNat (List.take x_1 l)) j =
 nthD (0 : Int) (bifU (okP N l) (befL N.toNat l)) j) ∧
 True) ∧
 ((N = bif okP N l then N else (0 : Int)) ∧
 N.toNat = (bifU (okP N l) (befL N.toNat l)).length ∧ True) ∧
 (0 : Int) = errP N l ∧ True)))) := by kernel_rfl
theorem v33 (N : Int) (l : List Pq) (hl : L9 l) : fnVc (tab [kVal [], kAcy []] [(0, .of (lChk N l 24 3))]) Try.f33 [rlV N 0 l] [arP l] (resIs (posT (bif okP N l then N else 0) (errP N l) (bifU (okP N l) (befL N.toNat l)).length) 54 (bifU (okP N l) (befL N.toNat l)).length (usCols (bifU (okP N l) (befL N.toNat l)))) := by
  rw [v33_eq]
  simp only [eq_self, true_and, and_true, implies_true, imp_self, psK_eq, mkN_ps, mkN_rs, mkN_self, mkN_len, PLoop.of, lCnt, AV.len, lChk]
  refine ⟨hl, fun h => ?_, fun h => ⟨hl, fun h' => ?_, fun h' => ?_⟩⟩
  · have hv : validF N l = false := by simpa using h
    simp [hv, bifU, okP, errP]
  · have hv : validF N l = true := by simpa using h
    have hc : acy N l = false := by rw [hv] at h'; simpa [acy] using h'
    simp [hv, hc, bifU, okP, errP]
  · have hv : validF N l = true := by simpa using h
    have hc : acy N l = true := by rw [hv] at h'; simpa [acy] using h'
    have hok : okP N l = true := by rw [okP, hv, hc]; rfl
    have her : errP N l = 0 := by rw [errP, hv, hc]; rfl
    obtain ⟨q1, q2, q3⟩ := validF_iff.1 hv
    rw [hok, her]
    simp only [bifU, cond_true, befL_len]
    refine ⟨q1, by omega, by omega, (), ⟨0, by omega, rfl, fun j hj => ?_⟩, fun i hi => ⟨fun hlt => ?_, fun hlt => ?_⟩⟩
    · rw [nthD_befL hj]; rfl
    · have hi2 := lt_len hlt
      obtain ⟨p1, p2, p3, p4⟩ := q3 _ (nth_mem hi2)
      have hb : ((IntKind.u64.bits : Nat) : Int) = 64 := rfl
      refine ⟨bd hi2, hi2, by omega, by omega, by omega, by omega, by omega, i + 1, by omega, by omega, w64_sub (by omega) hl, fun j hj => ?_⟩
      rw [nthD_befL hj, nthD_befL (by omega), nthD_befL hj, take_succ' (0, 0) hi2, befM_app]
      generalize hpp : nthD (0, 0) l i = p at *
      obtain ⟨x, y⟩ := p
      simp only at p1 p2 p3 p4 ⊢
      obtain ⟨x, rfl⟩ := Int.eq_ofNat_of_zero_le p1
      obtain ⟨y, rfl⟩ := Int.eq_ofNat_of_zero_le p3
      simp only [Int.toNat_natCast]
      have hlt2 : befM (l.take i) y < 2 ^ 64 := Nat.lt_of_lt_of_le (befM_lt (n := N.toNat) fun p hp => by have := q3 p (List.mem_of_mem_take hp); omega) (Nat.pow_le_pow_right (by omega) (by omega))
      by_cases e : j = y
      · subst e
        rw [beq_t, cond_true, wrap_shl (by omega), bits_or hlt2 (one_lt (by omega))]
        simp
      · have : ((y : Int) == (j : Int)) = false := by rw [beq_eq_false_iff_ne]; omega
        rw [beq_f e, cond_false, this, cond_false]
    · have hi2 := ge_len hlt hi
      rw [hi2, List.take_length]
      simp
theorem v34_eq (N : Int) (B : List Int) (s x : Int) : (fnVc (tab [] []) Try.f34 [poV N 0 B, .i .u64 s, .i .i64 x] [arU B] (plainIs (.b (frR B s x)))) = (((0 : Int) ≤ x ∧ x ≤ (↑IntKind.u64.bits : Int)) ∧
 ((bits BinOp.and IntKind.u64 s (IntKind.u64.wrap ((1 : Int) * (2 : Int) ^ x.toNat)) == (0 : Int)) = true →
 (0 : Int) ≤ x ∧ x < (↑B.length : Int)) ∧
 ((bits BinOp.and IntKind.u64 s (IntKind.u64.wrap ((1 : Int) * (2 : Int) ^ x.toNat)) == (0 : Int)) = true →
 x.toNat < B.length) ∧
 (bits BinOp.and IntKind.u64 s (IntKind.u64.wrap ((1 : Int) * (2 : Int) ^ x.toNat)) == (0 : Int) &&
 bits BinOp.andNot IntKind.u64 (nthD (0 : Int) B x.toNat) s == (0 : Int)) =
 frR B s x) := by kernel_rfl
theorem v34 (N : Int) (B : List Int) (s x : Int) (hx : 0 ≤ x ∧ x < 64) (hB : x < (B.length : Int)) : fnVc (tab [] []) Try.f34 [poV N 0 B, .i .u64 s, .i .i64 x] [arU B] (plainIs (.b (frR B s x))) := by
  rw [v34_eq]
  have hb : ((IntKind.u64.bits : Nat) : Int) = 64 := rfl
  refine ⟨by omega, fun _ => by omega, fun _ => by omega, rfl⟩
theorem fo33 : fnOk Try.prog 33 := ⟨Try.f33, Try.func33, by kernel_rfl, by kernel_rfl⟩
theorem fo34 : fnOk Try.prog 34 := ⟨Try.f34, Try.func34, by kernel_rfl, by kernel_rfl⟩
def t33 : List AV → Tab
  | [.r N l] => tab [kVal [], kAcy []] [(0, .of (lChk N l 24 3))]
  | _ => tab [] []
theorem c33 : CallOk Try.prog [] 33 (genF EL [] [.r] sChk) := by
  refine okT (fn := Try.f33) Try.func33 fo33 t33 (fun av => ?_) (fun av => ?_) (fun av pre rv h => ?_) (fun av pre rv h hp => ?_)
  · unfold t33; split <;> first | exact tabOk (mOne (n37 _) (mOne (n47 _) mNil)) | exact tabOk mNil
  · unfold t33; split <;> exact ⟨rfl, rfl⟩
  · unfold sChk at h; split at h <;> cases h
    exact ⟨rfl, fun t a e => by cases e <;> exact List.cons_ne_nil _ _⟩
  · unfold sChk at h; split at h <;> cases h
    exact v33 _ _ (hp _ (.head _))
theorem n33 (nm : List (Option AV)) : CallOk Try.prog [] 33 (genF EL nm [.r] sChk) := genNm c33
def t34 : List AV → Tab
  | [.po N B, .u s, .i x] => tab [] []
  | _ => tab [] []
theorem c34 : CallOk Try.prog [] 34 (genF EL [] [.po, .u, .i] sFre) := by
  refine okT (fn := Try.f34) Try.func34 fo34 t34 (fun av => ?_) (fun av => ?_) (fun av pre rv h => ?_) (fun av pre rv h hp => ?_)
  · unfold t34; split <;> first | exact tabOk mNil | exact tabOk mNil
  · unfold t34; split <;> exact ⟨rfl, rfl⟩
  · unfold sFre at h; split at h <;> cases h
    exact ⟨rfl, fun t a e => by cases e <;> exact List.cons_ne_nil _ _⟩
  · unfold sFre at h; split at h <;> cases h
    exact v34 _ _ _ _ (hp _ (.head _)) (hp _ (.tail _ (.head _)))
theorem n34 (nm : List (Option AV)) : CallOk Try.prog [] 34 (genF EL nm [.po, .u, .i] sFre) := genNm c34
end Go.Proofs.Ytiokmglajigngaa
namespace Go.Proofs.Ytiokmglajigngaa
open Go Go.Proofs.Ytiokmglajigngaa.Sx
def posI (n : Int) : List Int → Int → Int
  | [], _ => -1
  | x :: r, i => bif x == n then i else posI n r (i + 1)
def hasI (pre : List Int) (x : Int) : Bool := pre.any (fun y => y == x)
/-- x can follow the prefix. -/
def okN (l : List Pq) (pre : List Int) (x : Int) : Bool := !hasI pre x && l.all (fun p => !(p.2 == x && !hasI pre p.1))
def nxtK (l : List Pq) (pre : List Int) (k : Nat) : List Int := ((List.range k).filter (fun x : Nat => okN l pre x)).map (fun x : Nat => (x : Int))
def nxtL (N : Int) (l : List Pq) (pre : List Int) : List Int := nxtK l pre N.toNat
def hdN (N : Int) (l : List Pq) (pre : List Int) : Int := nthD 0 (nxtL N l pre) 0
/-- The smallest extension's prefix of k elements. -/
def rfL (N : Int) (l : List Pq) : Nat → List Int
  | 0 => []
  | k + 1 => rfL N l k ++ [hdN N l (rfL N l k)]
def fstL (N : Int) (l : List Pq) : List Int := bif okP N l then rfL N l N.toNat else []
def maskM (pre : List Int) : Nat := pre.foldl (fun m x => m ||| 1 <<< x.toNat) 0
def sPos : Sp := fun | [.is l, .i n] => some ([L9 l], .pl (.i .i64 (posI n l 0))) | _ => none
def sNxt : Sp := fun | [.r N l, .is pre] => some ([validF N l = true, L9 l, L9 pre], .sl (fun k => .sl 0 k) (.is (nxtL N l pre))) | _ => none
def sWro : Sp := fun | [.r N l] => some ([L9 l], .pl (.i .i64 (errP N l))) | _ => none
def sFst : Sp := fun | [.r N l] => some ([L9 l], .sl (fun k => .tup [.sl 0 k, .i .i64 (errP N l)]) (.is (fstL N l))) | _ => none
def sFew : Sp := fun | [.r N l, .i n] => some ([], .pl (.b (decide (N ≤ n) && decide ((l.length : Int) ≤ 60)))) | _ => none
def kPos (nm : List (Option AV)) : Nat × (List MBlk → List SV → Option AR) := (38, genF EL nm [.is, .i] sPos)
def kNxt (nm : List (Option AV)) : Nat × (List MBlk → List SV → Option AR) := (36, genF EL nm [.r, .is] sNxt)
def kWro (nm : List (Option AV)) : Nat × (List MBlk → List SV → Option AR) := (35, genF EL nm [.r] sWro)
def kFst (nm : List (Option AV)) : Nat × (List MBlk → List SV → Option AR) := (14, genF EL nm [.r] sFst)
def kFst' (nm : List (Option AV)) : Nat × (List MBlk → List SV → Option AR) := (15, genF EL nm [.r] sFst)
def kFew (nm : List (Option AV)) : Nat × (List MBlk → List SV → Option AR) := (12, genF EL nm [.r, .i] sFew)
def ownI (e : Nat) (l : List Int) : Nat × MBlk := (e, .oarr 3 l.length (isCols l))
def lPos (l : List Int) (n : Int) (t : Nat) : LAnn := lCnt l.length t (fun i => posI n (l.drop i) i = posI n l 0) (fun _ => []) []
def lNx0 (N : Int) (l : List Pq) (pre : List Int) (t v e : Nat) : LAnn := ⟨Nat, fun k => k ≤ N.toNat, fun k => [(t, .i .i64 (k : Int)), (v, .sl e (nxtK l pre k).length)], fun k => [ownI e (nxtK l pre k)], fun k => N.toNat - k, [e], []⟩
def lNx1 (l : List Pq) (pre : List Int) (t v : Nat) : PLoop := ⟨Nat, fun x => ⟨Nat, fun i => i ≤ l.length, fun i => [(t, .i .i64 (i : Int)), (v, .b (!hasI pre x && (l.take i).all (fun p => !(p.2 == (x : Int) && !hasI pre p.1))))], fun _ => [], fun i => l.length - i, [], []⟩⟩
def lFs0 (N : Int) (l : List Pq) (v s e : Nat) : LAnn := ⟨Nat, fun k => k ≤ N.toNat, fun k => [(v, .sl e (rfL N l k).length), (s, .i .u64 (maskM (rfL N l k) : Int))], fun k => [ownI e (rfL N l k)], fun k => N.toNat - k, [e], []⟩
def lFs1 (N : Int) (l : List Pq) (t v s e : Nat) : PLoop := ⟨Nat, fun k => ⟨Nat, fun x => x ≤ N.toNat ∧ k < N.toNat ∧ (List.range x).all (fun y => !okN l (rfL N l k) y) = true, fun x => [(t, .i .i64 (x : Int)), (v, .sl e (rfL N l k).length), (s, .i .u64 (maskM (rfL N l k) : Int))], fun _ => [], fun x => N.toNat - x, [], []⟩⟩
def lFr0 (N : Int) (l : List Pq) (v e : Nat) : LAnn := ⟨Nat, fun k => k ≤ N.toNat, fun k => [(v, .sl e (rfL N l k).length)], fun k => [ownI e (rfL N l k)], fun k => N.toNat - k, [e], []⟩
end Go.Proofs.Ytiokmglajigngaa
