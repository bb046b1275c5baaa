/-
  A part of the proof (V34).
-/
import Derived.Test.YtiokmglajigngaaVM31
namespace Go.Proofs.Ytiokmglajigngaa
open Go Go.Proofs.Ytiokmglajigngaa.Sx
set_option maxRecDepth 100000
set_option linter.unusedSimpArgs false
set_option linter.unusedVariables false

/-! ### One pair more -/
theorem few_tP {N n : Int} {l : List Pq} (h : (!(decide (N ≤ n) && decide ((l.length : Int) ≤ 60))) = false) : N ≤ n ∧ l.length ≤ 60 := by
  have h : (decide (N ≤ n) && decide ((l.length : Int) ≤ 60)) = true := by simpa using h
  rw [Bool.and_eq_true] at h
  have h1 := of_decide_eq_true h.1
  have h2 := of_decide_eq_true h.2
  omega
theorem ok_tP {N : Int} {l : List Pq} (h2 : (!(validF N l && acyF N.toNat (wF (setF l) N.toNat))) = false) : okP N l = true := by
  have h2 : (validF N l && acyF N.toNat (wF (setF l) N.toNat)) = true := by simpa using h2
  exact h2
theorem wF_le {f g : Pf} (h : ∀ a b, f a b = true → g a b = true) : ∀ (n : Nat) (a b : Int), wF f n a b = true → wF g n a b = true := by
  intro n
  induction n with
  | zero => exact h
  | succ n ih =>
    intro a b e
    have e : (wF f n a b || wF f n a n && wF f n n b) = true := e
    show (wF g n a b || wF g n a n && wF g n n b) = true
    rw [Bool.or_eq_true, Bool.and_eq_true] at e ⊢
    exact e.imp (ih a b) (fun p => ⟨ih _ _ p.1, ih _ _ p.2⟩)
theorem okP_sub {N : Int} {l S : List Pq} (h : ∀ p ∈ l, p ∈ S) (hS : okP N S = true) : okP N l = true := by
  rw [okP, Bool.and_eq_true] at hS ⊢
  obtain ⟨q1, q2, q3⟩ := validF_iff.1 hS.1
  refine ⟨validF_iff.2 ⟨q1, q2, fun p hp => q3 p (h p hp)⟩, ?_⟩
  have h2 := hS.2
  rw [acy, acyF, List.all_eq_true] at h2 ⊢
  intro a ha
  have := h2 a ha
  rw [Bool.not_eq_true'] at this ⊢
  cases e : wF (setF l) N.toNat a a
  · rfl
  · rw [wF_le (fun a b e => setF_iff.2 (h _ (setF_iff.1 e))) _ _ _ e] at this
    cases this
theorem fr_sub {N : Int} {l S : List Pq} (h : ∀ p ∈ l, p ∈ S) (hS : okP N S = true) {s x : Nat} (hs : s < 2 ^ 64) (hx : x < N.toNat) (hf : frR (befL N.toNat S) s x = true) : frR (befL N.toNat l) s x = true := by
  have hl := okP_sub h hS
  rw [okP, Bool.and_eq_true] at hS hl
  obtain ⟨h1, h2⟩ := (fr_iff hS.1 hs hx).1 hf
  exact (fr_iff hl.1 hs hx).2 ⟨h1, fun a ha => h2 a (h _ ha)⟩
theorem or_lt64 {s x : Nat} (hs : s < 2 ^ 64) (hx : x < 64) : s ||| 2 ^ x < 2 ^ 64 := Nat.or_lt_two_pow hs (Nat.pow_lt_pow_right (by omega) hx)
theorem sum_le {B C : List Int} {s : Nat} {c d : Nat → Nat} : ∀ n : Nat, (∀ x : Nat, x < n → frR B s x = true → frR C s x = true ∧ c (s ||| 2 ^ x) ≤ d (s ||| 2 ^ x)) → sumF B s c n ≤ sumF C s d n := by
  intro n
  induction n with
  | zero => intro _; exact Nat.le_refl _
  | succ n ih =>
    intro h
    rw [sumF, sumF]
    refine Nat.add_le_add (ih fun x hx => h x (by omega)) ?_
    cases e : frR B s n
    · exact Nat.zero_le _
    · obtain ⟨h1, h2⟩ := h n (by omega) e
      rw [h1]; exact h2
theorem cmp_sub {N : Int} {l S : List Pq} (h : ∀ p ∈ l, p ∈ S) (hS : okP N S = true) : ∀ (k s : Nat), s < 2 ^ 64 → cmpF (befL N.toNat S) k s ≤ cmpF (befL N.toNat l) k s := by
  have hN : N ≤ 64 := by rw [okP, Bool.and_eq_true] at hS; exact (validF_iff.1 hS.1).2.1
  intro k
  induction k with
  | zero => intro s _; exact Nat.le_refl _
  | succ k ih =>
    intro s hs
    rw [cmpF, cmpF, befL_len, befL_len]
    exact sum_le _ fun x hx hf => ⟨fr_sub h hS hs hx hf, ih _ (or_lt64 hs (show x < 64 by omega))⟩
theorem ds_sub {N : Int} {l S : List Pq} (h : ∀ p ∈ l, p ∈ S) (hS : okP N S = true) (hok : okD (befL N.toNat l) = true) : (dsE (befL N.toNat S)).length ≤ (dsE (befL N.toNat l)).length := by
  have hN : N ≤ 64 := by rw [okP, Bool.and_eq_true] at hS; exact (validF_iff.1 hS.1).2.1
  refine len_subD _ _ dsE_nodup fun m hm => ?_
  unfold dsE at hm
  rw [befL_len] at hm
  refine dsI_ind (Q := fun m => m ∈ dsE (befL N.toNat l)) zero_mem (fun s x hs hq hx hf => ?_) _ m hm
  exact dsE_step (by rw [befL_len]; omega) hok hq (by rw [befL_len]; exact hx) (fr_sub h hS (Nat.lt_of_lt_of_le hs (Nat.pow_le_pow_right (by omega) (by omega))) hx hf)
theorem pair_le {N : Int} {l S : List Pq} (h : ∀ p ∈ l, p ∈ S) (hS : okP N S = true) (hN : N ≤ 9) :
    (cntE N l == 0 && cntE N S == 0 && dwnE N l == 0 && dwnE N S == 0 && decide ((1 : Int) ≤ (cntV N S : Int)) && decide ((cntV N S : Int) ≤ (cntV N l : Int)) && decide ((dwnV N S : Int) ≤ (dwnV N l : Int))) = true := by
  have hl := okP_sub h hS
  obtain ⟨el, _, nl, _, _⟩ := befP_ok hl
  obtain ⟨eS, _, nS, _, _⟩ := befP_ok hS
  have cl := okC_small (B := befP N l) (by omega)
  have cS := okC_small (B := befP N S) (by omega)
  have dl := okD_small (B := befP N l) (by omega)
  have dS := okD_small (B := befP N S) (by omega)
  have hpos := cmp_pos0 (N := N) (l := S) ⟨hS, dS⟩
  have h1 : cmp (befP N S) 0 ≤ cmp (befP N l) 0 := by
    have := cmp_sub h hS N.toNat 0 (by omega)
    rw [cmp, cmp, siz_zero, nl, nS, eS, el]
    exact this
  have h2 : (dsE (befP N S)).length ≤ (dsE (befP N l)).length := by
    have := ds_sub h hS (by rw [← el]; exact dl)
    rw [← el, ← eS] at this
    exact this
  have vl : cntV N l = cmp (befP N l) 0 := by rw [cntV, hl, cl]; rfl
  have vS : cntV N S = cmp (befP N S) 0 := by rw [cntV, hS, cS]; rfl
  have e1 : cntE N l = 0 := by rw [cntE, hl, errC_ok cl]; rfl
  have e2 : cntE N S = 0 := by rw [cntE, hS, errC_ok cS]; rfl
  have o1 := dsO_ok dl
  have o2 := dsO_ok dS
  have e3 : dwnE N l = 0 := by rw [dwnE, hl, o1.2.1]; rfl
  have e4 : dwnE N S = 0 := by rw [dwnE, hS, o2.2.1]; rfl
  have w1 : dwnV N l = (dsE (befP N l)).length := by rw [dwnV, hl, o1.1, cond_true, toI, List.length_map]
  have w2 : dwnV N S = (dsE (befP N S)).length := by rw [dwnV, hS, o2.1, cond_true, toI, List.length_map]
  rw [e1, e2, e3, e4, vl, vS, w1, w2, decide_eq_true (show (1 : Int) ≤ (cmp (befP N S) 0 : Int) by omega), decide_eq_true (show (cmp (befP N S) 0 : Int) ≤ (cmp (befP N l) 0 : Int) by omega), decide_eq_true (show ((dsE (befP N S)).length : Int) ≤ ((dsE (befP N l)).length : Int) by omega)]
  rfl
theorem ap1P (l : List Pq) (x y : Int) : mkN (fun j => (bif Nat.blt j l.length then (nthD ((0 : Int), (0 : Int)) l j).fst else pickI [x] (j - l.length), bif Nat.blt j l.length then (nthD ((0 : Int), (0 : Int)) l j).snd else pickI [y] (j - l.length))) (l.length + 1) = l ++ [(x, y)] := by
  conv => rhs; rw [← mkN_ps (l ++ [(x, y)])]
  rw [List.length_append, List.length_singleton]
  refine mkN_congr fun j hj => ?_
  have e1 := ap1 (fun p => p.1) l (x, y) j (by rw [List.length_append, List.length_singleton]; exact hj)
  have e2 := ap1 (fun p => p.2) l (x, y) j (by rw [List.length_append, List.length_singleton]; exact hj)
  exact Prod.ext e1 e2
theorem pair_C {N : Int} {l S : List Pq} {x y : Int} (hS : S = l ++ [(x, y)]) (h9 : S.length * 16 ≤ 140737488355328) : ((!(decide (N ≤ (9 : Int)) && decide ((l.length : Int) ≤ 60))) = false → S.length ≤ 1099511627776) ∧ ((!(decide (N ≤ (9 : Int)) && decide ((l.length : Int) ≤ 60)) || !validF N S || !(validF N S && acyF N.toNat (wF (setF S) N.toNat))) = false → l.length ≤ 1099511627776 ∧ S.length ≤ 1099511627776 ∧
    (cntE N l == 0 && cntE N S == 0 && dwnE N l == 0 && dwnE N S == 0 && decide ((1 : Int) ≤ (cntV N S : Int)) && decide ((cntV N S : Int) ≤ (cntV N l : Int)) && decide ((dwnV N S : Int) ≤ (dwnV N l : Int))) = true) := by
  have hl : S.length = l.length + 1 := by rw [hS]; simp
  refine ⟨fun h => by have := few_tP h; omega, fun h => ?_⟩
  rw [Bool.or_eq_false_iff, Bool.or_eq_false_iff] at h
  have hf := few_tP h.1.1
  exact ⟨by omega, by omega, pair_le (fun p hp => by rw [hS]; exact List.mem_append_left _ hp) (ok_tP h.2) hf.1⟩
theorem v8_eq (N : Int) (l : List Pq) (x y : Int) (S : List Pq) : (fnVc (tab [kFew [], kVal' [none, none, some (.ps S)], kAcy' [none, none, some (.ps S)], kAwk [], kCnt [none, none, some (.ps S)], kDws [none, none, some (.ps S)]] []) Try.f8 [rlV N 0 l, .i .i64 x, .i .i64 y] [arP l] (plainIs .tt)) = (((0 : Nat) = (0 : Nat) ∧
 l.length = l.length ∧
 ((0 : Nat) + l.length) * (16 : Nat) ≤ (140737488355328 : Nat) ∧
 (0 : Nat) + l.length ≤ (9223372036854775807 : Nat) ∧
 (0 : Nat) + l.length = (0 : Nat) + l.length ∧
 (1 : Nat) = (1 : Nat) ∧
 ((0 : Nat) + l.length + (1 : Nat)) * (16 : Nat) ≤ (140737488355328 : Nat) ∧
 (0 : Nat) + l.length + (1 : Nat) ≤ (9223372036854775807 : Nat) ∧
 l.length = l.length ∧
 ((!(decide (N ≤ (9 : Int)) &&
 decide
 ((↑(mkN
 (fun (j : Nat) =>
 ((nthD ((0 : Int), (0 : Int)) l j).fst,
 (nthD ((0 : Int), (0 : Int)) l j).snd))
 l.length).length :
 Int) ≤
 (60 : Int)))) =
 false →
 (0 : Nat) + l.length + (1 : Nat) = (0 : Nat) + l.length + (1 : Nat)) ∧
 ((!(decide (N ≤ (9 : Int)) &&
 decide
 ((↑(mkN
 (fun (j : Nat) =>
 ((nthD ((0 : Int), (0 : Int)) l j).fst,
 (nthD ((0 : Int), (0 : Int)) l j).snd))
 l.length).length :
 Int) ≤
 (60 : Int)))) =
 false →
 mkN
 (fun (j : Nat) =>
 (bif j.blt ((0 : Nat) + l.length) then (nthD ((0 : Int), (0 : Int)) l j).fst
 else pickI [x] (j - ((0 : Nat) + l.length)),
 bif j.blt ((0 : Nat) + l.length) then (nthD ((0 : Int), (0 : Int)) l j).snd
 else pickI [y] (j - ((0 : Nat) + l.length))))
 ((0 : Nat) + l.length + (1 : Nat)) =
 S) ∧
 ((!(decide (N ≤ (9 : Int)) &&
 decide
 ((↑(mkN
 (fun (j : Nat) =>
 ((nthD ((0 : Int), (0 : Int)) l j).fst,
 (nthD ((0 : Int), (0 : Int)) l j).snd))
 l.length).length :
 Int) ≤
 (60 : Int)))) =
 false →
 S.length ≤ (1099511627776 : Nat)) ∧
 ((!(decide (N ≤ (9 : Int)) &&
 decide
 ((↑(mkN
 (fun (j : Nat) =>
 ((nthD ((0 : Int), (0 : Int)) l j).fst,
 (nthD ((0 : Int), (0 : Int)) l j).snd))
 l.length).length :
 Int) ≤
 (60 : Int))) ||
 !validF N S) =
 false →
 (0 : Nat) + l.length + (1 : Nat) = (0 : Nat) + l.length + (1 : Nat)) ∧
 ((!(decide (N ≤ (9 : Int)) &&
 decide
 ((↑(mkN
 (fun (j : Nat) =>
 ((nthD ((0 : Int), (0 : Int)) l j).fst,
 (nthD ((0 : Int), (0 : Int)) l j).snd))
 l.length).length :
 Int) ≤
 (60 : Int))) ||
 !validF N S) =
 false →
 mkN
 (fun (j : Nat) =>
 (bif j.blt ((0 : Nat) + l.length) then (nthD ((0 : Int), (0 : Int)) l j).fst
 else pickI [x] (j - ((0 : Nat) + l.length)),
 bif j.blt ((0 : Nat) + l.length) then (nthD ((0 : Int), (0 : Int)) l j).snd
 else pickI [y] (j - ((0 : Nat) + l.length))))
 ((0 : Nat) + l.length + (1 : Nat)) =
 S) ∧
 ((!(decide (N ≤ (9 : Int)) &&
 decide
 ((↑(mkN
 (fun (j : Nat) =>
 ((nthD ((0 : Int), (0 : Int)) l j).fst,
 (nthD ((0 : Int), (0 : Int)) l j).snd))
 l.length).length :
 Int) ≤
 (60 : Int))) ||
 !validF N S) =
 false →
 S.length ≤ (1099511627776 : Nat)) ∧
 ((!(decide (N ≤ (9 : Int)) &&
 decide
 ((↑(mkN
 (fun (j : Nat) =>
 ((nthD ((0 : Int), (0 : Int)) l j).fst,
 (nthD ((0 : Int), (0 : Int)) l j).snd))
 l.length).length :
 Int) ≤
 (60 : Int))) ||
 !validF N S ||
 !(validF N S && acyF N.toNat (wF (setF S) N.toNat))) =
 true →
 true = true) ∧
 ((!(decide (N ≤ (9 : Int)) &&
 decide
 ((↑(mkN
 (fun (j : Nat) =>
 ((nthD ((0 : Int), (0 : Int)) l j).fst,
 (nthD ((0 : Int), (0 : Int)) l j).snd))
 l.length).length :
 Int) ≤
 (60 : Int))) ||
 !validF N S ||
 !(validF N S && acyF N.toNat (wF (setF S) N.toNat))) =
 false →
 l.length = l.length ∧
 (mkN
 (fun (j : Nat) =>
 ((nthD ((0 : Int), (0 : Int)) l j).fst,
 (nthD ((0 : Int), (0 : Int)) l j).snd))
 l.length).length ≤
 (1099511627776 : Nat) ∧
 (0 : Nat) + l.length + (1 : Nat) = (0 : Nat) + l.length + (1 : Nat) ∧
 mkN
 (fun (j : Nat) =>
 (bif j.blt ((0 : Nat) + l.length) then
 (nthD ((0 : Int), (0 : Int)) l j).fst
 else pickI [x] (j - ((0 : Nat) + l.length)),
 bif j.blt ((0 : Nat) + l.length) then
 (nthD ((0 : Int), (0 : Int)) l j).snd
 else pickI [y] (j - ((0 : Nat) + l.length))))
 ((0 : Nat) + l.length + (1 : Nat)) =
 S ∧
 S.length ≤ (1099511627776 : Nat) ∧
 l.length = l.length ∧
 (mkN
 (fun (j : Nat) =>
 ((nthD ((0 : Int), (0 : Int)) l j).fst,
 (nthD ((0 : Int), (0 : Int)) l j).snd))
 l.length).length ≤
 (1099511627776 : Nat) ∧
 (0 : Nat) + l.length + (1 : Nat) = (0 : Nat) + l.length + (1 : Nat) ∧
 mkN
 (fun (j : Nat) =>
 (bif j.blt ((0 : Nat) + l.length) then
 (nthD ((0 : Int), (0 : Int)) l j).fst
 else pickI [x] (j - ((0 : Nat) + l.length)),
 bif j.blt ((0 : Nat) + l.length) then
 (nthD ((0 : Int), (0 : Int)) l j).snd
 else pickI [y] (j - ((0 : Nat) + l.length))))
 ((0 : Nat) + l.length + (1 : Nat)) =
 S ∧
 S.length ≤ (1099511627776 : Nat) ∧
 (cntE N
 (mkN
 (fun (j : Nat) =>
 ((nthD ((0 : Int), (0 : Int)) l j).fst,
 (nthD ((0 : Int), (0 : Int)) l j).snd))
 l.length) ==
 (0 : Int) &&
 cntE N S == (0 : Int) &&
 dwnE N
 (mkN
 (fun (j : Nat) =>
 ((nthD ((0 : Int), (0 : Int)) l j).fst,
 (nthD ((0 : Int), (0 : Int)) l j).snd))
 l.length) ==
 (0 : Int) &&
 dwnE N S == (0 : Int) &&
 decide ((1 : Int) ≤ (↑(cntV N S) : Int)) &&
 decide
 ((↑(cntV N S) : Int) ≤
 (↑(cntV N
 (mkN
 (fun (j : Nat) =>
 ((nthD ((0 : Int), (0 : Int)) l j).fst,
 (nthD ((0 : Int), (0 : Int)) l j).snd))
 l.length)) :
 Int)) &&
 decide
 ((↑(dwnV N S) : Int) ≤
 (↑(dwnV N
 (mkN
 (fun (j : Nat) =>
 ((nthD ((0 : Int), (0 : Int)) l j).fst,
 (nthD ((0 : Int), (0 : Int)) l j).snd))
 l.length)) :
 Int))) =
 true)) ∧
 ((0 : Nat) = (0 : Nat) ∧
 l.length = l.length ∧
 ((0 : Nat) + l.length) * (16 : Nat) ≤ (140737488355328 : Nat) ∧
 (0 : Nat) + l.length ≤ (9223372036854775807 : Nat) ∧
 (0 : Nat) + l.length = (0 : Nat) + l.length ∧
 (1 : Nat) = (1 : Nat) ∧
 ((0 : Nat) + l.length + (1 : Nat)) * (16 : Nat) ≤ (140737488355328 : Nat) ∧
 (0 : Nat) + l.length + (1 : Nat) ≤ (9223372036854775807 : Nat) ∧
 l.length = l.length ∧
 ((!(decide (N ≤ (9 : Int)) &&
 decide
 ((↑(mkN
 (fun (j : Nat) =>
 ((nthD ((0 : Int), (0 : Int)) l j).fst,
 (nthD ((0 : Int), (0 : Int)) l j).snd))
 l.length).length :
 Int) ≤
 (60 : Int)))) =
 false →
 (0 : Nat) + l.length + (1 : Nat) = (0 : Nat) + l.length + (1 : Nat)) ∧
 ((!(decide (N ≤ (9 : Int)) &&
 decide
 ((↑(mkN
 (fun (j : Nat) =>
 ((nthD ((0 : Int), (0 : Int)) l j).fst,
 (nthD ((0 : Int), (0 : Int)) l j).snd))
 l.length).length :
 Int) ≤
 (60 : Int)))) =
 false →
 mkN
 (fun (j : Nat) =>
 (bif j.blt ((0 : Nat) + l.length) then (nthD ((0 : Int), (0 : Int)) l j).fst
 else pickI [x] (j - ((0 : Nat) + l.length)),
 bif j.blt ((0 : Nat) + l.length) then (nthD ((0 : Int), (0 : Int)) l j).snd
 else pickI [y] (j - ((0 : Nat) + l.length))))
 ((0 : Nat) + l.length + (1 : Nat)) =
 S) ∧
 ((!(decide (N ≤ (9 : Int)) &&
 decide
 ((↑(mkN
 (fun (j : Nat) =>
 ((nthD ((0 : Int), (0 : Int)) l j).fst,
 (nthD ((0 : Int), (0 : Int)) l j).snd))
 l.length).length :
 Int) ≤
 (60 : Int)))) =
 false →
 S.length ≤ (1099511627776 : Nat)) ∧
 ((!(decide (N ≤ (9 : Int)) &&
 decide
 ((↑(mkN
 (fun (j : Nat) =>
 ((nthD ((0 : Int), (0 : Int)) l j).fst,
 (nthD ((0 : Int), (0 : Int)) l j).snd))
 l.length).length :
 Int) ≤
 (60 : Int))) ||
 !validF N S) =
 false →
 (0 : Nat) + l.length + (1 : Nat) = (0 : Nat) + l.length + (1 : Nat)) ∧
 ((!(decide (N ≤ (9 : Int)) &&
 decide
 ((↑(mkN
 (fun (j : Nat) =>
 ((nthD ((0 : Int), (0 : Int)) l j).fst,
 (nthD ((0 : Int), (0 : Int)) l j).snd))
 l.length).length :
 Int) ≤
 (60 : Int))) ||
 !validF N S) =
 false →
 mkN
 (fun (j : Nat) =>
 (bif j.blt ((0 : Nat) + l.length) then (nthD ((0 : Int), (0 : Int)) l j).fst
 else pickI [x] (j - ((0 : Nat) + l.length)),
 bif j.blt ((0 : Nat) + l.length) then (nthD ((0 : Int), (0 : Int)) l j).snd
 else pickI [y] (j - ((0 : Nat) + l.length))))
 ((0 : Nat) + l.length + (1 : Nat)) =
 S) ∧
 ((!(decide (N ≤ (9 : Int)) &&
 decide
 ((↑(mkN
 (fun (j : Nat) =>
 ((nthD ((0 : Int), (0 : Int)) l j).fst,
 (nthD ((0 : Int), (0 : Int)) l j).snd))
 l.length).length :
 Int) ≤
 (60 : Int))) ||
 !validF N S) =
 false →
 S.length ≤ (1099511627776 : Nat)) ∧
 ((!(decide (N ≤ (9 : Int)) &&
 decide
 ((↑(mkN
 (fun (j : Nat) =>
 ((nthD ((0 : Int), (0 : Int)) l j).fst,
 (nthD ((0 : Int), (0 : Int)) l j).snd))
 l.length).length :
 Int) ≤
 (60 : Int))) ||
 !validF N S ||
 !(validF N S && acyF N.toNat (wF (setF S) N.toNat))) =
 true →
 true = true) ∧
 ((!(decide (N ≤ (9 : Int)) &&
 decide
 ((↑(mkN
 (fun (j : Nat) =>
 ((nthD ((0 : Int), (0 : Int)) l j).fst,
 (nthD ((0 : Int), (0 : Int)) l j).snd))
 l.length).length :
 Int) ≤
 (60 : Int))) ||
 !validF N S ||
 !(validF N S && acyF N.toNat (wF (setF S) N.toNat))) =
 false →
 l.length = l.length ∧
 (mkN
 (fun (j : Nat) =>
 ((nthD ((0 : Int), (0 : Int)) l j).fst,
 (nthD ((0 : Int), (0 : Int)) l j).snd))
 l.length).length ≤
 (1099511627776 : Nat) ∧
 (0 : Nat) + l.length + (1 : Nat) = (0 : Nat) + l.length + (1 : Nat) ∧
 mkN
 (fun (j : Nat) =>
 (bif j.blt ((0 : Nat) + l.length) then
 (nthD ((0 : Int), (0 : Int)) l j).fst
 else pickI [x] (j - ((0 : Nat) + l.length)),
 bif j.blt ((0 : Nat) + l.length) then
 (nthD ((0 : Int), (0 : Int)) l j).snd
 else pickI [y] (j - ((0 : Nat) + l.length))))
 ((0 : Nat) + l.length + (1 : Nat)) =
 S ∧
 S.length ≤ (1099511627776 : Nat) ∧
 l.length = l.length ∧
 (mkN
 (fun (j : Nat) =>
 ((nthD ((0 : Int), (0 : Int)) l j).fst,
 (nthD ((0 : Int), (0 : Int)) l j).snd))
 l.length).length ≤
 (1099511627776 : Nat) ∧
 (0 : Nat) + l.length + (1 : Nat) =
 (0 : Nat) + l.length + (1 : Nat) ∧
 mkN
 (fun (j : Nat) =>
 (bif j.blt ((0 : Nat) + l.length) then
 (nthD ((0 : Int), (0 : Int)) l j).fst
 else pickI [x] (j - ((0 : Nat) + l.length)),
 bif j.blt ((0 : Nat) + l.length) then
 (nthD ((0 : Int), (0 : Int)) l j).snd
 else pickI [y] (j - ((0 : Nat) + l.length))))
 ((0 : Nat) + l.length + (1 : Nat)) =
 S ∧
 S.length ≤ (1099511627776 : Nat) ∧
 (cntE N
 (mkN
 (fun (j : Nat) =>
 ((nthD ((0 : Int), (0 : Int)) l j).fst,
 (nthD ((0 : Int), (0 : Int)) l
 j).snd))
 l.length) ==
 (0 : Int) &&
 cntE N S == (0 : Int) &&
 dwnE N
 (mkN
 (fun (j : Nat) =>
 ((nthD ((0 : Int), (0 : Int)) l j).fst,
 (nthD ((0 : Int), (0 : Int)) l j).snd))
 l.length) ==
 (0 : Int) &&
 dwnE N S == (0 : Int) &&
 decide ((1 : Int) ≤ (↑(cntV N S) : Int)) &&
 decide
 ((↑(cntV N S) : Int) ≤
 (↑(cntV N
 (mkN
 (fun (j : Nat) =>
 ((nthD ((0 : Int), (0 : Int)) l j).fst,
 (nthD ((0 : Int), (0 : Int)) l j).snd))
 l.length)) :
 Int)) &&
 decide
 ((↑(dwnV N S) : Int) ≤
 (↑(dwnV N
 (mkN
 (fun (j : Nat) =>
 ((nthD ((0 : Int), (0 : Int)) l j).fst,
 (nthD ((0 : Int), (0 : Int)) l j).snd))
 l.length)) :
 Int))) =
 true)) ∧
 (0 : Nat) = (0 : Nat) ∧
 l.length = l.length ∧
 ((0 : Nat) + l.length) * (16 : Nat) ≤ (140737488355328 : Nat) ∧
 (0 : Nat) + l.length ≤ (9223372036854775807 : Nat) ∧
 (0 : Nat) + l.length = (0 : Nat) + l.length ∧
 (1 : Nat) = (1 : Nat) ∧
 ((0 : Nat) + l.length + (1 : Nat)) * (16 : Nat) ≤ (140737488355328 : Nat) ∧
 (0 : Nat) + l.length + (1 : Nat) ≤ (9223372036854775807 : Nat) ∧
 l.length = l.length ∧
 ((!(decide (N ≤ (9 : Int)) &&
 decide
 ((↑(mkN
 (fun (j : Nat) =>
 ((nthD ((0 : Int), (0 : Int)) l j).fst,
 (nthD ((0 : Int), (0 : Int)) l j).snd))
 l.length).length :
 Int) ≤
 (60 : Int)))) =
 false →
 (0 : Nat) + l.length + (1 : Nat) = (0 : Nat) + l.length + (1 : Nat)) ∧
 ((!(decide (N ≤ (9 : Int)) &&
 decide
 ((↑(mkN
 (fun (j : Nat) =>
 ((nthD ((0 : Int), (0 : Int)) l j).fst,
 (nthD ((0 : Int), (0 : Int)) l j).snd))
 l.length).length :
 Int) ≤
 (60 : Int)))) =
 false →
 mkN
 (fun (j : Nat) =>
 (bif j.blt ((0 : Nat) + l.length) then (nthD ((0 : Int), (0 : Int)) l j).fst
 else pickI [x] (j - ((0 : Nat) + l.length)),
 bif j.blt ((0 : Nat) + l.length) then (nthD ((0 : Int), (0 : Int)) l j).snd
 else pickI [y] (j - ((0 : Nat) + l.length))))
 ((0 : Nat) + l.length + (1 : Nat)) =
 S) ∧
 ((!(decide (N ≤ (9 : Int)) &&
 decide
 ((↑(mkN
 (fun (j : Nat) =>
 ((nthD ((0 : Int), (0 : Int)) l j).fst,
 (nthD ((0 : Int), (0 : Int)) l j).snd))
 l.length).length :
 Int) ≤
 (60 : Int)))) =
 false →
 S.length ≤ (1099511627776 : Nat)) ∧
 ((!(decide (N ≤ (9 : Int)) &&
 decide
 ((↑(mkN
 (fun (j : Nat) =>
 ((nthD ((0 : Int), (0 : Int)) l j).fst,
 (nthD ((0 : Int), (0 : Int)) l j).snd))
 l.length).length :
 Int) ≤
 (60 : Int))) ||
 !validF N S) =
 false →
 (0 : Nat) + l.length + (1 : Nat) = (0 : Nat) + l.length + (1 : Nat)) ∧
 ((!(decide (N ≤ (9 : Int)) &&
 decide
 ((↑(mkN
 (fun (j : Nat) =>
 ((nthD ((0 : Int), (0 : Int)) l j).fst,
 (nthD ((0 : Int), (0 : Int)) l j).snd))
 l.length).length :
 Int) ≤
 (60 : Int))) ||
 !validF N S) =
 false →
 mkN
 (fun (j : Nat) =>
 (bif j.blt ((0 : Nat) + l.length) then (nthD ((0 : Int), (0 : Int)) l j).fst
 else pickI [x] (j - ((0 : Nat) + l.length)),
 bif j.blt ((0 : Nat) + l.length) then (nthD ((0 : Int), (0 : Int)) l j).snd
 else pickI [y] (j - ((0 : Nat) + l.length))))
 ((0 : Nat) + l.length + (1 : Nat)) =
 S) ∧
 ((!(decide (N ≤ (9 : Int)) &&
 decide
 ((↑(mkN
 (fun (j : Nat) =>
 ((nthD ((0 : Int), (0 : Int)) l j).fst,
 (nthD ((0 : Int), (0 : Int)) l j).snd))
 l.length).length :
 Int) ≤
 (60 : Int))) ||
 !validF N S) =
 false →
 S.length ≤ (1099511627776 : Nat)) ∧
 ((!(decide (N ≤ (9 : Int)) &&
 decide
 ((↑(mkN
 (fun (j : Nat) =>
 ((nthD ((0 : Int), (0 : Int)) l j).fst,
 (nthD ((0 : Int), (0 : Int)) l j).snd))
 l.length).length :
 Int) ≤
 (60 : Int))) ||
 !validF N S ||
 !(validF N S && acyF N.toNat (wF (setF S) N.toNat))) =
 true →
 true = true) ∧
 ((!(decide (N ≤ (9 : Int)) &&
 decide
 ((↑(mkN
 (fun (j : Nat) =>
 ((nthD ((0 : Int), (0 : Int)) l j).fst,
 (nthD ((0 : Int), (0 : Int)) l j).snd))
 l.length).length :
 Int) ≤
 (60 : Int))) ||
 !validF N S ||
 !(validF N S && acyF N.toNat (wF (setF S) N.toNat))) =
 false →
 l.length = l.length ∧
 (mkN
 (fun (j : Nat) =>
 ((nthD ((0 : Int), (0 : Int)) l j).fst,
 (nthD ((0 : Int), (0 : Int)) l j).snd))
 l.length).length ≤
 (1099511627776 : Nat) ∧
 (0 : Nat) + l.length + (1 : Nat) = (0 : Nat) + l.length + (1 : Nat) ∧
 mkN
 (fun (j : Nat) =>
 (bif j.blt ((0 : Nat) + l.length) then
 (nthD ((0 : Int), (0 : Int)) l j).fst
 else pickI [x] (j - ((0 : Nat) + l.length)),
 bif j.blt ((0 : Nat) + l.length) then
 (nthD ((0 : Int), (0 : Int)) l j).snd
 else pickI [y] (j - ((0 : Nat) + l.length))))
 ((0 : Nat) + l.length + (1 : Nat)) =
 S ∧
 S.length ≤ (1099511627776 : Nat) ∧
 l.length = l.length ∧
 (mkN
 (fun (j : Nat) =>
 ((nthD ((0 : Int), (0 : Int)) l j).fst,
 (nthD ((0 : Int), (0 : Int)) l j).snd))
 l.length).length ≤
 (1099511627776 : Nat) ∧
 (0 : Nat) + l.length + (1 : Nat) =
 (0 : Nat) + l.length + (1 : Nat) ∧
 mkN
 (fun (j : Nat) =>
 (bif j.blt ((0 : Nat) + l.length) then
 (nthD ((0 : Int), (0 : Int)) l j).fst
 else pickI [x] (j - ((0 : Nat) + l.length)),
 bif j.blt ((0 : Nat) + l.length) then
 (nthD ((0 : Int), (0 : Int)) l j).snd
 else pickI [y] (j - ((0 : Nat) + l.length))))
 ((0 : Nat) + l.length + (1 : Nat)) =
 S ∧
 S.length ≤ (1099511627776 : Nat) ∧
 (cntE N
 (mkN
 (fun (j : Nat) =>
 ((nthD ((0 : Int), (0 : Int)) l j).fst,
 (nthD ((0 : Int), (0 : Int)) l
 j).snd))
 l.length) ==
 (0 : Int) &&
 cntE N S == (0 : Int) &&
 dwnE N
 (mkN
 (fun (j : Nat) =>
 ((nthD ((0 : Int), (0 : Int)) l j).fst,
 (nthD ((0 : Int), (0 : Int)) l j).snd))
 l.length) ==
 (0 : Int) &&
 dwnE N S == (0 : Int) &&
 decide ((1 : Int) ≤ (↑(cntV N S) : Int)) &&
 decide
 ((↑(cntV N S) : Int) ≤
 (↑(cntV N
 (mkN
 (fun (j : Nat) =>
 ((nthD ((0 : Int), (0 : Int)) l j).fst,
 (nthD ((0 : Int), (0 : Int)) l j).snd))
 l.length)) :
 Int)) &&
 decide
 ((↑(dwnV N S) : Int) ≤
 (↑(dwnV N
 (mkN
 (fun (j : Nat) =>
 ((nthD ((0 : Int), (0 : Int)) l j).fst,
 (nthD ((0 : Int), (0 : Int)) l j).snd))
 l.length)) :
 Int))) =
 true)) := by kernel_rfl
theorem v8 (N : Int) (l : List Pq) (x y : Int) (S : List Pq) (hS : S = l ++ [(x, y)]) (h9 : S.length * 16 ≤ 140737488355328) : fnVc (tab [kFew [], kVal' [none, none, some (.ps S)], kAcy' [none, none, some (.ps S)], kAwk [], kCnt [none, none, some (.ps S)], kDws [none, none, some (.ps S)]] []) Try.f8 [rlV N 0 l, .i .i64 x, .i .i64 y] [arP l] (plainIs .tt) := by
  rw [v8_eq]
  have hl : S.length = l.length + 1 := by rw [hS]; simp
  simp only [eq_self, true_and, and_true, implies_true, imp_self, mkN_ps, mkN_self, mkN_len, Nat.zero_add, ap1P, ← hS]
  have h := pair_C (N := N) hS h9
  have hv : (!(decide (N ≤ 9) && decide ((l.length : Int) ≤ 60)) || !validF N S) = false → S.length ≤ 1099511627776 := fun e => h.1 (Bool.or_eq_false_iff.1 e).1
  have h3 := fun e => (⟨(h.2 e).1, (h.2 e).2.1, (h.2 e).1, (h.2 e).2.1, (h.2 e).2.2⟩ : _ ∧ _ ∧ _ ∧ _ ∧ _)
  have a1 : l.length * 16 ≤ 140737488355328 := by omega
  have a2 : l.length ≤ 9223372036854775807 := by omega
  have a3 : (l.length + 1) * 16 ≤ 140737488355328 := by omega
  have a4 : l.length + 1 ≤ 9223372036854775807 := by omega
  exact ⟨⟨a1, a2, a3, a4, h.1, hv, h3⟩, ⟨a1, a2, a3, a4, h.1, hv, h3⟩, a1, a2, a3, a4, h.1, hv, h3⟩

end Go.Proofs.Ytiokmglajigngaa
