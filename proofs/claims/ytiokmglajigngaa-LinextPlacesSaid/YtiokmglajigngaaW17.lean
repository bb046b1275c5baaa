/-
  The linext layer: all extensions: what is computed.
-/
import Derived.Test.YtiokmglajigngaaW15
namespace Go.Proofs.Ytiokmglajigngaa
open Go Go.Proofs.Ytiokmglajigngaa.Sx
set_option maxRecDepth 100000
set_option linter.unusedSimpArgs false
set_option linter.unusedVariables false
theorem sum_find {B : List Int} {s r : Nat} : ∀ {n : Nat}, r < sumF B s (cmp B) n → ∃ y, y < n ∧ r < sumF B s (cmp B) (y + 1) ∧ sumF B s (cmp B) y ≤ r := by
  intro n
  induction n with
  | zero => intro h; exact absurd h (Nat.not_lt_zero _)
  | succ n ih =>
    intro h
    by_cases h1 : r < sumF B s (cmp B) n
    · obtain ⟨y, a, b, c⟩ := ih h1
      exact ⟨y, by omega, b, c⟩
    · exact ⟨n, by omega, h, by omega⟩
theorem ntY_eq {B : List Int} {s r y : Nat} (hy : y < B.length) (h1 : r < sumF B s (cmp B) (y + 1)) (h2 : sumF B s (cmp B) y ≤ r) : ntY B s r = y := by
  have : (List.range B.length).find? (fun y => Nat.blt r (sumF B s (cmp B) (y + 1))) = some y := by
    rw [List.find?_range_eq_some]
    refine ⟨by simpa using h1, List.mem_range.2 hy, fun j hj => ?_⟩
    have := sumF_mono (B := B) (s := s) (c := cmp B) (x := j + 1) (y := y) hj
    rw [blt_f (by omega)]; rfl
  rw [ntY, this]; rfl
theorem fr_of_sum {B : List Int} {s r y : Nat} (h1 : r < sumF B s (cmp B) (y + 1)) (h2 : sumF B s (cmp B) y ≤ r) : frR B s y = true ∧ r - sumF B s (cmp B) y < cmp B (s ||| 2 ^ y) := by
  rw [sumF] at h1
  cases hf : frR B s y
  · rw [hf, cond_false] at h1; omega
  · rw [hf, cond_true] at h1; exact ⟨rfl, by omega⟩
structure NtI (N : Int) (B : List Int) (r k : Nat) : Prop where
  dn : Dn N B (ntS B r k).1
  len : (ntS B r k).1.length = k
  lt : (ntS B r k).2 < cmp B (maskM (ntS B r k).1)
theorem nt_step {N : Int} {B : List Int} {r k : Nat} (hN : (B.length : Int) = N) (hn : B.length ≤ 64) (hok : okD B = true) (h : NtI N B r k) (hk : k < B.length) : ∃ y, y < B.length ∧ ntY B (maskM (ntS B r k).1) (ntS B r k).2 = y ∧ frR B (maskM (ntS B r k).1) y = true ∧ (ntS B r k).2 < sumF B (maskM (ntS B r k).1) (cmp B) (y + 1) ∧ sumF B (maskM (ntS B r k).1) (cmp B) y ≤ (ntS B r k).2 := by
  have hlt := h.lt
  rw [dn_sum h.dn hn (by rw [h.len]; exact hk)] at hlt
  obtain ⟨y, a, b, c⟩ := sum_find hlt
  exact ⟨y, a, ntY_eq a b c, (fr_of_sum b c).1, b, c⟩
theorem ntS_succ {B : List Int} {r k y : Nat} (h : ntY B (maskM (ntS B r k).1) (ntS B r k).2 = y) : ntS B r (k + 1) = ((ntS B r k).1 ++ [(y : Int)], (ntS B r k).2 - sumF B (maskM (ntS B r k).1) (cmp B) y) := by rw [ntS, h]
theorem nt_all {N : Int} {B : List Int} {r : Nat} (hN : (B.length : Int) = N) (hn : B.length ≤ 64) (hok : okD B = true) (hr : r < cmp B 0) : ∀ k, k ≤ B.length → NtI N B r k := by
  intro k
  induction k with
  | zero => intro _; exact ⟨dn_nil, rfl, hr⟩
  | succ k ih =>
    intro hk
    have ih := ih (by omega)
    obtain ⟨y, h1, h2, h3, h4, h5⟩ := nt_step hN hn hok ih (by omega)
    have e := ntS_succ h2
    refine ⟨by rw [e]; exact dn_snoc ih.dn hN hn hok h1 h3, by rw [e]; simp [ih.len], ?_⟩
    rw [e]
    show _ - _ < cmp B (maskM ((ntS B r k).1 ++ [(y : Int)]))
    rw [mask_snoc]
    exact (fr_of_sum h4 h5).2
theorem v31e_eq (N : Int) (l : List Pq) (r : Int) (B : List Int) : (fnVc (tab [kChk [none, none, none, some (.us B)], kCmE [none, none, none, some (.us B)]] []) Try.f31 [rlV N 0 l, .i .i64 r] [arP l] (resIs (.tup [.sl 0 (ntL N l r).length, .i .i64 (ntE N l r)]) 3 (ntL N l r).length (isCols (ntL N l r)))) = (l.length = l.length ∧
 (psK l).length ≤
 (1099511627776 : Nat) ∧
 (bif
 okP N
 (psK l) then
 befL N.toNat
 (psK l)
 else []) =
 B ∧
 ((errP N
 (psK l) !=
 (0 : Int)) =
 true →
 (0 : Nat) = (ntL N l r).length ∧
 ((ntL N l r).length = (0 : Nat) ∧ True) ∧
 (0 : Nat) = (ntL N l r).length ∧
 errP N
 (psK l) =
 ntE N l r ∧
 True) ∧
 ((errP N
 (psK l) !=
 (0 : Int)) =
 false →
 (AV.us B).len = (AV.us B).len ∧
 mkN (nthD (0 : Int) B) (AV.us B).len = B ∧
 (bif
 okP N
 (psK l) then
 N
 else (0 : Int)) =
 (↑B.length : Int) ∧
 B.length ≤ (64 : Nat) ∧
 okC B = false ∧
 (((4 : Int) != (0 : Int)) = true →
 (0 : Nat) = (ntL N l r).length ∧
 ((ntL N l r).length = (0 : Nat) ∧ True) ∧
 (0 : Nat) = (ntL N l r).length ∧ (4 : Int) = ntE N l r ∧ True) ∧
 (((4 : Int) != (0 : Int)) = false → False))) := by kernel_rfl
theorem v31e (N : Int) (l : List Pq) (r : Int) (B : List Int) (hB : B = befP N l) (hl : L9 l) (hc : okC B = false) : fnVc (tab [kChk [none, none, none, some (.us B)], kCmE [none, none, none, some (.us B)]] []) Try.f31 [rlV N 0 l, .i .i64 r] [arP l] (resIs (.tup [.sl 0 (ntL N l r).length, .i .i64 (ntE N l r)]) 3 (ntL N l r).length (isCols (ntL N l r))) := by
  rw [v31e_eq]
  simp only [eq_self, true_and, and_true, implies_true, imp_self, psK_eq, mkN_ps, mkN_rs, mkN_self, mkN_len, PLoop.of, lCnt, AV.len, lRk0, lRk1, lNt0, lNt1]
  subst hB
  refine ⟨hl, rfl, fun h => ?_, fun h => ?_⟩
  · have hP := err_no h
    rw [ntL, ntE, hP]
    exact ⟨rfl, rfl, rfl, rfl⟩
  · have hP := err_yes h
    obtain ⟨e, hN, hN2, hn, hv⟩ := befP_ok hP
    refine ⟨by rw [hP, hN]; rfl, hn, hc, fun _ => ?_, fun h => (by cases h)⟩
    rw [ntL, ntE, hP, hc]
    exact ⟨rfl, rfl, rfl, rfl⟩
theorem v31_eq (N : Int) (l : List Pq) (r : Int) (B : List Int) : (fnVc (tab [kChk [none, none, none, some (.us B)], kCmp [none, none, none, some (.us B)], kFre [none, none, none, some (.us B)]] [(0, .of (lNt0 N B r.toNat 6)), (2, lNt1 N B r.toNat 6)]) Try.f31 [rlV N 0 l, .i .i64 r] [arP l] (resIs (.tup [.sl 0 (ntL N l r).length, .i .i64 (ntE N l r)]) 3 (ntL N l r).length (isCols (ntL N l r)))) = (l.length = l.length ∧
 (psK l).length ≤
 (1099511627776 : Nat) ∧
 (bif
 okP N
 (psK l) then
 befL N.toNat
 (psK l)
 else []) =
 B ∧
 ((errP N
 (psK l) !=
 (0 : Int)) =
 true →
 (0 : Nat) = (ntL N l r).length ∧
 ((ntL N l r).length = (0 : Nat) ∧ True) ∧
 (0 : Nat) = (ntL N l r).length ∧
 errP N
 (psK l) =
 ntE N l r ∧
 True) ∧
 ((errP N
 (psK l) !=
 (0 : Int)) =
 false →
 (AV.us B).len = (AV.us B).len ∧
 mkN (nthD (0 : Int) B) (AV.us B).len = B ∧
 (bif
 okP N
 (psK l) then
 N
 else (0 : Int)) =
 (↑B.length : Int) ∧
 B.length ≤ (64 : Nat) ∧
 okC B = true ∧
 (((0 : Int) != (0 : Int)) = true →
 (0 : Nat) = (ntL N l r).length ∧
 ((ntL N l r).length = (0 : Nat) ∧ True) ∧
 (0 : Nat) = (ntL N l r).length ∧ (0 : Int) = ntE N l r ∧ True) ∧
 (((0 : Int) != (0 : Int)) = false →
 ((decide (r < (0 : Int)) || decide (r ≥ val0 (cmM B (dsE B) (0 : Int)))) = true →
 (0 : Nat) = (ntL N l r).length ∧
 ((ntL N l r).length = (0 : Nat) ∧ True) ∧
 (0 : Nat) = (ntL N l r).length ∧ (2 : Int) = ntE N l r ∧ True) ∧
 ((decide (r < (0 : Int)) || decide (r ≥ val0 (cmM B (dsE B) (0 : Int)))) = false →
 ∃ (x : PUnit),
 (∃ (x : Nat),
 x ≤ N.toNat ∧
 ((0 : Nat) = (ntS B r.toNat x).fst.length ∧
 (0 : Int) = (↑(maskM (ntS B r.toNat x).fst) : Int) ∧
 r = (↑(ntS B r.toNat x).snd : Int) ∧ True) ∧
 ((0 : Nat) = (ntS B r.toNat x).fst.length ∧
 (ntS B r.toNat x).fst.length = (0 : Nat) ∧ True) ∧
 True) ∧
 ∀ (x_1 : Nat),
 x_1 ≤ N.toNat →
 (decide
 ((↑(ntS B r.toNat x_1).fst.length : Int) <
 bif
 okP N
 (psK l) then
 N
 else (0 : Int)) =
 true →
 ∃ (x_2 : Nat),
 (∃ (x : Nat),
 (x ≤ N.toNat ∧
 x_2 < N.toNat ∧
 sumF B (maskM (ntS B r.toNat x_2).fst) (cmp B) x ≤
 (ntS B r.toNat x_2).snd) ∧
 ((0 : Int) = (↑x : Int) ∧
 (ntS B r.toNat x_1).fst.length = (ntS B r.toNat x_2).fst.length ∧
 (↑(maskM (ntS B r.toNat x_1).fst) : Int) =
 (↑(maskM (ntS B r.toNat x_2).fst) : Int) ∧
 (↑(ntS B r.toNat x_1).snd : Int) =
 (↑((ntS B r.toNat x_2).snd -
 sumF B (maskM (ntS B r.toNat x_2).fst) (cmp B) x) :
 Int) ∧
 True) ∧
 True) ∧
 ∀ (x_3 : Nat),
 x_3 ≤ N.toNat ∧
 x_2 < N.toNat ∧
 sumF B (maskM (ntS B r.toNat x_2).fst) (cmp B) x_3 ≤
 (ntS B r.toNat x_2).snd →
 (decide
 ((↑x_3 : Int) <
 bif
 okP N
 (psK l) then
 N
 else (0 : Int)) =
 true →
 (AV.us B).len = (AV.us B).len ∧
 mkN (nthD (0 : Int) B) (AV.us B).len = B ∧
 ((0 : Int) ≤ (↑x_3 : Int) ∧ (↑x_3 : Int) < (64 : Int)) ∧
 (↑x_3 : Int) + (1 : Int) ≤ (↑B.length : Int) ∧
 ((!frR B (↑(maskM (ntS B r.toNat x_2).fst) : Int)
 (↑x_3 : Int)) =
 true →
 ∃ (x : Nat),
 (x ≤ N.toNat ∧
 x_2 < N.toNat ∧
 sumF B (maskM (ntS B r.toNat x_2).fst) (cmp B)
 x ≤
 (ntS B r.toNat x_2).snd) ∧
 ((lNt1 N B r.toNat (6 : Nat)).ann x_2).mu x <
 ((lNt1 N B r.toNat (6 : Nat)).ann x_2).mu x_3 ∧
 ((N = N ∧ l.length = l.length) ∧
 (↑((ntS B r.toNat x_2).snd -
 sumF B
 (maskM (ntS B r.toNat x_2).fst)
 (cmp B) x_3) :
 Int) =
 (↑((ntS B r.toNat x_2).snd -
 sumF B
 (maskM (ntS B r.toNat x_2).fst)
 (cmp B) x) :
 Int) ∧
 True ∧
 (0 : Nat) = (0 : Nat) ∧
 (0 : Int) = (0 : Int) ∧
 True ∧
 (0 : Int) = (0 : Int) ∧
 True ∧
 (ntS B r.toNat x_2).fst.length =
 (ntS B r.toNat
 x_2).fst.length ∧
 (↑(maskM
 (ntS B r.toNat
 x_2).fst) :
 Int) =
 (↑(maskM
 (ntS B r.toNat
 x_2).fst) :
 Int) ∧
 ((((bif
 okP N
 (mkN
 (fun
 (j :
 Nat) =>
 ((nthD
 ((0 :
 Int),
 (0 :
 Int))
 l
 j).fst,
 (nthD
 ((0 :
 Int),
 (0 :
 Int))
 l
 j).snd))
 l.length) then
 N
 else (0 : Int)) =
 bif
 okP N
 (mkN
 (fun
 (j :
 Nat) =>
 ((nthD
 ((0 :
 Int),
 (0 :
 Int))
 l
 j).fst,
 (nthD
 ((0 :
 Int),
 (0 :
 Int))
 l
 j).snd))
 l.length) then
 N
 else (0 : Int)) ∧
 (AV.us B).len =
 (AV.us B).len) ∧
 errP N
 (mkN
 (fun (j : Nat) =>
 ((nthD
 ((0 :
 Int),
 (0 :
 Int))
 l j).fst,
 (nthD
 ((0 :
 Int),
 (0 :
 Int))
 l j).snd))
 l.length) =
 errP N
 (mkN
 (fun (j : Nat) =>
 ((nthD
 ((0 :
 Int),
 (0 :
 Int))
 l j).fst,
 (nthD
 ((0 :
 Int),
 (0 :
 Int))
 l j).snd))
 l.length)) ∧
 (N = N ∧
 l.length = l.length) ∧
 ((((bif
 okP N
 (mkN
 (fun
 (j :
 Nat) =>
 ((nthD
 ((0 :
 Int),
 (0 :
 Int))
 l
 j).fst,
 (nthD
 ((0 :
 Int),
 (0 :
 Int))
 l
 j).snd))
 l.length) then
 N
 else
 (0 : Int)) =
 bif
 okP N
 (mkN
 (fun
 (j :
 Nat) =>
 ((nthD
 ((0 :
 Int),
 (0 :
 Int))
 l
 j).fst,
 (nthD
 ((0 :
 Int),
 (0 :
 Int))
 l
 j).snd))
 l.length) then
 N
 else
 (0 : Int)) ∧
 (AV.us B).len =
 (AV.us B).len) ∧
 errP N
 (mkN
 (fun
 (j :
 Nat) =>
 ((nthD
 ((0 :
 Int),
 (0 :
 Int))
 l
 j).fst,
 (nthD
 ((0 :
 Int),
 (0 :
 Int))
 l
 j).snd))
 l.length) =
 errP N
 (mkN
 (fun
 (j :
 Nat) =>
 ((nthD
 ((0 :
 Int),
 (0 :
 Int))
 l
 j).fst,
 (nthD
 ((0 :
 Int),
 (0 :
 Int))
 l
 j).snd))
 l.length)) ∧
 (((bif
 okP N
 (mkN
 (fun
 (j :
 Nat) =>
 ((nthD
 ((0 :
 Int),
 (0 :
 Int))
 l
 j).fst,
 (nthD
 ((0 :
 Int),
 (0 :
 Int))
 l
 j).snd))
 l.length) then
 N
 else
 (0 : Int)) =
 bif
 okP N
 (mkN
 (fun
 (j :
 Nat) =>
 ((nthD
 ((0 :
 Int),
 (0 :
 Int))
 l
 j).fst,
 (nthD
 ((0 :
 Int),
 (0 :
 Int))
 l
 j).snd))
 l.length) then
 N
 else
 (0 : Int)) ∧
 (AV.us B).len =
 (AV.us B).len) ∧
 errP N
 (mkN
 (fun
 (j :
 Nat) =>
 ((nthD
 ((0 :
 Int),
 (0 :
 Int))
 l
 j).fst,
 (nthD
 ((0 :
 Int),
 (0 :
 Int))
 l
 j).snd))
 l.length) =
 errP N
 (mkN
 (fun
 (j :
 Nat) =>
 ((nthD
 ((0 :
 Int),
 (0 :
 Int))
 l
 j).fst,
 (nthD
 ((0 :
 Int),
 (0 :
 Int))
 l
 j).snd))
 l.length) ∧
 errP N
 (mkN
 (fun
 (j :
 Nat) =>
 ((nthD
 ((0 :
 Int),
 (0 :
 Int))
 l
 j).fst,
 (nthD
 ((0 :
 Int),
 (0 :
 Int))
 l
 j).snd))
 l.length) =
 errP N
 (mkN
 (fun
 (j :
 Nat) =>
 ((nthD
 ((0 :
 Int),
 (0 :
 Int))
 l
 j).fst,
 (nthD
 ((0 :
 Int),
 (0 :
 Int))
 l
 j).snd))
 l.length) ∧
 false = false ∧
 (True ∧
 (0 :
 Int) =
 (0 :
 Int)) ∧
 (((bif
 okP
 N
 (mkN
 (fun
 (j :
 Nat) =>
 ((nthD
 ((0 :
 Int),
 (0 :
 Int))
 l
 j).fst,
 (nthD
 ((0 :
 Int),
 (0 :
 Int))
 l
 j).snd))
 l.length) then
 N
 else
 (0 :
 Int)) =
 bif
 okP
 N
 (mkN
 (fun
 (j :
 Nat) =>
 ((nthD
 ((0 :
 Int),
 (0 :
 Int))
 l
 j).fst,
 (nthD
 ((0 :
 Int),
 (0 :
 Int))
 l
 j).snd))
 l.length) then
 N
 else
 (0 :
 Int)) ∧
 (AV.us
 B).len =
 (AV.us
 B).len) ∧
 (True ∧
 (0 :
 Int) =
 (0 :
 Int)) ∧
 True ∧
 (0 :
 Int) =
 (0 :
 Int) ∧
 (0 :
 Int) =
 (0 :
 Int) ∧
 false =
 false ∧
 r =
 r ∧
 decide
 (r <
 (0 :
 Int)) =
 decide
 (r <
 (0 :
 Int)) ∧
 decide
 (r <
 (0 :
 Int)) =
 decide
 (r <
 (0 :
 Int)) ∧
 false =
 false ∧
 (ntS
 B
 r.toNat
 x_1).fst.length =
 (ntS
 B
 r.toNat
 x_1).fst.length ∧
 (↑(ntS
 B
 r.toNat
 x_1).fst.length :
 Int) =
 (↑(ntS
 B
 r.toNat
 x_1).fst.length :
 Int) ∧
 True ∧
 ((bif
 okP
 N
 (mkN
 (fun
 (j :
 Nat) =>
 ((nthD
 ((0 :
 Int),
 (0 :
 Int))
 l
 j).fst,
 (nthD
 ((0 :
 Int),
 (0 :
 Int))
 l
 j).snd))
 l.length) then
 N
 else
 (0 :
 Int)) =
 bif
 okP
 N
 (mkN
 (fun
 (j :
 Nat) =>
 ((nthD
 ((0 :
 Int),
 (0 :
 Int))
 l
 j).fst,
 (nthD
 ((0 :
 Int),
 (0 :
 Int))
 l
 j).snd))
 l.length) then
 N
 else
 (0 :
 Int)) ∧
 true =
 true ∧
 True ∧
 ((bif
 okP
 N
 (mkN
 (fun
 (j :
 Nat) =>
 ((nthD
 ((0 :
 Int),
 (0 :
 Int))
 l
 j).fst,
 (nthD
 ((0 :
 Int),
 (0 :
 Int))
 l
 j).snd))
 l.length) then
 N
 else
 (0 :
 Int)) =
 bif
 okP
 N
 (mkN
 (fun
 (j :
 Nat) =>
 ((nthD
 ((0 :
 Int),
 (0 :
 Int))
 l
 j).fst,
 (nthD
 ((0 :
 Int),
 (0 :
 Int))
 l
 j).snd))
 l.length) then
 N
 else
 (0 :
 Int)) ∧
 IntKind.i64.wrap
 ((↑x_3 :
 Int) +
 (1 :
 Int)) =
 (↑x :
 Int) ∧
 True) ∧
 (l.length = l.length ∧
 (∀ (j : Nat),
 j < l.length →
 (nthD ((0 : Int), (0 : Int)) l
 j).fst =
 (nthD ((0 : Int), (0 : Int)) l
 j).fst) ∧
 (∀ (j : Nat),
 j < l.length →
 (nthD ((0 : Int), (0 : Int)) l
 j).snd =
 (nthD ((0 : Int), (0 : Int)) l
 j).snd) ∧
 True) ∧
 (N = N ∧ l.length = l.length) ∧
 ((0 : Nat) = (0 : Nat) ∧ True ∧ True) ∧
 ((AV.us B).len = (AV.us B).len ∧
 (∀ (j : Nat),
 j < (AV.us B).len →
 nthD (0 : Int) B j =
 nthD (0 : Int) B j) ∧
 True) ∧
 (((bif
 okP N
 (psK l) then
 N
 else (0 : Int)) =
 bif
 okP N
 (psK l) then
 N
 else (0 : Int)) ∧
 (AV.us B).len = (AV.us B).len) ∧
 (∀ (x : Int),
 cmM B (dsE B) x =
 cmM B (dsE B) x) ∧
 ((ntS B r.toNat x_1).fst.length =
 (ntS B r.toNat
 x_1).fst.length ∧
 (∀ (j : Nat),
 j <
 (ntS B r.toNat
 x_1).fst.length →
 nthD (0 : Int)
 (ntS B r.toNat
 x_1).fst
 j =
 nthD (0 : Int)
 (ntS B r.toNat
 x_1).fst
 j) ∧
 True) ∧
 True) ∧
 ((!frR B (↑(maskM (ntS B r.toNat x_2).fst) : Int)
 (↑x_3 : Int)) =
 false →
 ((0 : Int) ≤ (↑x_3 : Int) ∧
 (↑x_3 : Int) ≤ (↑IntKind.u64.bits : Int)) ∧
 (decide
 ((↑((ntS B r.toNat x_2).snd -
 sumF B (maskM (ntS B r.toNat x_2).fst)
 (cmp B) x_3) :
 Int) <
 val0
 (cmM B (dsE B)
 (bits BinOp.or IntKind.u64
 (↑(maskM (ntS B r.toNat x_2).fst) :
 Int)
 (IntKind.u64.wrap
 ((1 : Int) * (2 : Int) ^ x_3))))) =
 true →
 (ntS B r.toNat x_2).fst.length =
 (ntS B r.toNat x_1).fst.length ∧
 (1 : Nat) = (1 : Nat) ∧
 ((ntS B r.toNat x_2).fst.length + (1 : Nat)) *
 (8 : Nat) ≤
 (140737488355328 : Nat) ∧
 (ntS B r.toNat x_2).fst.length + (1 : Nat) ≤
 (9223372036854775807 : Nat) ∧
 ((0 : Int) ≤ (↑x_3 : Int) ∧
 (↑x_3 : Int) ≤
 (↑IntKind.u64.bits : Int)) ∧
 ∃ (x_4 : Nat),
 x_4 ≤ N.toNat ∧
 ((PLoop.of
 (lNt0 N B r.toNat
 (6 : Nat))).ann
 x).mu
 x_4 <
 ((PLoop.of
 (lNt0 N B r.toNat
 (6 : Nat))).ann
 x).mu
 x_1 ∧
 ((N = N ∧ l.length = l.length) ∧
 (↑((ntS B r.toNat x_2).snd -
 sumF B
 (maskM
 (ntS B r.toNat
 x_2).fst)
 (cmp B) x_3) :
 Int) =
 (↑(ntS B r.toNat
 x_4).snd :
 Int) ∧
 True ∧
 (0 : Nat) = (0 : Nat) ∧
 (0 : Int) = (0 : Int) ∧
 True ∧
 (0 : Int) =
 (0 : Int) ∧
 True ∧
 (ntS B r.toNat
 x_2).fst.length +
 (1 :
 Nat) =
 (ntS B
 r.toNat
 x_4).fst.length ∧
 bits BinOp.or
 IntKind.u64
 (↑(maskM
 (ntS
 B
 r.toNat
 x_2).fst) :
 Int)
 (IntKind.u64.wrap
 ((1 :
 Int) *
 (2 :
 Int) ^
 x_3)) =
 (↑(maskM
 (ntS
 B
 r.toNat
 x_4).fst) :
 Int) ∧
 ((((bif
 okP
 N
 (mkN
 (fun
 (j :
 Nat) =>
 ((nthD
 ((0 :
 Int),
 (0 :
 Int))
 l
 j).fst,
 (nthD
 ((0 :
 Int),
 (0 :
 Int))
 l
 j).snd))
 l.length) then
 N
 else
 (0 :
 Int)) =
 bif
 okP
 N
 (mkN
 (fun
 (j :
 Nat) =>
 ((nthD
 ((0 :
 Int),
 (0 :
 Int))
 l
 j).fst,
 (nthD
 ((0 :
 Int),
 (0 :
 Int))
 l
 j).snd))
 l.length) then
 N
 else
 (0 :
 Int)) ∧
 (AV.us
 B).len =
 (AV.us
 B).len) ∧
 errP N
 (mkN
 (fun
 (j :
 Nat) =>
 ((nthD
 ((0 :
 Int),
 (0 :
 Int))
 l
 j).fst,
 (nthD
 ((0 :
 Int),
 (0 :
 Int))
 l
 j).snd))
 l.length) =
 errP N
 (mkN
 (fun
 (j :
 Nat) =>
 ((nthD
 ((0 :
 Int),
 (0 :
 Int))
 l
 j).fst,
 (nthD
 ((0 :
 Int),
 (0 :
 Int))
 l
 j).snd))
 l.length)) ∧
 (N = N ∧
 l.length =
 l.length) ∧
 ((((bif
 okP
 N
 (mkN
 (fun
 (j :
 Nat) =>
 ((nthD
 ((0 :
 Int),
 (0 :
 Int))
 l
 j).fst,
 (nthD
 ((0 :
 Int),
 (0 :
 Int))
 l
 j).snd))
 l.length) then
 N
 else
 (0 :
 Int)) =
 bif
 okP
 N
 (mkN
 (fun
 (j :
 Nat) =>
 ((nthD
 ((0 :
 Int),
 (0 :
 Int))
 l
 j).fst,
 (nthD
 ((0 :
 Int),
 (0 :
 Int))
 l
 j).snd))
 l.length) then
 N
 else
 (0 :
 Int)) ∧
 (AV.us
 B).len =
 (AV.us
 B).len) ∧
 errP
 N
 (mkN
 (fun
 (j :
 Nat) =>
 ((nthD
 ((0 :
 Int),
 (0 :
 Int))
 l
 j).fst,
 (nthD
 ((0 :
 Int),
 (0 :
 Int))
 l
 j).snd))
 l.length) =
 errP
 N
 (mkN
 (fun
 (j :
 Nat) =>
 ((nthD
 ((0 :
 Int),
 (0 :
 Int))
 l
 j).fst,
 (nthD
 ((0 :
 Int),
 (0 :
 Int))
 l
 j).snd))
 l.length)) ∧
 (((bif
 okP
 N
 (mkN
 (fun
 (j :
 Nat) =>
 ((nthD
 ((0 :
 Int),
 (0 :
 Int))
 l
 j).fst,
 (nthD
 ((0 :
 Int),
 (0 :
 Int))
 l
 j).snd))
 l.length) then
 N
 else
 (0 :
 Int)) =
 bif
 okP
 N
 (mkN
 (fun
 (j :
 Nat) =>
 ((nthD
 ((0 :
 Int),
 (0 :
 Int))
 l
 j).fst,
 (nthD
 ((0 :
 Int),
 (0 :
 Int))
 l
 j).snd))
 l.length) then
 N
 else
 (0 :
 Int)) ∧
 (AV.us
 B).len =
 (AV.us
 B).len) ∧
 errP
 N
 (mkN
 (fun
 (j :
 Nat) =>
 ((nthD
 ((0 :
 Int),
 (0 :
 Int))
 l
 j).fst,
 (nthD
 ((0 :
 Int),
 (0 :
 Int))
 l
 j).snd))
 l.length) =
 errP
 N
 (mkN
 (fun
 (j :
 Nat) =>
 ((nthD
 ((0 :
 Int),
 (0 :
 Int))
 l
 j).fst,
 (nthD
 ((0 :
 Int),
 (0 :
 Int))
 l
 j).snd))
 l.length) ∧
 errP
 N
 (mkN
 (fun
 (j :
 Nat) =>
 ((nthD
 ((0 :
 Int),
 (0 :
 Int))
 l
 j).fst,
 (nthD
 ((0 :
 Int),
 (0 :
 Int))
 l
 j).snd))
 l.length) =
 errP
 N
 (mkN
 (fun
 (j :
 Nat) =>
 ((nthD
 ((0 :
 Int),
 (0 :
 Int))
 l
 j).fst,
 (nthD
 ((0 :
 Int),
 (0 :
 Int))
 l
 j).snd))
 l.length) ∧
 false =
 false ∧
 (True ∧
 (0 :
 Int) =
 (0 :
 Int)) ∧
 (((bif
 okP
 N
 (mkN
 (fun
 (j :
 Nat) =>
 ((nthD
 ((0 :
 Int),
 (0 :
 Int))
 l
 j).fst,
 (nthD
 ((0 :
 Int),
 (0 :
 Int))
 l
 j).snd))
 l.length) then
 N
 else
 (0 :
 Int)) =
 bif
 okP
 N
 (mkN
 (fun
 (j :
 Nat) =>
 ((nthD
 ((0 :
 Int),
 (0 :
 Int))
 l
 j).fst,
 (nthD
 ((0 :
 Int),
 (0 :
 Int))
 l
 j).snd))
 l.length) then
 N
 else
 (0 :
 Int)) ∧
 (AV.us
 B).len =
 (AV.us
 B).len) ∧
 (True ∧
 (0 :
 Int) =
 (0 :
 Int)) ∧
 True ∧
 (0 :
 Int) =
 (0 :
 Int) ∧
 (0 :
 Int) =
 (0 :
 Int) ∧
 false =
 false ∧
 r =
 r ∧
 decide
 (r <
 (0 :
 Int)) =
 decide
 (r <
 (0 :
 Int)) ∧
 decide
 (r <
 (0 :
 Int)) =
 decide
 (r <
 (0 :
 Int)) ∧
 false =
 false ∧
 True) ∧
 (l.length = l.length ∧
 (∀ (j : Nat),
 j < l.length →
 (nthD
 ((0 : Int),
 (0 : Int))
 l j).fst =
 (nthD
 ((0 : Int),
 (0 : Int))
 l j).fst) ∧
 (∀ (j : Nat),
 j < l.length →
 (nthD
 ((0 : Int),
 (0 : Int))
 l j).snd =
 (nthD
 ((0 : Int),
 (0 : Int))
 l j).snd) ∧
 True) ∧
 (N = N ∧
 l.length = l.length) ∧
 ((0 : Nat) = (0 : Nat) ∧
 True ∧ True) ∧
 ((AV.us B).len =
 (AV.us B).len ∧
 (∀ (j : Nat),
 j <
 (AV.us
 B).len →
 nthD (0 : Int) B
 j =
 nthD (0 : Int)
 B j) ∧
 True) ∧
 (((bif
 okP N
 (mkN
 (fun
 (j :
 Nat) =>
 ((nthD
 ((0 :
 Int),
 (0 :
 Int))
 l
 j).fst,
 (nthD
 ((0 :
 Int),
 (0 :
 Int))
 l
 j).snd))
 l.length) then
 N
 else (0 : Int)) =
 bif
 okP N
 (mkN
 (fun
 (j :
 Nat) =>
 ((nthD
 ((0 :
 Int),
 (0 :
 Int))
 l
 j).fst,
 (nthD
 ((0 :
 Int),
 (0 :
 Int))
 l
 j).snd))
 l.length) then
 N
 else (0 : Int)) ∧
 (AV.us B).len =
 (AV.us B).len) ∧
 (∀ (x : Int),
 cmM B (dsE B) x =
 cmM B (dsE B)
 x) ∧
 ((ntS B r.toNat
 x_2).fst.length +
 (1 : Nat) =
 (ntS B r.toNat
 x_4).fst.length ∧
 (∀ (j : Nat),
 j <
 (ntS B
 r.toNat
 x_4).fst.length →
 (bif
 j.blt
 (ntS
 B
 r.toNat
 x_2).fst.length then
 nthD
 (0 :
 Int)
 (ntS
 B
 r.toNat
 x_1).fst
 j
 else
 pickI
 [(↑x_3 :
 Int)]
 (j -
 (ntS
 B
 r.toNat
 x_2).fst.length)) =
 nthD
 (0 :
 Int)
 (ntS B
 r.toNat
 x_4).fst
 j) ∧
 True) ∧
 True) ∧
 (decide
 ((↑((ntS B r.toNat x_2).snd -
 sumF B (maskM (ntS B r.toNat x_2).fst)
 (cmp B) x_3) :
 Int) <
 val0
 (cmM B (dsE B)
 (bits BinOp.or IntKind.u64
 (↑(maskM (ntS B r.toNat x_2).fst) :
 Int)
 (IntKind.u64.wrap
 ((1 : Int) * (2 : Int) ^ x_3))))) =
 false →
 ∃ (x : Nat),
 (x ≤ N.toNat ∧
 x_2 < N.toNat ∧
 sumF B (maskM (ntS B r.toNat x_2).fst)
 (cmp B) x ≤
 (ntS B r.toNat x_2).snd) ∧
 ((lNt1 N B r.toNat (6 : Nat)).ann x_2).mu x <
 ((lNt1 N B r.toNat (6 : Nat)).ann x_2).mu
 x_3 ∧
 ((N = N ∧ l.length = l.length) ∧
 IntKind.i64.wrap
 ((↑((ntS B r.toNat x_2).snd -
 sumF B
 (maskM
 (ntS B r.toNat
 x_2).fst)
 (cmp B) x_3) :
 Int) -
 val0
 (cmM B (dsE B)
 (bits BinOp.or IntKind.u64
 (↑(maskM
 (ntS B r.toNat
 x_2).fst) :
 Int)
 (IntKind.u64.wrap
 ((1 : Int) *
 (2 : Int) ^ x_3))))) =
 (↑((ntS B r.toNat x_2).snd -
 sumF B
 (maskM
 (ntS B r.toNat x_2).fst)
 (cmp B) x) :
 Int) ∧
 True ∧
 (0 : Nat) = (0 : Nat) ∧
 (0 : Int) = (0 : Int) ∧
 True ∧
 (0 : Int) = (0 : Int) ∧
 True ∧
 (ntS B r.toNat
 x_2).fst.length =
 (ntS B r.toNat
 x_2).fst.length ∧
 (↑(maskM
 (ntS B r.toNat
 x_2).fst) :
 Int) =
 (↑(maskM
 (ntS B r.toNat
 x_2).fst) :
 Int) ∧
 ((((bif
 okP N
 (mkN
 (fun
 (j :
 Nat) =>
 ((nthD
 ((0 :
 Int),
 (0 :
 Int))
 l
 j).fst,
 (nthD
 ((0 :
 Int),
 (0 :
 Int))
 l
 j).snd))
 l.length) then
 N
 else
 (0 : Int)) =
 bif
 okP N
 (mkN
 (fun
 (j :
 Nat) =>
 ((nthD
 ((0 :
 Int),
 (0 :
 Int))
 l
 j).fst,
 (nthD
 ((0 :
 Int),
 (0 :
 Int))
 l
 j).snd))
 l.length) then
 N
 else
 (0 : Int)) ∧
 (AV.us B).len =
 (AV.us
 B).len) ∧
 errP N
 (mkN
 (fun
 (j :
 Nat) =>
 ((nthD
 ((0 :
 Int),
 (0 :
 Int))
 l
 j).fst,
 (nthD
 ((0 :
 Int),
 (0 :
 Int))
 l
 j).snd))
 l.length) =
 errP N
 (mkN
 (fun
 (j :
 Nat) =>
 ((nthD
 ((0 :
 Int),
 (0 :
 Int))
 l
 j).fst,
 (nthD
 ((0 :
 Int),
 (0 :
 Int))
 l
 j).snd))
 l.length)) ∧
 (N = N ∧
 l.length =
 l.length) ∧
 ((((bif
 okP N
 (mkN
 (fun
 (j :
 Nat) =>
 ((nthD
 ((0 :
 Int),
 (0 :
 Int))
 l
 j).fst,
 (nthD
 ((0 :
 Int),
 (0 :
 Int))
 l
 j).snd))
 l.length) then
 N
 else
 (0 :
 Int)) =
 bif
 okP N
 (mkN
 (fun
 (j :
 Nat) =>
 ((nthD
 ((0 :
 Int),
 (0 :
 Int))
 l
 j).fst,
 (nthD
 ((0 :
 Int),
 (0 :
 Int))
 l
 j).snd))
 l.length) then
 N
 else
 (0 :
 Int)) ∧
 (AV.us
 B).len =
 (AV.us
 B).len) ∧
 errP N
 (mkN
 (fun
 (j :
 Nat) =>
 ((nthD
 ((0 :
 Int),
 (0 :
 Int))
 l
 j).fst,
 (nthD
 ((0 :
 Int),
 (0 :
 Int))
 l
 j).snd))
 l.length) =
 errP N
 (mkN
 (fun
 (j :
 Nat) =>
 ((nthD
 ((0 :
 Int),
 (0 :
 Int))
 l
 j).fst,
 (nthD
 ((0 :
 Int),
 (0 :
 Int))
 l
 j).snd))
 l.length)) ∧
 (((bif
 okP N
 (mkN
 (fun
 (j :
 Nat) =>
 ((nthD
 ((0 :
 Int),
 (0 :
 Int))
 l
 j).fst,
 (nthD
 ((0 :
 Int),
 (0 :
 Int))
 l
 j).snd))
 l.length) then
 N
 else
 (0 :
 Int)) =
 bif
 okP N
 (mkN
 (fun
 (j :
 Nat) =>
 ((nthD
 ((0 :
 Int),
 (0 :
 Int))
 l
 j).fst,
 (nthD
 ((0 :
 Int),
 (0 :
 Int))
 l
 j).snd))
 l.length) then
 N
 else
 (0 :
 Int)) ∧
 (AV.us
 B).len =
 (AV.us
 B).len) ∧
 errP N
 (mkN
 (fun
 (j :
 Nat) =>
 ((nthD
 ((0 :
 Int),
 (0 :
 Int))
 l
 j).fst,
 (nthD
 ((0 :
 Int),
 (0 :
 Int))
 l
 j).snd))
 l.length) =
 errP N
 (mkN
 (fun
 (j :
 Nat) =>
 ((nthD
 ((0 :
 Int),
 (0 :
 Int))
 l
 j).fst,
 (nthD
 ((0 :
 Int),
 (0 :
 Int))
 l
 j).snd))
 l.length) ∧
 errP N
 (mkN
 (fun
 (j :
 Nat) =>
 ((nthD
 ((0 :
 Int),
 (0 :
 Int))
 l
 j).fst,
 (nthD
 ((0 :
 Int),
 (0 :
 Int))
 l
 j).snd))
 l.length) =
 errP N
 (mkN
 (fun
 (j :
 Nat) =>
 ((nthD
 ((0 :
 Int),
 (0 :
 Int))
 l
 j).fst,
 (nthD
 ((0 :
 Int),
 (0 :
 Int))
 l
 j).snd))
 l.length) ∧
 false =
 false ∧
 (True ∧
 (0 :
 Int) =
 (0 :
 Int)) ∧
 (((bif
 okP
 N
 (mkN
 (fun
 (j :
 Nat) =>
 ((nthD
 ((0 :
 Int),
 (0 :
 Int))
 l
 j).fst,
 (nthD
 ((0 :
 Int),
 (0 :
 Int))
 l
 j).snd))
 l.length) then
 N
 else
 (0 :
 Int)) =
 bif
 okP
 N
 (mkN
 (fun
 (j :
 Nat) =>
 ((nthD
 ((0 :
 Int),
 (0 :
 Int))
 l
 j).fst,
 (nthD
 ((0 :
 Int),
 (0 :
 Int))
 l
 j).snd))
 l.length) then
 N
 else
 (0 :
 Int)) ∧
 (AV.us
 B).len =
 (AV.us
 B).len) ∧
 (True ∧
 (0 :
 Int) =
 (0 :
 Int)) ∧
 True ∧
 (0 :
 Int) =
 (0 :
 Int) ∧
 (0 :
 Int) =
 (0 :
 Int) ∧
 false =
 false ∧
 r =
 r ∧
 decide
 (r <
 (0 :
 Int)) =
 decide
 (r <
 (0 :
 Int)) ∧
 decide
 (r <
 (0 :
 Int)) =
 decide
 (r <
 (0 :
 Int)) ∧
 false =
 false ∧
 (ntS
 B
 r.toNat
 x_1).fst.length =
 (ntS
 B
 r.toNat
 x_1).fst.length ∧
 (↑(ntS
 B
 r.toNat
 x_1).fst.length :
 Int) =
 (↑(ntS
 B
 r.toNat
 x_1).fst.length :
 Int) ∧
 True ∧
 ((bif
 okP
 N
 (mkN
 (fun
 (j :
 Nat) =>
 ((nthD
 ((0 :
 Int),
 (0 :
 Int))
 l
 j).fst,
 (nthD
 ((0 :
 Int),
 (0 :
 Int))
 l
 j).snd))
 l.length) then
 N
 else
 (0 :
 Int)) =
 bif
 okP
 N
 (mkN
 (fun
 (j :
 Nat) =>
 ((nthD
 ((0 :
 Int),
 (0 :
 Int))
 l
 j).fst,
 (nthD
 ((0 :
 Int),
 (0 :
 Int))
 l
 j).snd))
 l.length) then
 N
 else
 (0 :
 Int)) ∧
 true =
 true ∧
 True ∧
 ((bif
 okP
 N
 (mkN
 (fun
 (j :
 Nat) =>
 ((nthD
 ((0 :
 Int),
 (0 :
 Int))
 l
 j).fst,
 (nthD
 ((0 :
 Int),
 (0 :
 Int))
 l
 j).snd))
 l.length) then
 N
 else
 (0 :
 Int)) =
 bif
 okP
 N
 (mkN
 (fun
 (j :
 Nat) =>
 ((nthD
 ((0 :
 Int),
 (0 :
 Int))
 l
 j).fst,
 (nthD
 ((0 :
 Int),
 (0 :
 Int))
 l
 j).snd))
 l.length) then
 N
 else
 (0 :
 Int)) ∧
 IntKind.i64.wrap
 ((↑x_3 :
 Int) +
 (1 :
 Int)) =
 (↑x :
 Int) ∧
 True) ∧
 (l.length = l.length ∧
 (∀ (j : Nat),
 j < l.length →
 (nthD ((0 : Int), (0 : Int)) l
 j).fst =
 (nthD ((0 : Int), (0 : Int)) l
 j).fst) ∧
 (∀ (j : Nat),
 j < l.length →
 (nthD ((0 : Int), (0 : Int)) l
 j).snd =
 (nthD ((0 : Int), (0 : Int))
 l j).snd) ∧
 True) ∧
 (N = N ∧ l.length = l.length) ∧
 ((0 : Nat) = (0 : Nat) ∧
 True ∧ True) ∧
 ((AV.us B).len = (AV.us B).len ∧
 (∀ (j : Nat),
 j < (AV.us B).len →
 nthD (0 : Int) B j =
 nthD (0 : Int) B j) ∧
 True) ∧
 (((bif
 okP N
 (psK l) then
 N
 else (0 : Int)) =
 bif
 okP N
 (psK l) then
 N
 else (0 : Int)) ∧
 (AV.us B).len =
 (AV.us B).len) ∧
 (∀ (x : Int),
 cmM B (dsE B) x =
 cmM B (dsE B) x) ∧
 ((ntS B r.toNat
 x_1).fst.length =
 (ntS B r.toNat
 x_1).fst.length ∧
 (∀ (j : Nat),
 j <
 (ntS B r.toNat
 x_1).fst.length →
 nthD (0 : Int)
 (ntS B r.toNat
 x_1).fst
 j =
 nthD (0 : Int)
 (ntS B r.toNat
 x_1).fst
 j) ∧
 True) ∧
 True))) ∧
 (decide
 ((↑x_3 : Int) <
 bif
 okP N
 (psK l) then
 N
 else (0 : Int)) =
 false →
 ∃ (x_4 : Nat),
 x_4 ≤ N.toNat ∧
 ((PLoop.of (lNt0 N B r.toNat (6 : Nat))).ann x).mu x_4 <
 ((PLoop.of (lNt0 N B r.toNat (6 : Nat))).ann x).mu x_1 ∧
 ((N = N ∧ l.length = l.length) ∧
 (↑((ntS B r.toNat x_2).snd -
 sumF B (maskM (ntS B r.toNat x_2).fst) (cmp B)
 x_3) :
 Int) =
 (↑(ntS B r.toNat x_4).snd : Int) ∧
 True ∧
 (0 : Nat) = (0 : Nat) ∧
 (0 : Int) = (0 : Int) ∧
 True ∧
 (0 : Int) = (0 : Int) ∧
 True ∧
 (ntS B r.toNat x_2).fst.length =
 (ntS B r.toNat x_4).fst.length ∧
 (↑(maskM (ntS B r.toNat x_2).fst) : Int) =
 (↑(maskM (ntS B r.toNat x_4).fst) :
 Int) ∧
 ((((bif
 okP N
 (psK l) then
 N
 else (0 : Int)) =
 bif
 okP N
 (psK l) then
 N
 else (0 : Int)) ∧
 (AV.us B).len = (AV.us B).len) ∧
 errP N
 (psK l) =
 errP N
 (psK l)) ∧
 (N = N ∧ l.length = l.length) ∧
 ((((bif
 okP N
 (psK l) then
 N
 else (0 : Int)) =
 bif
 okP N
 (psK l) then
 N
 else (0 : Int)) ∧
 (AV.us B).len =
 (AV.us B).len) ∧
 errP N
 (psK l) =
 errP N
 (psK l)) ∧
 (((bif
 okP N
 (psK l) then
 N
 else (0 : Int)) =
 bif
 okP N
 (psK l) then
 N
 else (0 : Int)) ∧
 (AV.us B).len =
 (AV.us B).len) ∧
 errP N
 (psK l) =
 errP N
 (psK l) ∧
 errP N
 (psK l) =
 errP N
 (psK l) ∧
 false = false ∧
 (True ∧
 (0 : Int) =
 (0 : Int)) ∧
 (((bif
 okP N
 (mkN
 (fun
 (j :
 Nat) =>
 ((nthD
 ((0 :
 Int),
 (0 :
 Int))
 l
 j).fst,
 (nthD
 ((0 :
 Int),
 (0 :
 Int))
 l
 j).snd))
 l.length) then
 N
 else (0 : Int)) =
 bif
 okP N
 (mkN
 (fun
 (j :
 Nat) =>
 ((nthD
 ((0 :
 Int),
 (0 :
 Int))
 l
 j).fst,
 (nthD
 ((0 :
 Int),
 (0 :
 Int))
 l
 j).snd))
 l.length) then
 N
 else (0 : Int)) ∧
 (AV.us B).len =
 (AV.us B).len) ∧
 (True ∧
 (0 : Int) =
 (0 : Int)) ∧
 True ∧
 (0 : Int) =
 (0 : Int) ∧
 (0 : Int) =
 (0 : Int) ∧
 false =
 false ∧
 r = r ∧
 decide
 (r <
 (0 :
 Int)) =
 decide
 (r <
 (0 :
 Int)) ∧
 decide
 (r <
 (0 :
 Int)) =
 decide
 (r <
 (0 :
 Int)) ∧
 false =
 false ∧
 True) ∧
 (l.length = l.length ∧
 (∀ (j : Nat),
 j < l.length →
 (nthD ((0 : Int), (0 : Int)) l j).fst =
 (nthD ((0 : Int), (0 : Int)) l j).fst) ∧
 (∀ (j : Nat),
 j < l.length →
 (nthD ((0 : Int), (0 : Int)) l j).snd =
 (nthD ((0 : Int), (0 : Int)) l j).snd) ∧
 True) ∧
 (N = N ∧ l.length = l.length) ∧
 ((0 : Nat) = (0 : Nat) ∧ True ∧ True) ∧
 ((AV.us B).len = (AV.us B).len ∧
 (∀ (j : Nat),
 j < (AV.us B).len →
 nthD (0 : Int) B j = nthD (0 : Int) B j) ∧
 True) ∧
 (((bif
 okP N
 (psK l) then
 N
 else (0 : Int)) =
 bif
 okP N
 (psK l) then
 N
 else (0 : Int)) ∧
 (AV.us B).len = (AV.us B).len) ∧
 (∀ (x : Int), cmM B (dsE B) x = cmM B (dsE B) x) ∧
 ((ntS B r.toNat x_1).fst.length =
 (ntS B r.toNat x_4).fst.length ∧
 (∀ (j : Nat),
 j < (ntS B r.toNat x_4).fst.length →
 nthD (0 : Int) (ntS B r.toNat x_1).fst
 j =
 nthD (0 : Int)
 (ntS B r.toNat x_4).fst j) ∧
 True) ∧
 True)) ∧
 (decide
 ((↑(ntS B r.toNat x_1).fst.length : Int) <
 bif
 okP N
 (psK l) then
 N
 else (0 : Int)) =
 false →
 (ntS B r.toNat x_1).fst.length = (ntL N l r).length ∧
 ((∀ (j : Nat),
 j < (ntL N l r).length →
 nthD (0 : Int) (ntS B r.toNat x_1).fst j =
 nthD (0 : Int) (ntL N l r) j) ∧
 True) ∧
 (ntS B r.toNat x_1).fst.length = (ntL N l r).length ∧
 (0 : Int) = ntE N l r ∧ True))))) := by kernel_rfl
theorem v31 (N : Int) (l : List Pq) (r : Int) (B : List Int) (hB : B = befP N l) (hl : L9 l) (hc : okC B = true) : fnVc (tab [kChk [none, none, none, some (.us B)], kCmp [none, none, none, some (.us B)], kFre [none, none, none, some (.us B)]] [(0, .of (lNt0 N B r.toNat 6)), (2, lNt1 N B r.toNat 6)]) Try.f31 [rlV N 0 l, .i .i64 r] [arP l] (resIs (.tup [.sl 0 (ntL N l r).length, .i .i64 (ntE N l r)]) 3 (ntL N l r).length (isCols (ntL N l r))) := by
  rw [v31_eq]
  simp only [eq_self, true_and, and_true, implies_true, imp_self, psK_eq, mkN_ps, mkN_rs, mkN_self, mkN_len, PLoop.of, lCnt, AV.len, lRk0, lRk1, lNt0, lNt1]
  subst hB
  refine ⟨hl, rfl, fun h => ?_, fun h => ?_⟩
  · have hP := err_no h
    rw [ntL, ntE, hP]
    exact ⟨rfl, rfl, rfl, rfl⟩
  have hP := err_yes h
  obtain ⟨e, hN, hN2, hn, hv⟩ := befP_ok hP
  obtain ⟨hokD, hmax⟩ := okC_iff.1 hc
  unfold maxI at hmax
  have hcm : val0 (cmM (befP N l) (dsE (befP N l)) 0) = (cmp (befP N l) 0 : Int) := cm_val (B := befP N l) (S := dsE (befP N l)) (t := 0) zero_mem
  rw [hcm]
  refine ⟨by rw [hP, hN]; rfl, hn, hc, fun h => (by cases h), fun _ => ⟨fun hr => ?_, fun hr => ?_⟩⟩
  · have hr : ntO (befP N l) r = true := hr
    rw [ntL, ntE, hP, hc, hr]
    exact ⟨rfl, rfl, rfl, rfl⟩
  have hr0 : ntO (befP N l) r = false := hr
  rw [Bool.or_eq_false_iff] at hr
  have hr1 := of_decide_eq_false hr.1
  have hr2 := of_decide_eq_false hr.2
  have hrr : ((r.toNat : Nat) : Int) = r := by omega
  have hL : ntL N l r = (ntS (befP N l) r.toNat N.toNat).1 := by rw [ntL, hP, hc, hr0]; rfl
  have hE : ntE N l r = 0 := by rw [ntE, hP, hc, hr0]; rfl
  have hall := nt_all hN hn hokD (r := r.toNat) (by omega)
  rw [hP, cond_true]
  refine ⟨(), ⟨0, Nat.zero_le _, ⟨rfl, rfl, hrr.symm⟩, rfl, rfl⟩, fun k hk => ⟨fun hlt => ?_, fun hlt => ?_⟩⟩
  · have hI := hall k (by omega)
    have hk2 : k < N.toNat := by have := of_decide_eq_true hlt; rw [hI.len] at this; omega
    have hI1 := hall (k + 1) (by omega)
    obtain ⟨y, hy, hyY, hyf, hy1, hy2⟩ := nt_step hN hn hokD hI (by omega)
    have hsu := ntS_succ hyY
    have hs64 := (dn_lt hI.dn hn).2
    have hcs := dn_sum hI.dn hn (by rw [hI.len]; omega)
    have hle := dn_le hI.dn hn
    have hrl := hI.lt
    have hil := hI.len
    refine ⟨k, ⟨0, ⟨Nat.zero_le _, hk2, Nat.zero_le _⟩, rfl, rfl, rfl, by rw [sumF, Nat.sub_zero]⟩, fun x hx => ⟨fun hlx => ?_, fun hlx => ?_⟩⟩
    · obtain ⟨hx1, hx2, hx3⟩ := hx
      have hxN : x < (befP N l).length := by have := of_decide_eq_true hlx; omega
      have hw := wrS (n := 64) (i := x) (by omega) (by omega)
      have hor := or_shl (x := x) hs64 (by omega)
      have hss : sumF (befP N l) (maskM (ntS (befP N l) r.toNat k).1) (cmp (befP N l)) (x + 1) = sumF (befP N l) (maskM (ntS (befP N l) r.toNat k).1) (cmp (befP N l)) x + bif frR (befP N l) (maskM (ntS (befP N l) r.toNat k).1 : Int) x then cmp (befP N l) (maskM (ntS (befP N l) r.toNat k).1 ||| 2 ^ x) else 0 := rfl
      refine ⟨⟨by omega, by omega⟩, by omega, fun hf => ?_, fun hf => ?_⟩
      · have hf : frR (befP N l) (maskM (ntS (befP N l) r.toNat k).1 : Int) x = false := by simpa using hf
        simp only [hf, cond_false, Nat.add_zero] at hss
        exact ⟨x + 1, ⟨by omega, hk2, by omega⟩, by omega, by rw [hss], hw⟩
      · have hf : frR (befP N l) (maskM (ntS (befP N l) r.toNat k).1 : Int) x = true := by simpa using hf
        rw [hf, cond_true] at hss
        rw [hor, cm_val (dsE_step hn hokD hI.dn.mem hxN hf)]
        refine ⟨⟨by omega, by simp [IntKind.bits]; omega⟩, fun hc => ?_, fun hc => ?_⟩
        · have hc := of_decide_eq_true hc
          have hyx : ntY (befP N l) (maskM (ntS (befP N l) r.toNat k).1) (ntS (befP N l) r.toNat k).2 = x := ntY_eq hxN (by omega) hx3
          have hxy : y = x := by rw [← hyY]; exact hyx
          subst hxy
          refine ⟨rfl, by omega, by omega, ⟨by omega, by simp [IntKind.bits]; omega⟩, k + 1, hk2, by omega, ⟨by rw [hsu], by rw [hsu]; simp, by rw [hsu]; exact mask_snoc.symm ▸ rfl⟩, by rw [hsu]; simp, fun j hj => ?_⟩
          rw [hsu] at hj ⊢
          exact ap1I j hj
        · have hc := of_decide_eq_false hc
          refine ⟨x + 1, ⟨by omega, hk2, by omega⟩, by omega, ?_, hw⟩
          rw [w64_eq (by omega) (by omega)]; omega
    · obtain ⟨hx1, hx2, hx3⟩ := hx
      have : x = (befP N l).length := by have := of_decide_eq_false hlx; omega
      rw [this] at hx3
      omega
  · have hI := hall k (by omega)
    have hk2 : k = N.toNat := by have := of_decide_eq_false hlt; rw [hI.len] at this; omega
    rw [hL, hE, hk2]
    exact ⟨rfl, fun _ _ => rfl, rfl, rfl⟩
theorem fo22 : fnOk Try.prog 22 := ⟨Try.f22, Try.func22, by kernel_rfl, by kernel_rfl⟩
theorem fo29 : fnOk Try.prog 29 := ⟨Try.f29, Try.func29, by kernel_rfl, by kernel_rfl⟩
theorem fo31 : fnOk Try.prog 31 := ⟨Try.f31, Try.func31, by kernel_rfl, by kernel_rfl⟩
def t22 : List AV → Tab
  | [.r N l] => tab [kChk [none, none, some (.us (befP N l))], kDow [none, none, some (.us (befP N l))]] []
  | _ => tab [] []
theorem c22 : CallOk Try.prog [] 22 (genF EL [] [.r] sDws) := by
  refine okT (fn := Try.f22) Try.func22 fo22 t22 (fun av => ?_) (fun av => ?_) (fun av pre rv h => ?_) (fun av pre rv h hp => ?_)
  · unfold t22; split <;> first | exact tabOk (mOne (n33 _) (mOne (n42 _) mNil)) | exact tabOk mNil
  · unfold t22; split <;> exact ⟨rfl, rfl⟩
  · unfold sDws at h; split at h <;> cases h
    exact ⟨rfl, fun t a e => by cases e <;> exact List.cons_ne_nil _ _⟩
  · unfold sDws at h; split at h <;> cases h
    exact v22 _ _ _ rfl (hp _ (.head _))
theorem n22 (nm : List (Option AV)) : CallOk Try.prog [] 22 (genF EL nm [.r] sDws) := genNm c22
def t29 : List AV → Tab
  | [.r N l, .is o] => bif okC (befP N l) then tab [kChk [none, none, none, some (.us (befP N l))], kIs [], kCmp [none, none, none, some (.us (befP N l))], kFre [none, none, none, some (.us (befP N l))]] [(0, .of (lRk0 (befP N l) o)), (2, lRk1 (befP N l) o)] else tab [kChk [none, none, none, some (.us (befP N l))], kIs [], kCmE [none, none, none, some (.us (befP N l))], kFre [none, none, none, some (.us (befP N l))]] []
  | _ => tab [] []
theorem c29 : CallOk Try.prog [] 29 (genF EL [] [.r, .is] sRnk) := by
  refine okT (fn := Try.f29) Try.func29 fo29 t29 (fun av => ?_) (fun av => ?_) (fun av pre rv h => ?_) (fun av pre rv h hp => ?_)
  · unfold t29; split
    · rename_i N l o
      cases okC (befP N l)
      · exact tabOk (mOne (n33 _) (mOne (n16 _) (mOne (n44e _) (mOne (n34 _) mNil))))
      · exact tabOk (mOne (n33 _) (mOne (n16 _) (mOne (n44 _) (mOne (n34 _) mNil))))
    · exact tabOk mNil
  · unfold t29; split
    · rename_i N l o
      cases okC (befP N l) <;> exact ⟨rfl, rfl⟩
    · exact ⟨rfl, rfl⟩
  · unfold sRnk at h; split at h <;> cases h
    exact ⟨rfl, fun t a e => by cases e <;> exact List.cons_ne_nil _ _⟩
  · unfold sRnk at h; split at h <;> cases h
    rename_i N l o
    unfold t29
    cases hc : okC (befP N l)
    · simp only [hc, cond_false]
      exact v29e _ _ _ _ rfl (hp _ (.head _)) (hp _ (.tail _ (.head _))) hc
    · simp only [hc, cond_true]
      exact v29 _ _ _ _ rfl (hp _ (.head _)) (hp _ (.tail _ (.head _))) hc
theorem n29 (nm : List (Option AV)) : CallOk Try.prog [] 29 (genF EL nm [.r, .is] sRnk) := genNm c29
def t31 : List AV → Tab
  | [.r N l, .i r] => bif okC (befP N l) then tab [kChk [none, none, none, some (.us (befP N l))], kCmp [none, none, none, some (.us (befP N l))], kFre [none, none, none, some (.us (befP N l))]] [(0, .of (lNt0 N (befP N l) r.toNat 6)), (2, lNt1 N (befP N l) r.toNat 6)] else tab [kChk [none, none, none, some (.us (befP N l))], kCmE [none, none, none, some (.us (befP N l))]] []
  | _ => tab [] []
theorem c31 : CallOk Try.prog [] 31 (genF EL [] [.r, .i] sNth) := by
  refine okT (fn := Try.f31) Try.func31 fo31 t31 (fun av => ?_) (fun av => ?_) (fun av pre rv h => ?_) (fun av pre rv h hp => ?_)
  · unfold t31; split
    · rename_i N l r
      cases okC (befP N l)
      · exact tabOk (mOne (n33 _) (mOne (n44e _) mNil))
      · exact tabOk (mOne (n33 _) (mOne (n44 _) (mOne (n34 _) mNil)))
    · exact tabOk mNil
  · unfold t31; split
    · rename_i N l r
      cases okC (befP N l) <;> exact ⟨rfl, rfl⟩
    · exact ⟨rfl, rfl⟩
  · unfold sNth at h; split at h <;> cases h
    exact ⟨rfl, fun t a e => by cases e <;> exact List.cons_ne_nil _ _⟩
  · unfold sNth at h; split at h <;> cases h
    rename_i N l r
    unfold t31
    cases hc : okC (befP N l)
    · simp only [hc, cond_false]
      exact v31e _ _ _ _ rfl (hp _ (.head _)) hc
    · simp only [hc, cond_true]
      exact v31 _ _ _ _ rfl (hp _ (.head _)) hc
theorem n31 (nm : List (Option AV)) : CallOk Try.prog [] 31 (genF EL nm [.r, .i] sNth) := genNm c31
end Go.Proofs.Ytiokmglajigngaa
namespace Go.Proofs.Ytiokmglajigngaa
open Go Go.Proofs.Ytiokmglajigngaa.Sx
/-- The extensions that begin with a prefix, where k elements lack. -/
def extN (N : Int) (l : List Pq) : Nat → List Int → List (List Int)
  | 0, P => [P]
  | k + 1, P => (nxtL N l P).flatMap (fun x => extN N l k (P ++ [x]))
def extP (N : Int) (l : List Pq) (P : List Int) : List (List Int) := extN N l (N.toNat - P.length) P
/-- What is behind a visit, and whether it may go on. -/
def vsL (N : Int) (l : List Pq) (lim : Int) (P : List Int) (L : List (List Int)) : List (List Int) := (L ++ extP N l P).take (lim.toNat + 1)
def vsB (N : Int) (l : List Pq) (lim : Int) (P : List Int) (L : List (List Int)) : Bool := Nat.ble (L ++ extP N l P).length lim.toNat
def rowsG (g2 : Nat → Nat → Int) (len : Nat → Nat) (k : Nat) : List (List Int) := mkN (fun j => mkN (g2 j) (len j)) k
def visFA : SV := .fn 39 [.ptr 0 0, .ptr 1 0, .ptr 2 0, .ptr 3 0, .ptr 4 0]
def visMA (N lim : Int) (B : List Int) (g : Nat → Int) (n : Nat) (g2 : Nat → Nat → Int) (len : Nat → Nat) (k : Nat) : List MBlk :=
  [.cells [.sl 5 n], .cells [.i .i64 N, .sl 6 B.length], .cells [.sl 7 k], .cells [.i .i64 lim], .cells [visFA], .oarr 3 n [.int .i64 g], .oarr 54 B.length (usCols B), .oarr 25 k [.rows len [g2]]]
def visVA (s : Int) : List SV := [.i .u64 s, .ptr 0 0, .ptr 1 0, .ptr 2 0, .ptr 3 0, .ptr 4 0]
def visUpA (N lim : Int) (B : List Int) (P : List Int) (L : List (List Int)) : List (Nat × MBlk) :=
  [(0, .cells [.sl 5 P.length]), (1, .cells [.i .i64 N, .sl 6 B.length]), (2, .cells [.sl 7 L.length]), (3, .cells [.i .i64 lim]), (4, .cells [visFA]), (5, .oarr 3 P.length (isCols P)), (6, .oarr 54 B.length (usCols B)), (7, .oarr 25 L.length (rsCols L))]
def preA (N : Int) (l : List Pq) (lim : Int) (F : Nat) (P : List Int) (L : List (List Int)) (s : Int) : List Prop :=
  [s = (maskM P : Int), ∀ y ∈ P, 0 ≤ y ∧ y < N, P.length ≤ N.toNat, 0 < N.toNat, N.toNat < P.length + F, (L.length : Int) ≤ lim]
def kVisA (N : Int) (l : List Pq) (lim : Int) (F : Nat) : List MBlk → List SV → Option BRes
  | m, [.i .u64 s, .ptr e1 0, .ptr e2 0, .ptr e3 0, .ptr e4 0, .ptr e5 0] => match nth m e1, nth m e2, nth m e3, nth m e4, nth m e5 with
    | some (.cells [.sl r n]), some (.cells [.i .i64 N', .sl q nb]), some (.cells [.sl w k]), some (.cells [.i .i64 lim']), some (.cells [.fn 39 [.ptr p1 0, .ptr p2 0, .ptr p3 0, .ptr p4 0, .ptr p5 0]]) => match nth m r, nth m q, nth m w with
      | some (.oarr 3 n' [.int .i64 g]), some (.oarr 54 nb' [.int .u64 h]), some (.oarr 25 k' [.rows len [g2]]) =>
        bif Nat.beq p1 e1 && Nat.beq p2 e2 && Nat.beq p3 e3 && Nat.beq p4 e4 && Nat.beq p5 e5 && nodupN [e1, e2, e3, e4, e5, r, q, w] then
          some (tB [e1, e2, e3, e4, e5, r, q, w] [5, 7] (visUpA N lim (befL N.toNat l) (mkN g n') (vsL N l lim (mkN g n') (rowsG g2 len k'))) (.b (vsB N l lim (mkN g n') (rowsG g2 len k'))) ([n = n', k = k', nb = (befL N.toNat l).length, nb' = (befL N.toNat l).length, h = nthD 0 (befL N.toNat l), N' = N, lim' = lim] ++ preA N l lim F (mkN g n') (rowsG g2 len k') s))
        else none
      | _, _, _ => none
    | _, _, _, _, _ => none
  | _, _ => none
def sCln : Sp := fun | [.is P] => some ([L9 P, 0 < P.length], .sl (fun k => .sl 0 k) (.is P)) | _ => none
def kCln (nm : List (Option AV)) : Nat × (List MBlk → List SV → Option AR) := (40, genF EL nm [.is] sCln)
def tabA (N : Int) (l : List Pq) (lim : Int) (F : Nat) (loops : List (Nat × PLoop)) (pins : List (Nat × (Option Addr × Nat))) : Tab := ⟨tyTab, [], [kFre [none, none, none, none, none, none, some (.us (befL N.toNat l))], kCln []], loops, [(39, kVisA N l lim F)], pins, [], [1000000]⟩
def vsK (N : Int) (l : List Pq) (P : List Int) (L : List (List Int)) (k : Nat) : List (List Int) := L ++ (nxtK l P k).flatMap (fun x => extP N l (P ++ [x]))
def lAl (N : Int) (l : List Pq) (lim : Int) (P : List Int) (L : List (List Int)) : LAnn := ⟨Nat, fun k => k ≤ N.toNat ∧ ((vsK N l P L k).length : Int) ≤ lim ∧ P.length < N.toNat, fun k => [(26, .i .i64 (k : Int))], fun k => [(0, .cells [.sl 5 P.length]), (5, .oarr 3 P.length (isCols P)), (2, .cells [.sl 7 (vsK N l P L k).length]), (7, .oarr 25 (vsK N l P L k).length (rsCols (vsK N l P L k)))], fun k => N.toNat - k, [5, 7], []⟩
def visPostA (N lim : Int) (B : List Int) (P : List Int) (L : List (List Int)) (b : Bool) : SV → List MBlk → Prop := fun sv m' => veq (.b b) sv ∧ memAll (expGo (visUpA N lim B P L) 0 8) m'
end Go.Proofs.Ytiokmglajigngaa
