/-
  The linext layer: the reference's levels: can, add.
-/
import Derived.Test.YtiokmglajigngaaW35
namespace Go.Proofs.Ytiokmglajigngaa
open Go Go.Proofs.Ytiokmglajigngaa.Sx
set_option maxRecDepth 100000
set_option linter.unusedSimpArgs false
set_option linter.unusedVariables false
theorem wrB {x : Int} (h : 0 ≤ x) (h' : x < 64) : IntKind.u64.wrap x = x := by
  obtain ⟨n, rfl⟩ := Int.eq_ofNat_of_zero_le h
  exact u64_wrap (by omega)
theorem wrB2 {x : Int} (h : 0 ≤ x) (h' : x < 64) : 0 ≤ IntKind.u64.wrap x ∧ IntKind.u64.wrap x ≤ (IntKind.u64.bits : Int) := by
  rw [wrB h h']; exact ⟨h, by show x ≤ 64; omega⟩
theorem nthM' {α : Type} (d : α) {l : List α} {i : Nat} (h : i < l.length) : nthD d l i ∈ l := by
  rw [nthD_get d l i h]; exact List.getElem_mem h
theorem addL_new {s w : Int} : ∀ {L : List Pq}, (∀ p ∈ L, p.1 ≠ s) → addL L s w = L ++ [(s, w)]
  | [], _ => rfl
  | p :: r, h => by
    rw [addL, show (p.1 == s) = false from beq_false_of_ne (h p (.head _)), cond_false, addL_new fun q hq => h q (.tail _ hq)]; rfl
theorem addL_at {s w : Int} : ∀ {L : List Pq} {k : Nat}, k < L.length → (∀ j, j < k → (nthD (0, 0) L j).1 ≠ s) → (nthD (0, 0) L k).1 = s → (addL L s w).length = L.length ∧ ∀ j, nthD (0, 0) (addL L s w) j = bif Nat.beq j k then ((nthD (0, 0) L j).1, (nthD (0, 0) L j).2 + w) else nthD (0, 0) L j
  | [], k, h, _, _ => absurd h (Nat.not_lt_zero _)
  | p :: r, 0, h, _, e => by
    have e : p.1 = s := e
    rw [addL, show (p.1 == s) = true from beq_iff_eq.2 e, cond_true]
    refine ⟨rfl, fun j => ?_⟩
    cases j with
    | zero => rfl
    | succ j => rfl
  | p :: r, k + 1, h, hn, e => by
    have h0 : p.1 ≠ s := hn 0 (Nat.succ_pos _)
    obtain ⟨q1, q2⟩ := addL_at (L := r) (k := k) (Nat.lt_of_succ_lt_succ h) (fun j hj => hn (j + 1) (Nat.succ_lt_succ hj)) e
    rw [addL, show (p.1 == s) = false from beq_false_of_ne h0, cond_false]
    refine ⟨by rw [List.length_cons, q1]; rfl, fun j => ?_⟩
    cases j with
    | zero => rfl
    | succ j => exact q2 j
theorem v48_eq (N : Int) (l : List Pq) (s x : Int) : (fnVc (tab [] [(0, .of (lCan l s x 7))]) Try.f48 [rlV N 0 l, .i .u64 s, .i .i64 x] [arP l] (plainIs (.b (canF l s x)))) = (((0 : Int) ≤ IntKind.u64.wrap x ∧ IntKind.u64.wrap x ≤ (↑IntKind.u64.bits : Int)) ∧
 ((bits BinOp.and IntKind.u64 (s / (2 : Int) ^ (IntKind.u64.wrap x).toNat) (1 : Int) == (1 : Int)) = true →
 false = canF l s x) ∧
 ((bits BinOp.and IntKind.u64 (s / (2 : Int) ^ (IntKind.u64.wrap x).toNat) (1 : Int) == (1 : Int)) = false →
 ∃ (x_1 : PUnit),
 (∃ (x_2 : Nat),
 (x_2 ≤ l.length ∧
 ((List.take x_2 l).all fun (p : Pq) => !(p.snd == x && bitS s p.fst == (0 : Int))) = true) ∧
 ((0 : Int) = (↑x_2 : Int) ∧ True) ∧ True) ∧
 ∀ (x_2 : Nat),
 x_2 ≤ l.length ∧ ((List.take x_2 l).all fun (p : Pq) => !(p.snd == x && bitS s p.fst == (0 : Int))) = true →
 (decide ((↑x_2 : Int) < (↑l.length : Int)) = true →
 ((0 : Int) ≤ (↑x_2 : Int) ∧ (↑x_2 : Int) < (↑l.length : Int)) ∧
 x_2 < l.length ∧
 (((nthD ((0 : Int), (0 : Int)) l x_2).snd == x) = true →
 (0 : Int) ≤ (↑x_2 : Int) ∧ (↑x_2 : Int) < (↑l.length : Int)) ∧
 (((nthD ((0 : Int), (0 : Int)) l x_2).snd == x) = true → x_2 < l.length) ∧
 (((nthD ((0 : Int), (0 : Int)) l x_2).snd == x) = true →
 (0 : Int) ≤ IntKind.u64.wrap (nthD ((0 : Int), (0 : Int)) l x_2).fst ∧
 IntKind.u64.wrap (nthD ((0 : Int), (0 : Int)) l x_2).fst ≤ (↑IntKind.u64.bits : Int)) ∧
 (((nthD ((0 : Int), (0 : Int)) l x_2).snd == x &&
 bits BinOp.and IntKind.u64
 (s /
 (2 : Int) ^ (IntKind.u64.wrap (nthD ((0 : Int), (0 : Int)) l x_2).fst).toNat)
 (1 : Int) ==
 (0 : Int)) =
 true →
 false = canF l s x) ∧
 (((nthD ((0 : Int), (0 : Int)) l x_2).snd == x &&
 bits BinOp.and IntKind.u64
 (s /
 (2 : Int) ^ (IntKind.u64.wrap (nthD ((0 : Int), (0 : Int)) l x_2).fst).toNat)
 (1 : Int) ==
 (0 : Int)) =
 false →
 ∃ (x_3 : Nat),
 (x_3 ≤ l.length ∧
 ((List.take x_3 l).all fun (p : Pq) =>
 !(p.snd == x && bitS s p.fst == (0 : Int))) =
 true) ∧
 ((PLoop.of (lCan l s x (7 : Nat))).ann x_1).mu x_3 <
 ((PLoop.of (lCan l s x (7 : Nat))).ann x_1).mu x_2 ∧
 ((N = N ∧ l.length = l.length) ∧
 s = s ∧
 x = x ∧
 True ∧
 IntKind.i64.wrap ((↑x_2 : Int) + (1 : Int)) = (↑x_3 : Int) ∧
 s = s ∧
 x = x ∧
 IntKind.u64.wrap x = IntKind.u64.wrap x ∧
 s / (2 : Int) ^ (IntKind.u64.wrap x).toNat =
 s / (2 : Int) ^ (IntKind.u64.wrap x).toNat ∧
 bits BinOp.and IntKind.u64
 (s / (2 : Int) ^ (IntKind.u64.wrap x).toNat) (1 : Int) =
 bits BinOp.and IntKind.u64
 (s / (2 : Int) ^ (IntKind.u64.wrap x).toNat) (1 : Int) ∧
 false = false ∧ True) ∧
 (l.length = l.length ∧
 (∀ (j : Nat),
 j < l.length →
 (nthD ((0 : Int), (0 : Int)) l j).fst =
 (nthD ((0 : Int), (0 : Int)) l j).fst) ∧
 (∀ (j : Nat),
 j < l.length →
 (nthD ((0 : Int), (0 : Int)) l j).snd =
 (nthD ((0 : Int), (0 : Int)) l j).snd) ∧
 True) ∧
 (N = N ∧ l.length = l.length) ∧ True)) ∧
 (decide ((↑x_2 : Int) < (↑l.length : Int)) = false → true = canF l s x))) := by kernel_rfl
theorem v48 (N : Int) (l : List Pq) (s x : Int) (hl : L9 l) (hx : 0 ≤ x ∧ x < 64) (hp : ∀ p ∈ l, 0 ≤ p.1 ∧ p.1 < 64) : fnVc (tab [] [(0, .of (lCan l s x 7))]) Try.f48 [rlV N 0 l, .i .u64 s, .i .i64 x] [arP l] (plainIs (.b (canF l s x))) := by
  rw [v48_eq]
  simp only [eq_self, true_and, and_true, implies_true, imp_self, psK_eq, mkN_ps, mkN_self, mkN_len, PLoop.of, lCnt, lCan, lAdd, Nat.zero_add]
  refine ⟨wrB2 hx.1 hx.2, fun h => ?_, fun h => ⟨(), ⟨0, ⟨Nat.zero_le _, rfl⟩, rfl⟩, fun i hi => ⟨fun hlt => ?_, fun hge => ?_⟩⟩⟩
  · rw [canF, bitS, h]; rfl
  · have hi2 : i < l.length := by have := of_decide_eq_true hlt; omega
    have hm := nthM' (0, 0) hi2
    refine ⟨⟨by omega, by omega⟩, hi2, fun _ => ⟨by omega, by omega⟩, fun _ => hi2, fun _ => wrB2 (hp _ hm).1 (hp _ hm).2, fun hb => ?_, fun hb => ⟨i + 1, ⟨hi2, ?_⟩, by omega, wrS hi2 hl⟩⟩
    · symm
      rw [canF, Bool.and_eq_false_iff]
      right
      rw [Bool.eq_false_iff]
      intro ha
      have := List.all_eq_true.1 ha _ hm
      rw [bitS, hb] at this
      cases this
    · rw [take_succ' (0, 0) hi2, List.all_append, hi.2, Bool.true_and, List.all_cons, List.all_nil, bitS, hb]; rfl
  · have : i = l.length := by have := of_decide_eq_false hge; omega
    subst this
    have h2 := hi.2
    rw [List.take_length] at h2
    rw [canF, bitS, h, h2]; rfl
theorem v49_eq (g h : Nat → Int) (n : Nat) (s w : Int) : (fnVc (tab [] [(0, .of (lAdd g n s 7))]) Try.f49 [.agg [.sl 0 n, .sl 1 n, .ff], .i .u64 s, .i .i64 w] (addM g h n) (addPost (addL (mkN (fun j => (g j, h j)) n) s w))) = (∃ (x : PUnit),
 (∃ (x : Nat), (x ≤ n ∧ ∀ (j : Nat), j < x → g j ≠ s) ∧ ((0 : Int) = (↑x : Int) ∧ True) ∧ True) ∧
 ∀ (x_1 : Nat),
 (x_1 ≤ n ∧ ∀ (j : Nat), j < x_1 → g j ≠ s) →
 (decide ((↑x_1 : Int) < (↑n : Int)) = true → (0 : Int) ≤ (↑x_1 : Int) ∧ (↑x_1 : Int) < (↑n : Int)) ∧
 (decide ((↑x_1 : Int) < (↑n : Int)) = true → x_1 < n) ∧
 ((decide ((↑x_1 : Int) < (↑n : Int)) && g x_1 != s) = true →
 ∃ (x_2 : Nat),
 (x_2 ≤ n ∧ ∀ (j : Nat), j < x_2 → g j ≠ s) ∧
 ((PLoop.of (lAdd g n s (7 : Nat))).ann x).mu x_2 <
 ((PLoop.of (lAdd g n s (7 : Nat))).ann x).mu x_1 ∧
 ((n = n ∧ n = n ∧ false = false) ∧
 s = s ∧
 w = w ∧ True ∧ True ∧ IntKind.i64.wrap ((↑x_1 : Int) + (1 : Int)) = (↑x_2 : Int) ∧ True) ∧
 (n = n ∧ (∀ (j : Nat), j < n → g j = g j) ∧ True) ∧
 (n = n ∧ (∀ (j : Nat), j < n → h j = h j) ∧ True) ∧
 (n = n ∧ n = n ∧ false = false) ∧ (True ∧ True ∧ false = false) ∧ True) ∧
 ((decide ((↑x_1 : Int) < (↑n : Int)) && g x_1 != s) = false →
 (((↑x_1 : Int) == (↑n : Int)) = true →
 n = n ∧
 (1 : Nat) = (1 : Nat) ∧
 (n + (1 : Nat)) * (8 : Nat) ≤ (140737488355328 : Nat) ∧
 n + (1 : Nat) ≤ (9223372036854775807 : Nat) ∧
 n = n ∧
 (1 : Nat) = (1 : Nat) ∧
 (n + (1 : Nat)) * (8 : Nat) ≤ (140737488355328 : Nat) ∧
 n + (1 : Nat) ≤ (9223372036854775807 : Nat) ∧
 (n + (1 : Nat) = (addL (mkN (fun (j : Nat) => (g j, h j)) n) s w).length ∧
 n + (1 : Nat) = (addL (mkN (fun (j : Nat) => (g j, h j)) n) s w).length ∧
 false = false) ∧
 (n + (1 : Nat) = (addL (mkN (fun (j : Nat) => (g j, h j)) n) s w).length ∧
 (∀ (j : Nat),
 j < (addL (mkN (fun (j : Nat) => (g j, h j)) n) s w).length →
 (bif j.blt n then g j else pickI [s] (j - n)) =
 (nthD ((0 : Int), (0 : Int))
 (addL (mkN (fun (j : Nat) => (g j, h j)) n) s w) j).fst) ∧
 True) ∧
 (n + (1 : Nat) = (addL (mkN (fun (j : Nat) => (g j, h j)) n) s w).length ∧
 (∀ (j : Nat),
 j < (addL (mkN (fun (j : Nat) => (g j, h j)) n) s w).length →
 (bif j.blt n then h j else pickI [w] (j - n)) =
 (nthD ((0 : Int), (0 : Int))
 (addL (mkN (fun (j : Nat) => (g j, h j)) n) s w) j).snd) ∧
 True) ∧
 True) ∧
 (((↑x_1 : Int) == (↑n : Int)) = false →
 ((0 : Int) ≤ (↑x_1 : Int) ∧ (↑x_1 : Int) < (↑n : Int)) ∧
 x_1 < n ∧
 ((0 : Int) ≤ (↑x_1 : Int) ∧ (↑x_1 : Int) < (↑n : Int)) ∧
 x_1 < n ∧
 ((0 : Int) ≤ (↑x_1 : Int) ∧ (↑x_1 : Int) < (↑n : Int)) ∧
 x_1 < n ∧
 (n = (addL (mkN (fun (j : Nat) => (g j, h j)) n) s w).length ∧
 n = (addL (mkN (fun (j : Nat) => (g j, h j)) n) s w).length ∧
 decide
 ((bif x_1.beq x_1 then IntKind.i64.wrap (h x_1 + w) else h x_1) < (0 : Int)) =
 false) ∧
 (n = (addL (mkN (fun (j : Nat) => (g j, h j)) n) s w).length ∧
 (∀ (j : Nat),
 j < (addL (mkN (fun (j : Nat) => (g j, h j)) n) s w).length →
 g j =
 (nthD ((0 : Int), (0 : Int))
 (addL (mkN (fun (j : Nat) => (g j, h j)) n) s w) j).fst) ∧
 True) ∧
 (n = (addL (mkN (fun (j : Nat) => (g j, h j)) n) s w).length ∧
 (∀ (j : Nat),
 j < (addL (mkN (fun (j : Nat) => (g j, h j)) n) s w).length →
 (bif j.beq x_1 then IntKind.i64.wrap (h x_1 + w) else h j) =
 (nthD ((0 : Int), (0 : Int))
 (addL (mkN (fun (j : Nat) => (g j, h j)) n) s w) j).snd) ∧
 True) ∧
 True))) := by kernel_rfl
theorem v49 (g h : Nat → Int) (n : Nat) (s w : Int) (hn : n ≤ 1099511627776) (hw : 0 ≤ w ∧ w ≤ 1099511627776) (hp : ∀ j, j < n → 0 ≤ h j ∧ h j ≤ 1099511627776) : fnVc (tab [] [(0, .of (lAdd g n s 7))]) Try.f49 [.agg [.sl 0 n, .sl 1 n, .ff], .i .u64 s, .i .i64 w] (addM g h n) (addPost (addL (mkN (fun j => (g j, h j)) n) s w)) := by
  rw [v49_eq]
  simp only [eq_self, true_and, and_true, implies_true, imp_self, psK_eq, mkN_ps, mkN_self, mkN_len, PLoop.of, lCnt, lCan, lAdd, Nat.zero_add]
  have e1 : ∀ j, j < n → nthD (0, 0) (mkN (fun j => (g j, h j)) n) j = (g j, h j) := fun j hj => nthD_mkN _ _ hj
  generalize hL : mkN (fun j => (g j, h j)) n = L at *
  have hlen : L.length = n := by rw [← hL, mkN_len]
  refine ⟨(), ⟨0, ⟨Nat.zero_le _, fun j hj => absurd hj (Nat.not_lt_zero _)⟩, rfl⟩, fun k hk => ⟨fun hd => ?_, fun hd => ?_, fun hb => ?_, fun hb => ⟨fun he => ?_, fun he => ?_⟩⟩⟩
  · have := of_decide_eq_true hd; omega
  · have := of_decide_eq_true hd; omega
  · rw [Bool.and_eq_true] at hb
    have h1 := of_decide_eq_true hb.1
    have h2 : g k ≠ s := by simpa using hb.2
    refine ⟨k + 1, ⟨by omega, fun j hj => ?_⟩, by omega, wrS (n := n) (by omega) hn⟩
    rcases Nat.lt_or_ge j k with h3 | h3
    · exact hk.2 j h3
    · have : j = k := by omega
      rw [this]; exact h2
  · have hkn : k = n := by have : (k : Int) = n := by simpa using he
                           omega
    subst hkn
    have ha : addL L s w = L ++ [(s, w)] := addL_new fun p hm => by
      obtain ⟨j, hj, rfl⟩ := List.getElem_of_mem hm
      have h1 := e1 j (by omega)
      rw [nthD_get _ _ _ hj] at h1
      rw [h1]; exact hk.2 j (by omega)
    have hal : (addL L s w).length = k + 1 := by rw [ha]; simp [hlen]
    have hg : ∀ j, j < (addL L s w).length → (bif Nat.blt j k then g j else pickI [s] (j - k)) = (nthD (0, 0) (addL L s w) j).1 ∧ (bif Nat.blt j k then h j else pickI [w] (j - k)) = (nthD (0, 0) (addL L s w) j).2 := fun j hj => by
      rw [ha]
      by_cases h3 : j < k
      · rw [blt_t h3, cond_true, cond_true, nthD_lt _ (by omega), e1 j h3]; exact ⟨rfl, rfl⟩
      · have : j = L.length := by omega
        subst this
        rw [blt_f h3, cond_false, cond_false, nthD_at]; exact ⟨rfl, rfl⟩
    exact ⟨by omega, by omega, by omega, by omega, ⟨hal.symm, hal.symm⟩, ⟨hal.symm, fun j hj => (hg j hj).1⟩, hal.symm, fun j hj => (hg j hj).2⟩
  · have hne : k ≠ n := fun e => by subst e; simp at he
    have hkn : k < n := by omega
    have hgs : g k = s := by
      rw [decide_eq_true (show (k : Int) < (n : Int) by omega), Bool.true_and] at hb
      simpa using hb
    obtain ⟨a1, a2⟩ := addL_at (L := L) (s := s) (w := w) (k := k) (by omega) (fun j hj => by rw [e1 j (by omega)]; exact hk.2 j hj) (by rw [e1 k hkn]; exact hgs)
    have hpk := hp k hkn
    have hwr : IntKind.i64.wrap (h k + w) = h k + w := w64_eq (by omega) (by omega)
    have hal : n = (addL L s w).length := by rw [a1, hlen]
    refine ⟨⟨by omega, by omega⟩, hkn, ⟨by omega, by omega⟩, hkn, ⟨by omega, by omega⟩, hkn, ⟨hal, hal, ?_⟩, ⟨hal, fun j hj => ?_⟩, hal, fun j hj => ?_⟩
    · rw [Nat.beq_refl, cond_true, hwr]; exact decide_eq_false (by omega)
    · have hj' : j < n := by omega
      rw [a2 j, e1 j hj']; cases Nat.beq j k <;> rfl
    · have hj' : j < n := by omega
      rw [a2 j, e1 j hj', hwr]
      cases hbk : Nat.beq j k
      · rfl
      · have := Nat.eq_of_beq_eq_true hbk
        subst this
        rfl
theorem fo48 : fnOk Try.prog 48 := ⟨Try.f48, Try.func48, by kernel_rfl, by kernel_rfl⟩
theorem fo49 : fnOk Try.prog 49 := ⟨Try.f49, Try.func49, by kernel_rfl, by kernel_rfl⟩
def t48 : List AV → Tab
  | [.r N l, .u s, .i x] => tab [] [(0, .of (lCan l s x 7))]
  | _ => tab [] []
theorem c48 : CallOk Try.prog [] 48 (genF EL [] [.r, .u, .i] sCan) := by
  refine okT (fn := Try.f48) Try.func48 fo48 t48 (fun av => ?_) (fun av => ?_) (fun av pre rv h => ?_) (fun av pre rv h hp => ?_)
  · unfold t48; split <;> first | exact tabOk mNil | exact tabOk mNil
  · unfold t48; split <;> exact ⟨rfl, rfl⟩
  · unfold sCan at h; split at h <;> cases h
    exact ⟨rfl, fun t a e => by cases e <;> exact List.cons_ne_nil _ _⟩
  · unfold sCan at h; split at h <;> cases h
    exact v48 _ _ _ _ (hp _ (.head _)) (hp _ (.tail _ (.head _))) (hp _ (.tail _ (.tail _ (.head _))))
theorem n48 (nm : List (Option AV)) : CallOk Try.prog [] 48 (genF EL nm [.r, .u, .i] sCan) := genNm c48
theorem mkN_get2 {g h : Nat → Int} {n j : Nat} (hj : j < n) : (g j, h j) ∈ mkN (fun j => (g j, h j)) n := by
  have := nthM' (0, 0) (l := mkN (fun j => (g j, h j)) n) (i := j) (by rw [mkN_len]; exact hj)
  rw [nthD_mkN _ _ hj] at this
  exact this
theorem b49 : CallOkB Try.prog [] 49 kAdd := by
  refine callOkB Try.func49 fo49 fun m vs b h hp => ?_
  unfold kAdd at h
  repeat' (split at h)
  all_goals first | cases h | skip
  rename_i _ _ p n q n2 s w _ _ n' g n2' h0 h1 h2
  cases hc : nodupN [p, q] <;> rw [hc] at h
  · cases h
  · simp only [cond_true, Option.some.injEq] at h
    subst h
    have p1 := hp (n = n') (.head _)
    have p2 := hp (n2 = n') (.tail _ (.head _))
    have p3 := hp (n2' = n') (.tail _ (.tail _ (.head _)))
    have p4 := hp _ (.tail _ (.tail _ (.tail _ (.head _))))
    have p5 := hp _ (.tail _ (.tail _ (.tail _ (.tail _ (.head _)))))
    have p6 := hp _ (.tail _ (.tail _ (.tail _ (.tail _ (.tail _ (.head _))))))
    subst p1; subst p2; subst p3
    have p4 : n2' ≤ 1099511627776 := by have h : (mkN (fun j => (g j, h0 j)) n2').length ≤ 1099511627776 := p4
                                        rw [mkN_len] at h; exact h
    refine ⟨tab [] [(0, .of (lAdd g n2' s 7))], [p, q], addM g h0 n2', [.agg [.sl 0 n2', .sl 1 n2', .ff], .i .u64 s, .i .i64 w], [0, 1], addUp (addL (mkN (fun j => (g j, h0 j)) n2') s w), lvV 0 1 (addL (mkN (fun j => (g j, h0 j)) n2') s w).length, _, fun pins => ⟨mixed, tys, ints, fun _ _ hf => mNil _ (assoc_mem hf), fun _ _ hf => by cases hf⟩, rfl, rfl, hc, rfl, rfl, fun i k0 hk => ?_, rfl, fun x => v49 g h0 n2' s w p4 p5 fun j hj => p6 _ (mkN_get2 hj)⟩
    rw [nth_eq] at h1 h2
    match i with
    | 0 => cases hk; exact h1
    | 1 => cases hk; exact h2
    | _ + 2 => cases hk
end Go.Proofs.Ytiokmglajigngaa
namespace Go.Proofs.Ytiokmglajigngaa
open Go Go.Proofs.Ytiokmglajigngaa.Sx
set_option maxRecDepth 100000
set_option linter.unusedSimpArgs false
set_option linter.unusedVariables false
theorem fst_len {N : Int} {l : List Pq} : (fstL N l).length ≤ 64 := by
  rw [fstL]
  cases h : okP N l
  · exact Nat.zero_le _
  · have hv : validF N l = true := by rw [okP, Bool.and_eq_true] at h; exact h.1
    have := (validF_iff.1 hv).2.1
    have h2 := (rfL_ok h N.toNat (Nat.le_refl _)).1
    rw [cond_true, h2]; omega
theorem v3_eq (N : Int) (l : List Pq) (o : List Int) : (fnVc (tab [kFew [], kAwk [], kFst [], kFst' [], kIs [], kIs' [], kInt []] []) Try.f3 [rlV N 0 l, .sl 1 o.length] [arP l, arI o] (plainIs .tt)) = (l.length = l.length ∧
 ((!(decide (N ≤ (12 : Int)) &&
 decide
 ((↑(psK l).length :
 Int) ≤
 (60 : Int))) ||
 decide ((↑o.length : Int) > (30 : Int))) =
 true →
 true = true) ∧
 ((!(decide (N ≤ (12 : Int)) &&
 decide
 ((↑(psK l).length :
 Int) ≤
 (60 : Int))) ||
 decide ((↑o.length : Int) > (30 : Int))) =
 false →
 l.length = l.length ∧
 (psK l).length ≤
 (1099511627776 : Nat) ∧
 l.length = l.length ∧
 (psK l).length ≤
 (1099511627776 : Nat) ∧
 l.length = l.length ∧
 o.length = o.length ∧
 (psK l).length ≤
 (1099511627776 : Nat) ∧
 (mkN (nthD (0 : Int) o) o.length).length ≤ (1099511627776 : Nat) ∧
 l.length = l.length ∧
 o.length = o.length ∧
 (psK l).length ≤
 (1099511627776 : Nat) ∧
 (mkN (nthD (0 : Int) o) o.length).length ≤ (1099511627776 : Nat) ∧
 ((isX N
 (psK l)
 (mkN (nthD (0 : Int) o) o.length) ==
 isX N
 (psK l)
 (mkN (nthD (0 : Int) o) o.length)) =
 true →
 (AV.is
 (fstL N
 (psK l))).len =
 (AV.is
 (fstL N
 (psK l))).len) ∧
 ((isX N
 (psK l)
 (mkN (nthD (0 : Int) o) o.length) ==
 isX N
 (psK l)
 (mkN (nthD (0 : Int) o) o.length)) =
 true →
 (AV.is
 (fstL N
 (psK l))).len =
 (AV.is
 (fstL N
 (psK l))).len) ∧
 ((isX N
 (psK l)
 (mkN (nthD (0 : Int) o) o.length) ==
 isX N
 (psK l)
 (mkN (nthD (0 : Int) o) o.length)) =
 true →
 (mkN
 (nthD (0 : Int)
 (fstL N
 (psK l)))
 (AV.is
 (fstL N
 (psK l))).len).length ≤
 (1099511627776 : Nat)) ∧
 ((isX N
 (psK l)
 (mkN (nthD (0 : Int) o) o.length) ==
 isX N
 (psK l)
 (mkN (nthD (0 : Int) o) o.length)) =
 true →
 (mkN
 (nthD (0 : Int)
 (fstL N
 (psK l)))
 (AV.is
 (fstL N
 (psK l))).len).length ≤
 (1099511627776 : Nat)) ∧
 (isX N
 (psK l)
 (mkN (nthD (0 : Int) o) o.length) ==
 isX N
 (psK l)
 (mkN (nthD (0 : Int) o) o.length) &&
 decide
 (mkN
 (nthD (0 : Int)
 (fstL N
 (psK l)))
 (AV.is
 (fstL N
 (psK l))).len =
 mkN
 (nthD (0 : Int)
 (fstL N
 (psK l)))
 (AV.is
 (fstL N
 (psK l))).len) &&
 errP N
 (psK l) ==
 errP N
 (psK l)) =
 true)) := by kernel_rfl
theorem v3 (N : Int) (l : List Pq) (o : List Int)  : fnVc (tab [kFew [], kAwk [], kFst [], kFst' [], kIs [], kIs' [], kInt []] []) Try.f3 [rlV N 0 l, .sl 1 o.length] [arP l, arI o] (plainIs .tt) := by
  rw [v3_eq]
  simp only [eq_self, true_and, and_true, implies_true, imp_self, psK_eq, mkN_ps, mkN_rs, mkN_self, mkN_len, PLoop.of, lCnt, AV.len]
  refine fun h => ?_
  rw [Bool.or_eq_false_iff] at h
  have h1 : (decide (N ≤ 12) && decide ((l.length : Int) ≤ 60)) = true := by simpa using h.1
  rw [Bool.and_eq_true] at h1
  have hl : l.length ≤ 60 := by have := of_decide_eq_true h1.2; omega
  have ho : o.length ≤ 30 := by have := of_decide_eq_false h.2; omega
  have hf := fst_len (N := N) (l := l)
  exact ⟨by omega, by omega, by omega, by omega, by omega, by omega, fun _ => by omega, fun _ => by omega, by simp⟩
end Go.Proofs.Ytiokmglajigngaa
namespace Go.Proofs.Ytiokmglajigngaa
open Go Go.Proofs.Ytiokmglajigngaa.Sx
theorem len_subD {α : Type} [DecidableEq α] : ∀ (l m : List α), l.Nodup → (∀ x ∈ l, x ∈ m) → l.length ≤ m.length := by
  intro l
  induction l with
  | nil => intro m _ _; simp
  | cons x l ih =>
    intro m hn hs
    have h1 := List.nodup_cons.1 hn
    have hx := hs x List.mem_cons_self
    have := ih (m.erase x) h1.2 fun y hy => by
      have hne : y ≠ x := fun e => h1.1 (e ▸ hy)
      exact (List.mem_erase_of_ne hne).2 (hs y (List.mem_cons_of_mem _ hy))
    rw [List.length_erase_of_mem hx] at this
    have hpos : 0 < m.length := List.length_pos_of_mem hx
    simp only [List.length_cons]; omega
theorem dsX_nodup {B : List Int} {s : Nat} {L : List Nat} (hL : L.Nodup) : ∀ x, (dsX B s L x).Nodup := by
  intro x
  induction x with
  | zero => exact hL
  | succ x ih =>
    rw [dsX]
    cases hc : (frR B s x && !((dsX B s L x).contains (s ||| 2 ^ x)))
    · exact ih
    · simp only [Bool.and_eq_true, Bool.not_eq_true'] at hc
      have hno : (s ||| 2 ^ x) ∉ dsX B s L x := fun h => by rw [List.contains_iff_mem.2 h] at hc; cases hc.2
      rw [cond_true, List.nodup_append]
      refine ⟨ih, by simp, fun a ha b hb => ?_⟩
      rw [List.mem_singleton.1 hb]
      exact fun e => hno (e ▸ ha)
theorem dsI_nodup {B : List Int} {n : Nat} : ∀ i, (dsI B n i).Nodup := by
  intro i
  induction i with
  | zero => simp [dsI]
  | succ i ih =>
    rw [dsI]
    cases Nat.blt i (dsI B n i).length
    · exact ih
    · exact dsX_nodup ih n
theorem dsE_nodup {B : List Int} : (dsE B).Nodup := dsI_nodup 65537
theorem dsI_le {B : List Int} {n : Nat} (i : Nat) : (dsI B n i).length ≤ 2 ^ n := by
  have := len_subD (dsI B n i) (List.range (2 ^ n)) (dsI_nodup i) fun x hx => List.mem_range.2 (dsI_lt i x hx)
  simpa using this
theorem dsE_le {B : List Int} : (dsE B).length ≤ 2 ^ B.length := dsI_le 65537
theorem okD_small {B : List Int} (h : B.length ≤ 16) : okD B = true := by
  have h1 := dsE_le (B := B)
  have h2 : 2 ^ B.length ≤ 2 ^ 16 := Nat.pow_le_pow_right (by omega) h
  exact Nat.ble_eq_true_of_le (Nat.le_trans h1 h2)
theorem sumF_le {B : List Int} {s : Nat} {c : Nat → Nat} {v : Nat} (h : ∀ t, c t ≤ v) : ∀ x, sumF B s c x ≤ x * v := by
  intro x
  induction x with
  | zero => rw [sumF, Nat.zero_mul]; exact Nat.le_refl _
  | succ x ih =>
    rw [sumF, Nat.succ_mul]
    cases frR B s x
    · rw [cond_false]; omega
    · rw [cond_true]; have := h (s ||| 2 ^ x); omega
theorem cmpF_le {B : List Int} : ∀ (k s : Nat), cmpF B k s ≤ B.length ^ k := by
  intro k
  induction k with
  | zero => intro s; exact Nat.le_refl _
  | succ k ih =>
    intro s
    rw [cmpF, Nat.pow_succ, Nat.mul_comm]
    exact sumF_le ih _
theorem cmp_bound {B : List Int} : cmp B 0 ≤ B.length ^ B.length := by
  rw [cmp, siz_zero, Nat.sub_zero]; exact cmpF_le _ _
theorem okC_small {B : List Int} (h : B.length ≤ 9) : okC B = true := by
  refine okC_iff.2 ⟨okD_small (by omega), Nat.le_trans cmp_bound ?_⟩
  generalize B.length = n at h
  have : ∀ m : Fin 10, m.1 ^ m.1 ≤ maxI := by decide +kernel
  exact this ⟨n, by omega⟩
theorem flatMap_len {f : Int → List (List Int)} {l : List Int} : (l.flatMap f).length = (l.map (fun x => (f x).length)).sum := by
  induction l with
  | nil => rfl
  | cons x r ih => rw [List.flatMap_cons, List.length_append, ih, List.map_cons, List.sum_cons]
theorem sum_app (a b : List Nat) : (a ++ b).sum = a.sum + b.sum := by
  induction a with
  | nil => simp
  | cons x r ih => rw [List.cons_append, List.sum_cons, List.sum_cons, ih]; omega
/-- What is known of a relation here. -/
structure Rl (N : Int) (l : List Pq) : Prop where
  ok : okP N l = true
  okD : okD (befP N l) = true
theorem Rl.fr {N : Int} {l : List Pq} (h : Rl N l) {P : List Int} (hP : Dn N (befP N l) P) {x : Nat} (hx : x < N.toNat) : frR (befP N l) (maskM P) x = okN l P x := by
  obtain ⟨e, _, _, _, hv⟩ := befP_ok h.ok
  rw [e]; exact frR_ok hv hP.rng hx
theorem Rl.snoc {N : Int} {l : List Pq} (h : Rl N l) {P : List Int} (hP : Dn N (befP N l) P) {x : Nat} (hx : x < N.toNat) (ho : okN l P x = true) : Dn N (befP N l) (P ++ [(x : Int)]) := by
  obtain ⟨_, hN, hN2, hn, _⟩ := befP_ok h.ok
  exact dn_snoc hP hN hn h.okD (by omega) (by rw [h.fr hP hx]; exact ho)
theorem ext_len {N : Int} {l : List Pq} (h : Rl N l) : ∀ (k : Nat) (P : List Int), Dn N (befP N l) P → P.length + k = N.toNat → (extP N l P).length = cmp (befP N l) (maskM P) := by
  obtain ⟨e, hN, hN2, hn, hv⟩ := befP_ok h.ok
  intro k
  induction k with
  | zero =>
    intro P hP hk
    rw [extP_full (by omega), cmp_full (by rw [hP.sz]; omega)]
    rfl
  | succ k ih =>
    intro P hP hk
    rw [extP_step (by omega), flatMap_len, dn_sum hP hn (by omega), hN2]
    have key : ∀ x, x ≤ N.toNat → ((nxtK l P x).map (fun y => (extP N l (P ++ [y])).length)).sum = sumF (befP N l) (maskM P) (cmp (befP N l)) x := by
      intro x
      induction x with
      | zero => intro _; rfl
      | succ x ihx =>
        intro hx
        rw [nxtK_step, List.map_append, sum_app, ihx (by omega), sumF, h.fr hP (by omega)]
        congr 1
        cases ho : okN l P x
        · rfl
        · rw [cond_true, cond_true, List.map_singleton, List.sum_singleton, ih _ (h.snoc hP (by omega) ho) (by rw [List.length_append, List.length_singleton]; omega), mask_snoc]
    exact key _ (Nat.le_refl _)
theorem ext_len0 {N : Int} {l : List Pq} (h : Rl N l) : (extP N l []).length = cmp (befP N l) 0 := ext_len h N.toNat [] dn_nil (by simp)
theorem Rl.nt {N : Int} {l : List Pq} (h : Rl N l) {r : Nat} (hr : r < cmp (befP N l) 0) {k : Nat} (hk : k ≤ N.toNat) : NtI N (befP N l) r k := by
  obtain ⟨_, hN, hN2, hn, _⟩ := befP_ok h.ok
  exact nt_all hN hn h.okD hr k (by omega)
theorem Rl.step {N : Int} {l : List Pq} (h : Rl N l) {r : Nat} (hr : r < cmp (befP N l) 0) {k : Nat} (hk : k < N.toNat) : ∃ y : Nat, y < N.toNat ∧ okN l (ntS (befP N l) r k).1 y = true ∧ ntS (befP N l) r (k + 1) = ((ntS (befP N l) r k).1 ++ [(y : Int)], (ntS (befP N l) r k).2 - sumF (befP N l) (maskM (ntS (befP N l) r k).1) (cmp (befP N l)) y) ∧
    (ntS (befP N l) r k).2 < sumF (befP N l) (maskM (ntS (befP N l) r k).1) (cmp (befP N l)) (y + 1) ∧ sumF (befP N l) (maskM (ntS (befP N l) r k).1) (cmp (befP N l)) y ≤ (ntS (befP N l) r k).2 := by
  obtain ⟨_, hN, hN2, hn, _⟩ := befP_ok h.ok
  have hI := h.nt hr (show k ≤ N.toNat by omega)
  obtain ⟨y, h1, h2, h3, h4, h5⟩ := nt_step hN hn h.okD hI (by omega)
  refine ⟨y, by omega, ?_, ntS_succ h2, h4, h5⟩
  rw [← h.fr hI.dn (by omega)]; exact h3
theorem nt_take {N : Int} {l : List Pq} (h : Rl N l) {r : Nat} (hr : r < cmp (befP N l) 0) {k : Nat} : ∀ j, k ≤ j → j ≤ N.toNat → (ntS (befP N l) r j).1.take k = (ntS (befP N l) r k).1 := by
  intro j hkj
  induction hkj with
  | refl => intro hj; have hI := h.nt hr hj; rw [List.take_of_length_le (by rw [hI.len]; omega)]
  | @step j hkj ih =>
    intro hj
    have hkj : k ≤ j := hkj
    have hI := h.nt hr (show j ≤ N.toNat by omega)
    obtain ⟨y, h1, h2, h3, h4, h5⟩ := h.step hr (show j < N.toNat by omega)
    rw [h3]
    show ((ntS (befP N l) r j).1 ++ [(y : Int)]).take k = _
    rw [List.take_append_of_le_length (by rw [hI.len]; omega), ih (by omega)]
/-- It is a linear extension. -/
theorem nt_isX {N : Int} {l : List Pq} (h : Rl N l) {r : Nat} (hr : r < cmp (befP N l) 0) : isX N l (ntS (befP N l) r N.toNat).1 = true := by
  obtain ⟨_, hN, hN2, hn, hv⟩ := befP_ok h.ok
  have hI := h.nt hr (Nat.le_refl _)
  have hat : ∀ k, k < N.toNat → okN l ((ntS (befP N l) r N.toNat).1.take k) (nthD 0 (ntS (befP N l) r N.toNat).1 k) = true := fun k hk => by
    obtain ⟨y, h1, h2, h3, _⟩ := h.step hr hk
    have e1 := nt_take h hr (k := k) N.toNat (by omega) (Nat.le_refl _)
    have e2 := nt_take h hr (k := k + 1) N.toNat (by omega) (Nat.le_refl _)
    have hIk := h.nt hr (show k ≤ N.toNat by omega)
    rw [e1]
    have e3 : nthD 0 (ntS (befP N l) r N.toNat).1 k = (y : Int) := by
      have : nthD 0 ((ntS (befP N l) r N.toNat).1.take (k + 1)) k = nthD 0 (ntS (befP N l) r N.toNat).1 k := by
        have hlt : k < ((ntS (befP N l) r N.toNat).1.take (k + 1)).length := by rw [List.length_take, hI.len]; omega
        rw [nthD_get _ _ _ hlt, nthD_get _ _ _ (by rw [hI.len]; exact hk), List.getElem_take]
      rw [← this, e2, h3]
      show nthD 0 ((ntS (befP N l) r k).1 ++ [(y : Int)]) k = _
      have hk2 : k = (ntS (befP N l) r k).1.length := hIk.len.symm
      conv => lhs; rw [show nthD 0 ((ntS (befP N l) r k).1 ++ [(y : Int)]) k = nthD 0 ((ntS (befP N l) r k).1 ++ [(y : Int)]) (ntS (befP N l) r k).1.length from by rw [← hk2]]
      rw [nthD_at]
    rw [e3]; exact h2
  have hlen := hI.len
  have hrng := hI.dn.rng
  generalize hog : (ntS (befP N l) r N.toNat).1 = o at *
  have hnd : ∀ k, k ≤ N.toNat → (o.take k).Nodup := by
    intro k
    induction k with
    | zero => intro _; exact List.nodup_nil
    | succ k ih =>
      intro hk
      rw [take_succ' 0 (by omega)]
      exact nodup_snoc (ih (by omega)) (okN_iff.1 (hat k (by omega))).1
  have hno := hnd N.toNat (Nat.le_refl _)
  rw [List.take_of_length_le (by omega)] at hno
  have hN3 : ((N.toNat : Nat) : Int) = N := by omega
  have hall := perm_all (n := N.toNat) (by rw [hN3]; exact hrng) hno hlen
  refine isX_iff.2 ⟨hv, hlen, hall, fun p hp => ?_⟩
  have hq := (validF_iff.1 hv).2.2 p hp
  have hmem := List.all_eq_true.1 hall p.2.toNat (List.mem_range.2 (by omega))
  rw [Int.toNat_of_nonneg hq.2.2.1] at hmem
  obtain ⟨k, hk, e⟩ := List.mem_iff_getElem.1 (hasI_iff.1 hmem)
  rw [← nthD_get 0 _ _ hk] at e
  have h1 := hat k (by omega)
  have h2 := okN_iff.1 h1
  rw [posI_at o 0 k hk (by rw [← e]; exact h2.1) e]
  have h3 := h2.2 p.1 (by rw [e]; exact hp)
  have hgen : ∀ (o : List Int) (i : Int) (k : Nat) (a : Int), a ∈ o.take k → posI a o i < i + k := by
    intro o
    induction o with
    | nil => intro i k a h; simp at h
    | cons z r ih =>
      intro i k a h
      cases k with
      | zero => simp at h
      | succ k =>
        rw [posI]
        cases hz : (z == a)
        · rw [cond_false]
          rw [List.take_succ_cons] at h
          rcases List.mem_cons.1 h with e | h
          · rw [e, beq_self_eq_true] at hz; cases hz
          · have := ih (i + 1) k a h; omega
        · rw [cond_true]; omega
  exact hgen o 0 k p.1 h3
theorem cmp_pos {N : Int} {l : List Pq} (h : Rl N l) : ∀ (k : Nat) (P : List Int), Dn N (befP N l) P → P.length + k = N.toNat → 0 < cmp (befP N l) (maskM P) := by
  obtain ⟨e, hN, hN2, hn, hv⟩ := befP_ok h.ok
  intro k
  induction k with
  | zero => intro P hP hk; rw [cmp_full (by rw [hP.sz]; omega)]; exact Nat.one_pos
  | succ k ih =>
    intro P hP hk
    obtain ⟨x, hx, ho⟩ := okN_some (pre := P) h.ok (by omega)
    have h1 := ih _ (h.snoc hP hx ho) (by rw [List.length_append, List.length_singleton]; omega)
    rw [mask_snoc] at h1
    rw [dn_sum hP hn (by omega)]
    exact Nat.lt_of_lt_of_le h1 (sumF_term (by omega) (by rw [h.fr hP hx]; exact ho))
theorem cmp_pos0 {N : Int} {l : List Pq} (h : Rl N l) : 0 < cmp (befP N l) 0 := cmp_pos h N.toNat [] dn_nil (by simp)
end Go.Proofs.Ytiokmglajigngaa
namespace Go.Proofs.Ytiokmglajigngaa
open Go Go.Proofs.Ytiokmglajigngaa.Sx
set_option maxRecDepth 100000
set_option linter.unusedSimpArgs false
set_option linter.unusedVariables false
theorem fr_iffL {N : Int} {l : List Pq} {s x : Nat} (hv : validF N l = true) (hs : s < 2 ^ 64) (hx : x < N.toNat) : frR (befL N.toNat l) s x = true ↔ s.testBit x = false ∧ ∀ a : Nat, ((a : Int), (x : Int)) ∈ l → s.testBit a = true := by
  obtain ⟨q1, q2, q3⟩ := validF_iff.1 hv
  have hb := befM_lt (l := l) (x := x) (n := N.toNat) fun p hp => by have := q3 p hp; omega
  have hb64 := lt64 hb (by omega)
  rw [frR, Int.toNat_natCast, wrap_shl (by omega), bits_and hs (one_lt (by omega)), nthD_befL hx, bits_andNot, and_zero, Bool.and_eq_true, Bool.not_eq_true', diff_zero hb64]
  constructor
  · rintro ⟨h1, h2⟩
    exact ⟨h1, fun a ha => h2 a (by rw [befM_bit fun p hp => (q3 p hp).1]; exact setF_iff.2 ha)⟩
  · rintro ⟨h1, h2⟩
    exact ⟨h1, fun i hi => h2 i (by rw [befM_bit fun p hp => (q3 p hp).1] at hi; exact setF_iff.1 hi)⟩
theorem bit_val {m x : Nat} (hm : m < 2 ^ 64) (hx : x < 64) : bitS (m : Int) (x : Int) = bif m.testBit x then 1 else 0 := by
  have hd : m / 2 ^ x < 2 ^ 64 := Nat.lt_of_le_of_lt (Nat.div_le_self _ _) hm
  have e : (m : Int) / 2 ^ x = ((m / 2 ^ x : Nat) : Int) := by push_cast; rfl
  have h1 : bits .and .u64 ((m / 2 ^ x : Nat) : Int) ((1 : Nat) : Int) = ((m / 2 ^ x &&& 1 : Nat) : Int) := bits_and hd (by omega)
  rw [bitS, wrB (by omega) (by omega), Int.toNat_natCast, e]
  refine h1.trans ?_
  rw [Nat.and_one_is_mod, Nat.testBit_eq_decide_div_mod_eq]
  rcases Nat.mod_two_eq_zero_or_one (m / 2 ^ x) with h | h <;> rw [h] <;> rfl
theorem or_val {m k : Nat} (hm : m < 2 ^ 64) (hk : k < 64) : orS (m : Int) k = ((m ||| 2 ^ k : Nat) : Int) := by
  rw [orS, wrB (x := (k : Int)) (by omega) (by omega), Int.toNat_natCast, wrap_shl hk, bits_or hm (one_lt hk), shl_pow]
theorem can_fr {N : Int} {l : List Pq} {m x : Nat} (hv : validF N l = true) (hm : m < 2 ^ 64) (hx : x < N.toNat) : canF l (m : Int) (x : Int) = frR (befL N.toNat l) m x := by
  obtain ⟨q1, q2, q3⟩ := validF_iff.1 hv
  rw [Bool.eq_iff_iff, fr_iffL hv hm hx, canF, Bool.and_eq_true, bit_val hm (by omega), List.all_eq_true]
  constructor
  · rintro ⟨h1, h2⟩
    refine ⟨(by cases h : m.testBit x <;> rw [h] at h1 <;> first | rfl | cases h1), fun a ha => ?_⟩
    have h3 := h2 _ ha
    have := (q3 _ ha).2.1
    rw [show ((x : Int) == (x : Int)) = true from beq_self_eq_true _, Bool.true_and, bit_val hm (by omega)] at h3
    cases h : m.testBit a <;> rw [h] at h3 <;> first | rfl | cases h3
  · rintro ⟨h1, h2⟩
    refine ⟨by rw [h1]; rfl, fun p hp => ?_⟩
    obtain ⟨p1, p2, _, _⟩ := q3 p hp
    obtain ⟨a, ha⟩ := Int.eq_ofNat_of_zero_le p1
    by_cases e : p.2 = (x : Int)
    · have hb := h2 a (by rw [← ha, ← e]; exact hp)
      rw [ha, bit_val hm (by omega), hb]
      simp
    · rw [show (p.2 == (x : Int)) = false from beq_false_of_ne e]; rfl
def fsts (L : List Pq) : List Int := L.map (fun p => p.1)
theorem mem_addL {s w q : Int} : ∀ {L : List Pq}, q ∈ fsts (addL L s w) ↔ q ∈ fsts L ∨ q = s
  | [] => by simp [addL, fsts]
  | p :: r => by
    rw [addL]
    cases h : p.1 == s
    · rw [cond_false]
      have ih := mem_addL (s := s) (w := w) (q := q) (L := r)
      simp only [fsts, List.map_cons, List.mem_cons] at ih ⊢
      rw [ih, or_assoc]
    · rw [cond_true]
      have h : p.1 = s := by simpa using h
      simp only [fsts, List.map_cons, List.mem_cons]
      constructor
      · intro h; exact .inl h
      · rintro (h2 | h2)
        · exact h2
        · exact .inl (by rw [h2, h])
theorem addL_nodup {s w : Int} : ∀ {L : List Pq}, (fsts L).Nodup → (fsts (addL L s w)).Nodup
  | [], _ => by simp [addL, fsts]
  | p :: r, hn => by
    simp only [fsts, List.map_cons, List.nodup_cons] at hn
    rw [addL]
    cases h : p.1 == s
    · rw [cond_false]
      simp only [fsts, List.map_cons, List.nodup_cons]
      have h : p.1 ≠ s := by simpa using h
      refine ⟨fun hm => ?_, addL_nodup hn.2⟩
      rcases mem_addL.1 hm with h1 | h1
      · exact hn.1 h1
      · exact h h1
    · rw [cond_true]
      simp only [fsts, List.map_cons, List.nodup_cons]
      exact hn
theorem addL_pos {s w : Int} (hw : 0 ≤ w) : ∀ {L : List Pq}, (∀ p ∈ L, 0 ≤ p.2) → ∀ p ∈ addL L s w, 0 ≤ p.2
  | [], _, p, hp => by simp [addL] at hp; rw [hp]; exact hw
  | q :: r, h, p, hp => by
    have hq := h q (.head _)
    rw [addL] at hp
    cases e : q.1 == s <;> rw [e] at hp
    · rw [cond_false] at hp
      rcases List.mem_cons.1 hp with rfl | h1
      · exact hq
      · exact addL_pos hw (fun p hp => h p (.tail _ hp)) p h1
    · rw [cond_true] at hp
      rcases List.mem_cons.1 hp with rfl | h1
      · show 0 ≤ q.2 + w; omega
      · exact h p (.tail _ h1)
/-- The ways, weighted. -/
def wsum (f : Int → Int) : List Pq → Int
  | [] => 0
  | p :: r => p.2 * f p.1 + wsum f r
theorem wsum_addL {f : Int → Int} {s w : Int} : ∀ {L : List Pq}, wsum f (addL L s w) = wsum f L + w * f s
  | [] => by simp [addL, wsum]
  | p :: r => by
    rw [addL]
    cases h : p.1 == s
    · rw [cond_false, wsum, wsum, wsum_addL (L := r)]; omega
    · rw [cond_true]
      have h : p.1 = s := by simpa using h
      rw [wsum, wsum, h, Int.add_mul]; omega
theorem wsum_app {f : Int → Int} : ∀ {L M : List Pq}, wsum f (L ++ M) = wsum f L + wsum f M
  | [], M => by simp [wsum]
  | p :: r, M => by rw [List.cons_append, wsum, wsum, wsum_app (L := r)]; omega
theorem wsum_nonneg {f : Int → Int} (hf : ∀ s, 0 ≤ f s) : ∀ {L : List Pq}, (∀ p ∈ L, 0 ≤ p.2) → 0 ≤ wsum f L
  | [], _ => Int.le_refl _
  | p :: r, h => by
    have h1 := wsum_nonneg hf (L := r) fun q hq => h q (.tail _ hq)
    have h2 := Int.mul_nonneg (h p (.head _)) (hf p.1)
    rw [wsum]; omega
theorem wsum_le {f : Int → Int} {c : Int} (hf : ∀ s, f s ≤ c) : ∀ {L : List Pq}, (∀ p ∈ L, 0 ≤ p.2) → wsum f L ≤ c * wsum (fun _ => 1) L
  | [], _ => by simp [wsum]
  | p :: r, h => by
    have h1 := wsum_le hf (L := r) fun q hq => h q (.tail _ hq)
    have h2 := Int.mul_le_mul_of_nonneg_left (hf p.1) (h p (.head _))
    have h3 : c * (p.2 * 1 + wsum (fun _ => 1) r) = p.2 * c + c * wsum (fun _ => 1) r := by rw [Int.mul_add, Int.mul_one, Int.mul_comm c p.2]
    rw [wsum, wsum, h3]; omega
theorem wsum_mem : ∀ {L : List Pq}, (∀ p ∈ L, 0 ≤ p.2) → ∀ p ∈ L, p.2 ≤ wsum (fun _ => 1) L
  | q :: r, h, p, hp => by
    have h1 := wsum_nonneg (f := fun _ => 1) (fun _ => by omega) (L := r) fun q hq => h q (.tail _ hq)
    have h2 := h q (.head _)
    rw [wsum]
    rcases List.mem_cons.1 hp with rfl | hp
    · omega
    · have := wsum_mem (L := r) (fun q hq => h q (.tail _ hq)) p hp
      omega
theorem wsum_take {f : Int → Int} {L : List Pq} {i : Nat} (h : i < L.length) : wsum f (L.take (i + 1)) = wsum f (L.take i) + (nthD (0, 0) L i).2 * f (nthD (0, 0) L i).1 := by
  rw [take_succ' (0, 0) h, wsum_app, wsum, wsum]; omega
theorem wsum_takele {L : List Pq} (h : ∀ p ∈ L, 0 ≤ p.2) (i : Nat) : wsum (fun _ => 1) (L.take i) ≤ wsum (fun _ => 1) L := by
  conv => rhs; rw [← List.take_append_drop i L]
  rw [wsum_app]
  have := wsum_nonneg (f := fun _ => 1) (fun _ => by omega) (L := L.drop i) fun p hp => h p (List.mem_of_mem_drop hp)
  omega
/-- A level of sets of n elements, perhaps in the making. -/
structure Lv (N : Int) (l : List Pq) (n : Nat) (L : List Pq) : Prop where
  nd : (fsts L).Nodup
  mem : ∀ q ∈ fsts L, ∃ m : Nat, q = (m : Int) ∧ m ∈ dsE (befL N.toNat l) ∧ siz 64 m = n
  pos : ∀ p ∈ L, 0 ≤ p.2
structure Ok9 (N : Int) (l : List Pq) : Prop where
  ok : okP N l = true
  n9 : N ≤ 9
theorem Ok9.v {N : Int} {l : List Pq} (h : Ok9 N l) : validF N l = true := by have := h.ok; rw [okP, Bool.and_eq_true] at this; exact this.1
theorem Ok9.d {N : Int} {l : List Pq} (h : Ok9 N l) : okD (befL N.toNat l) = true := okD_small (by rw [befL_len]; have := h.n9; omega)
theorem ds_lt {N : Int} {l : List Pq} (h : Ok9 N l) {m : Nat} (hm : m ∈ dsE (befL N.toNat l)) : m < 2 ^ N.toNat ∧ m < 2 ^ 64 := by
  have h1 := dsE_lt m hm
  rw [befL_len] at h1
  exact ⟨h1, lt64 h1 (by have := h.n9; omega)⟩
theorem lvK_ok {N : Int} {l : List Pq} (h : Ok9 N l) {n m : Nat} (hm : m ∈ dsE (befL N.toNat l)) (hs : siz 64 m = n) {w : Int} (hw : 0 ≤ w) {L : List Pq} (hL : Lv N l (n + 1) L) : ∀ k, k ≤ N.toNat →
    Lv N l (n + 1) (lvK l L m w k) ∧ (∀ q, q ∈ fsts (lvK l L m w k) ↔ q ∈ fsts L ∨ ∃ x : Nat, x < k ∧ frR (befL N.toNat l) m x = true ∧ q = ((m ||| 2 ^ x : Nat) : Int)) ∧
    ∀ (f : Int → Int) (c : Nat → Nat), (∀ t : Nat, f t = (c t : Int)) → wsum f (lvK l L m w k) = wsum f L + w * (sumF (befL N.toNat l) m c k : Int) := by
  intro k
  have hn9 := h.n9
  induction k with
  | zero => intro _; exact ⟨hL, fun q => ⟨.inl, fun h => h.elim id fun ⟨x, hx, _⟩ => absurd hx (Nat.not_lt_zero _)⟩, fun f c _ => by simp [lvK, sumF]⟩
  | succ k ih =>
    intro hk
    obtain ⟨i1, i2, i3⟩ := ih (by omega)
    have hm64 := (ds_lt h hm).2
    rw [lvK, can_fr h.v hm64 (by omega)]
    cases hf : frR (befL N.toNat l) m k
    · rw [cond_false]
      refine ⟨i1, fun q => ?_, fun f c hc => by rw [i3 f c hc, sumF, hf, cond_false, Nat.add_zero]⟩
      rw [i2 q]
      refine or_congr Iff.rfl ⟨fun ⟨x, h1, h2⟩ => ⟨x, by omega, h2⟩, fun ⟨x, h1, h2, h3⟩ => ⟨x, ?_, h2, h3⟩⟩
      rcases Nat.lt_or_ge x k with h4 | h4
      · exact h4
      · have : x = k := by omega
        subst this
        rw [hf] at h2; cases h2
    · rw [cond_true, or_val hm64 (by omega)]
      have hnew : (m ||| 2 ^ k) ∈ dsE (befL N.toNat l) := dsE_step (by rw [befL_len]; omega) h.d hm (by rw [befL_len]; omega) hf
      have hsz : siz 64 (m ||| 2 ^ k) = n + 1 := by rw [siz_fr hm64 (by omega) hf, hs]
      refine ⟨⟨addL_nodup i1.nd, fun q hq => ?_, addL_pos hw i1.pos⟩, fun q => ?_, fun f c hc => ?_⟩
      · rcases mem_addL.1 hq with h1 | rfl
        · exact i1.mem q h1
        · exact ⟨_, rfl, hnew, hsz⟩
      · rw [mem_addL, i2 q, or_assoc]
        refine or_congr Iff.rfl ⟨?_, ?_⟩
        · rintro (⟨x, h1, h2⟩ | rfl)
          · exact ⟨x, by omega, h2⟩
          · exact ⟨k, by omega, hf, rfl⟩
        · rintro ⟨x, h1, h2, h3⟩
          rcases Nat.lt_or_ge x k with h4 | h4
          · exact .inl ⟨x, h4, h2, h3⟩
          · have : x = k := by omega
            subst this
            exact .inr h3
      · rw [wsum_addL, i3 f c hc, hc, sumF, hf, cond_true, Int.natCast_add, Int.mul_add]; omega
theorem Lv.nil {N : Int} {l : List Pq} {n : Nat} : Lv N l n [] := ⟨List.nodup_nil, fun q h => (by cases h), fun p h => (by cases h)⟩
theorem fst_mem {L : List Pq} {i : Nat} (h : i < L.length) : (nthD (0, 0) L i).1 ∈ fsts L := List.mem_map.2 ⟨_, nthM' (0, 0) h, rfl⟩
theorem lvI_ok {N : Int} {l : List Pq} (h : Ok9 N l) {n : Nat} {P : List Pq} (hP : Lv N l n P) : ∀ i, i ≤ P.length →
    Lv N l (n + 1) (lvI N l P i) ∧ (∀ q, q ∈ fsts (lvI N l P i) ↔ ∃ m : Nat, (m : Int) ∈ fsts (P.take i) ∧ ∃ x : Nat, x < N.toNat ∧ frR (befL N.toNat l) m x = true ∧ q = ((m ||| 2 ^ x : Nat) : Int)) ∧
    ∀ (f : Int → Int) (c : Nat → Nat), (∀ t : Nat, f t = (c t : Int)) → wsum f (lvI N l P i) = wsum (fun s => (sumF (befL N.toNat l) s.toNat c N.toNat : Int)) (P.take i) := by
  intro i
  induction i with
  | zero => intro _; exact ⟨Lv.nil, fun q => ⟨fun h => (by cases h), fun ⟨m, hm, _⟩ => by simp [fsts] at hm⟩, fun f c _ => rfl⟩
  | succ i ih =>
    intro hi
    obtain ⟨i1, i2, i3⟩ := ih (by omega)
    have hi' : i < P.length := by omega
    obtain ⟨m, e, hm, hs⟩ := hP.mem _ (fst_mem hi')
    have hw := hP.pos _ (nthM' (0, 0) hi')
    rw [lvI, e]
    obtain ⟨k1, k2, k3⟩ := lvK_ok h hm hs hw i1 N.toNat (Nat.le_refl _)
    refine ⟨k1, fun q => ?_, fun f c hc => ?_⟩
    · rw [k2 q, i2 q]
      have ht : ∀ z : Int, z ∈ fsts (P.take (i + 1)) ↔ z ∈ fsts (P.take i) ∨ z = (m : Int) := fun z => by
        rw [take_succ' (0, 0) hi', fsts, List.map_append, List.mem_append, List.map_cons, List.map_nil, List.mem_singleton, e]; rfl
      constructor
      · rintro (⟨m', h1, h2⟩ | h2)
        · exact ⟨m', (ht _).2 (.inl h1), h2⟩
        · exact ⟨m, (ht _).2 (.inr rfl), h2⟩
      · rintro ⟨m', h1, h2⟩
        rcases (ht _).1 h1 with h1 | h1
        · exact .inl ⟨m', h1, h2⟩
        · have : m' = m := by omega
          subst this
          exact .inr h2
    · rw [k3 f c hc, i3 f c hc, wsum_take hi', e]; rfl
theorem lvN_ok {N : Int} {l : List Pq} (h : Ok9 N l) : ∀ n, Lv N l n (lvN N l n) := by
  intro n
  induction n with
  | zero => exact ⟨by simp [lvN, fsts], fun q hq => ⟨0, by simpa [lvN, fsts] using hq, zero_mem, siz_zero 64⟩, fun p hp => by simp [lvN] at hp; rw [hp]; show (0 : Int) ≤ 1; omega⟩
  | succ n ih => exact (lvI_ok h ih _ (Nat.le_refl _)).1
theorem sum1_le {B : List Int} {s : Nat} : ∀ n, sumF B s (fun _ => 1) n ≤ n := by
  intro n
  induction n with
  | zero => exact Nat.le_refl _
  | succ n ih => rw [sumF]; cases frR B s n <;> simp only [cond_true, cond_false] <;> omega
theorem lvI_w {N : Int} {l : List Pq} (h : Ok9 N l) {n : Nat} {P : List Pq} (hP : Lv N l n P) {i : Nat} (hi : i ≤ P.length) : wsum (fun _ => 1) (lvI N l P i) ≤ 9 * wsum (fun _ => 1) (P.take i) := by
  have hn9 := h.n9
  rw [(lvI_ok h hP i hi).2.2 (fun _ => 1) (fun _ => 1) (fun _ => rfl)]
  exact wsum_le (fun s => by have := sum1_le (B := befL N.toNat l) (s := s.toNat) N.toNat; omega) fun p hp => hP.pos p (List.mem_of_mem_take hp)
theorem lvN_w {N : Int} {l : List Pq} (h : Ok9 N l) : ∀ n, wsum (fun _ => 1) (lvN N l n) ≤ 9 ^ n := by
  intro n
  induction n with
  | zero => exact Int.le_refl 1
  | succ n ih =>
    have h1 := lvI_w h (lvN_ok h n) (Nat.le_refl _)
    rw [List.take_length] at h1
    have e : (9 : Int) ^ (n + 1) = 9 ^ n * 9 := Int.pow_succ _ _
    rw [lvN]; omega
theorem p9 {n : Nat} (h : n ≤ 9) : (9 : Int) ^ n ≤ 387420489 := by
  have : ∀ i : Fin 10, (9 : Int) ^ i.1 ≤ 387420489 := by decide +kernel
  exact this ⟨n, by omega⟩
/-- What is known of a level in the making. -/
theorem lvK_all {N : Int} {l : List Pq} (h : Ok9 N l) {n i k : Nat} (hn : n < N.toNat) (hi : i < (lvN N l n).length) (hk : k ≤ N.toNat) :
    Lv N l (n + 1) (lvK l (lvI N l (lvN N l n) i) (nthD (0, 0) (lvN N l n) i).1 (nthD (0, 0) (lvN N l n) i).2 k) ∧
    ∀ p ∈ lvK l (lvI N l (lvN N l n) i) (nthD (0, 0) (lvN N l n) i).1 (nthD (0, 0) (lvN N l n) i).2 k, p.2 ≤ 387420489 := by
  have hn9 := h.n9
  have hP := lvN_ok h n
  obtain ⟨m, e, hm, hs⟩ := hP.mem _ (fst_mem hi)
  have hw := hP.pos _ (nthM' (0, 0) hi)
  obtain ⟨i1, i2, i3⟩ := lvI_ok h hP i (Nat.le_of_lt hi)
  rw [e]
  obtain ⟨k1, k2, k3⟩ := lvK_ok h hm hs hw i1 k hk
  refine ⟨k1, fun p hp => Int.le_trans (wsum_mem k1.pos p hp) ?_⟩
  rw [k3 (fun _ => 1) (fun _ => 1) (fun _ => rfl)]
  have h1 := lvI_w h hP (Nat.le_of_lt hi)
  have h2 := sum1_le (B := befL N.toNat l) (s := m) k
  have h3 := wsum_take (f := fun _ => 1) hi
  have h4 := wsum_takele hP.pos (i + 1)
  have h5 := lvN_w h n
  have h6 := p9 (n := n + 1) (by omega)
  have e9 : (9 : Int) ^ (n + 1) = 9 ^ n * 9 := Int.pow_succ _ _
  have h7 : (nthD (0, 0) (lvN N l n) i).2 * ((sumF (befL N.toNat l) m (fun _ => 1) k : Nat) : Int) ≤ (nthD (0, 0) (lvN N l n) i).2 * 9 := Int.mul_le_mul_of_nonneg_left (by omega) hw
  omega
theorem Lv.len {N : Int} {l : List Pq} (h : Ok9 N l) {n : Nat} {L : List Pq} (hL : Lv N l n L) : L.length ≤ 512 := by
  have h1 := len_subD (fsts L) (toI (dsE (befL N.toNat l))) hL.nd fun q hq => by
    obtain ⟨m, rfl, hm, _⟩ := hL.mem q hq
    exact List.mem_map.2 ⟨m, hm, rfl⟩
  have h2 := dsE_le (B := befL N.toNat l)
  rw [befL_len] at h2
  have h3 : 2 ^ N.toNat ≤ 2 ^ 9 := Nat.pow_le_pow_right (by omega) (by have := h.n9; omega)
  rw [fsts, List.length_map, toI, List.length_map] at h1
  omega
/-- All sets of at most n elements. -/
def allS (N : Int) (l : List Pq) : Nat → List Int
  | 0 => fsts (lvN N l 0)
  | n + 1 => allS N l n ++ fsts (lvN N l (n + 1))
theorem allS_len {N : Int} {l : List Pq} : ∀ n, (allS N l n).length = lvT N l n := by
  intro n
  induction n with
  | zero => rfl
  | succ n ih => rw [allS, List.length_append, ih, lvT, fsts, List.length_map]
theorem allS_mem {N : Int} {l : List Pq} (h : Ok9 N l) {q : Int} : ∀ n, q ∈ allS N l n → ∃ m : Nat, q = (m : Int) ∧ m ∈ dsE (befL N.toNat l) ∧ siz 64 m ≤ n := by
  intro n
  induction n with
  | zero => intro hq; obtain ⟨m, h1, h2, h3⟩ := (lvN_ok h 0).mem q hq; exact ⟨m, h1, h2, by omega⟩
  | succ n ih =>
    intro hq
    rcases List.mem_append.1 hq with hq | hq
    · obtain ⟨m, h1, h2, h3⟩ := ih hq; exact ⟨m, h1, h2, by omega⟩
    · obtain ⟨m, h1, h2, h3⟩ := (lvN_ok h (n + 1)).mem q hq; exact ⟨m, h1, h2, by omega⟩
theorem allS_snoc {N : Int} {l : List Pq} (h : Ok9 N l) {n : Nat} (hA : (allS N l n).Nodup) {L : List Pq} (hL : Lv N l (n + 1) L) : (allS N l n ++ fsts L).Nodup := by
  refine List.nodup_append.2 ⟨hA, hL.nd, fun a ha b hb e => ?_⟩
  subst e
  obtain ⟨m, e1, _, h1⟩ := allS_mem h n ha
  obtain ⟨m', e2, _, h2⟩ := hL.mem a hb
  have : m = m' := by omega
  subst this
  omega
theorem allS_nodup {N : Int} {l : List Pq} (h : Ok9 N l) : ∀ n, (allS N l n).Nodup := by
  intro n
  induction n with
  | zero => exact (lvN_ok h 0).nd
  | succ n ih => exact allS_snoc h ih (lvN_ok h (n + 1))
theorem lvT_le {N : Int} {l : List Pq} (h : Ok9 N l) {n : Nat} {L : List Pq} (hL : Lv N l (n + 1) L) : lvT N l n + L.length ≤ 512 := by
  have h1 := len_subD (allS N l n ++ fsts L) (toI (dsE (befL N.toNat l))) (allS_snoc h (allS_nodup h n) hL) fun q hq => by
    rcases List.mem_append.1 hq with hq | hq
    · obtain ⟨m, rfl, hm, _⟩ := allS_mem h n hq
      exact List.mem_map.2 ⟨m, hm, rfl⟩
    · obtain ⟨m, rfl, hm, _⟩ := hL.mem q hq
      exact List.mem_map.2 ⟨m, hm, rfl⟩
  have h2 := dsE_le (B := befL N.toNat l)
  rw [befL_len] at h2
  have h3 : 2 ^ N.toNat ≤ 2 ^ 9 := Nat.pow_le_pow_right (by omega) (by have := h.n9; omega)
  rw [List.length_append, allS_len, fsts, List.length_map, toI, List.length_map] at h1
  omega
theorem lv_all {N : Int} {l : List Pq} (h : Ok9 N l) : ∀ m ∈ dsE (befL N.toNat l), (m : Int) ∈ fsts (lvN N l (siz 64 m)) := by
  intro m hm
  have hn9 := h.n9
  unfold dsE at hm
  rw [befL_len] at hm
  refine dsI_ind (Q := fun m => (m : Int) ∈ fsts (lvN N l (siz 64 m))) (by rw [siz_zero]; simp [lvN, fsts]) (fun s x hs hq hx hf => ?_) _ m hm
  rw [siz_fr (lt64 hs (by omega)) (by omega) hf, lvN]
  rw [((lvI_ok h (lvN_ok h (siz 64 s)) _ (Nat.le_refl _)).2.1 _), List.take_length]
  exact ⟨s, hq, x, hx, hf, rfl⟩
theorem allS_lv {N : Int} {l : List Pq} {q : Int} {i : Nat} : ∀ n, i ≤ n → q ∈ fsts (lvN N l i) → q ∈ allS N l n := by
  intro n
  induction n with
  | zero => intro hi hq; have : i = 0 := by omega
            subst this; exact hq
  | succ n ih =>
    intro hi hq
    rcases Nat.lt_or_ge i (n + 1) with h | h
    · exact List.mem_append_left _ (ih (by omega) hq)
    · have : i = n + 1 := by omega
      subst this
      exact List.mem_append_right _ hq
theorem lvT_eq {N : Int} {l : List Pq} (h : Ok9 N l) : lvT N l N.toNat = (dsE (befL N.toNat l)).length := by
  have hn9 := h.n9
  have e1 : (toI (dsE (befL N.toNat l))).length = (dsE (befL N.toNat l)).length := List.length_map _
  rw [← allS_len, ← e1]
  refine Nat.le_antisymm (len_subD _ _ (allS_nodup h _) fun q hq => ?_) (len_subD _ _ ?_ fun q hq => ?_)
  · obtain ⟨m, rfl, hm, _⟩ := allS_mem h _ hq
    exact List.mem_map.2 ⟨m, hm, rfl⟩
  · exact List.Pairwise.map _ (fun a b hab e => hab (by omega)) dsE_nodup
  · obtain ⟨m, hm, rfl⟩ := List.mem_map.1 hq
    exact allS_lv _ (siz_bit (by omega) (ds_lt h hm).1) (lv_all h m hm)
theorem lv_cmp {N : Int} {l : List Pq} (h : Ok9 N l) : ∀ n k, wsum (fun s => (cmpF (befL N.toNat l) k s.toNat : Int)) (lvN N l n) = (cmpF (befL N.toNat l) (n + k) 0 : Int) := by
  intro n
  induction n with
  | zero => intro k; simp [lvN, wsum]
  | succ n ih =>
    intro k
    have h1 := (lvI_ok h (lvN_ok h n) _ (Nat.le_refl _)).2.2 (fun s => (cmpF (befL N.toNat l) k s.toNat : Int)) (cmpF (befL N.toNat l) k) (fun t => by rw [Int.toNat_natCast])
    rw [List.take_length] at h1
    rw [lvN, h1, show n + 1 + k = n + (k + 1) by omega, ← ih (k + 1)]
    congr 1
    funext s
    rw [cmpF, befL_len]
theorem full_eq {n m m' : Nat} (hn : n ≤ 64) (h : siz 64 m = n) (h' : siz 64 m' = n) (hm : m < 2 ^ n) (hm' : m' < 2 ^ n) : m = m' := by
  have key : ∀ {m : Nat}, siz 64 m = n → m < 2 ^ n → ∀ i, m.testBit i = decide (i < n) := fun {m} h hm i => by
    by_cases hi : i < n
    · rw [decide_eq_true hi]
      cases hb : m.testBit i
      · have h1 := siz_or 64 i m (by omega) hb
        have h2 := siz_bit hn (Nat.or_lt_two_pow hm (Nat.pow_lt_pow_right (by omega) hi))
        omega
      · rfl
    · rw [decide_eq_false hi]
      exact Nat.testBit_lt_two_pow (Nat.lt_of_lt_of_le hm (Nat.pow_le_pow_right (by omega) (by omega)))
  exact Nat.eq_of_testBit_eq fun i => by rw [key h hm, key h' hm']
theorem lv_last {N : Int} {l : List Pq} (h : Ok9 N l) : waysL (lvN N l N.toNat) = [(cmp (befP N l) 0 : Int)] := by
  have hn9 := h.n9
  obtain ⟨e, _, hl, _, _⟩ := befP_ok h.ok
  have h1 := lv_cmp h N.toNat 0
  have hpos := cmp_pos0 (N := N) (l := l) ⟨h.ok, by rw [e]; exact h.d⟩
  have hc : cmp (befP N l) 0 = cmpF (befL N.toNat l) N.toNat 0 := by rw [cmp, siz_zero, Nat.sub_zero, hl, e]
  have hL := lvN_ok h N.toNat
  rw [Nat.add_zero, ← hc] at h1
  generalize hM : lvN N l N.toNat = M at *
  match M, h1, hL with
  | [], h1, _ => simp only [wsum] at h1; omega
  | [p], h1, _ =>
    simp only [wsum, cmpF] at h1
    rw [waysL, List.map_cons, List.map_nil, ← h1]
    simp
  | p :: q :: r, _, hL =>
    exfalso
    have hnd := hL.nd
    obtain ⟨a, e1, d1, s1⟩ := hL.mem p.1 (by simp [fsts])
    obtain ⟨b, e2, d2, s2⟩ := hL.mem q.1 (by simp [fsts])
    have hab := full_eq (n := N.toNat) (by omega) s1 s2 (ds_lt h d1).1 (ds_lt h d2).1
    simp only [fsts, List.map_cons, List.nodup_cons, List.mem_cons] at hnd
    exact hnd.1 (.inl (by rw [e1, e2, hab]))
end Go.Proofs.Ytiokmglajigngaa
