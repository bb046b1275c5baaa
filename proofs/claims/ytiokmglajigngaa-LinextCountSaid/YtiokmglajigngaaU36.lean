/-
  The linext layer: the reference's levels: can, add.
-/
import Derived.Test.YtiokmglajigngaaU35
namespace Go.Proofs.Ytiokmglajigngaa
open Go Go.Proofs.Ytiokmglajigngaa.Sx
set_option maxRecDepth 100000
set_option linter.unusedSimpArgs false
set_option linter.unusedVariables false

theorem wrB {x : Int} (h : 0 ≤ x) (h' : x < 64) : IntKind.u64.wrap x = x := by
  obtain ⟨n, rfl⟩ := Int.eq_ofNat_of_zero_le h
  exact u64_wrap (by omega)
theorem wrB2 {x : Int} (h : 0 ≤ x) (h' : x < 64) : 0 ≤ IntKind.u64.wrap x ∧ IntKind.u64.wrap x ≤ (IntKind.u64.bits : Int) := by
  rw [wrB h h']; exact ⟨h, by show x ≤ 64; omega⟩
theorem nthM' {α : Type} (d : α) {l : List α} {i : Nat} (h : i < l.length) : nthD d l i ∈ l := by
  rw [nthD_get d l i h]; exact List.getElem_mem h
theorem addL_new {s w : Int} : ∀ {L : List Pq}, (∀ p ∈ L, p.1 ≠ s) → addL L s w = L ++ [(s, w)]
  | [], _ => rfl
  | p :: r, h => by
    rw [addL, show (p.1 == s) = false from beq_false_of_ne (h p (.head _)), cond_false, addL_new fun q hq => h q (.tail _ hq)]; rfl
theorem addL_at {s w : Int} : ∀ {L : List Pq} {k : Nat}, k < L.length → (∀ j, j < k → (nthD (0, 0) L j).1 ≠ s) → (nthD (0, 0) L k).1 = s → (addL L s w).length = L.length ∧ ∀ j, nthD (0, 0) (addL L s w) j = bif Nat.beq j k then ((nthD (0, 0) L j).1, (nthD (0, 0) L j).2 + w) else nthD (0, 0) L j
  | [], k, h, _, _ => absurd h (Nat.not_lt_zero _)
  | p :: r, 0, h, _, e => by
    have e : p.1 = s := e
    rw [addL, show (p.1 == s) = true from beq_iff_eq.2 e, cond_true]
    refine ⟨rfl, fun j => ?_⟩
    cases j with
    | zero => rfl
    | succ j => rfl
  | p :: r, k + 1, h, hn, e => by
    have h0 : p.1 ≠ s := hn 0 (Nat.succ_pos _)
    obtain ⟨q1, q2⟩ := addL_at (L := r) (k := k) (Nat.lt_of_succ_lt_succ h) (fun j hj => hn (j + 1) (Nat.succ_lt_succ hj)) e
    rw [addL, show (p.1 == s) = false from beq_false_of_ne h0, cond_false]
    refine ⟨by rw [List.length_cons, q1]; rfl, fun j => ?_⟩
    cases j with
    | zero => rfl
    | succ j => exact q2 j
theorem v48_eq (N : Int) (l : List Pq) (s x : Int) : (fnVc (tab [] [(0, .of (lCan l s x 7))]) Try.f48 [rlV N 0 l, .i .u64 s, .i .i64 x] [arP l] (plainIs (.b (canF l s x)))) = (((0 : Int) ≤ IntKind.u64.wrap x ∧ IntKind.u64.wrap x ≤ (↑IntKind.u64.bits : Int)) ∧
 ((bits BinOp.and IntKind.u64 (s / (2 : Int) ^ (IntKind.u64.wrap x).toNat) (1 : Int) == (1 : Int)) = true →
 false = canF l s x) ∧
 ((bits BinOp.and IntKind.u64 (s / (2 : Int) ^ (IntKind.u64.wrap x).toNat) (1 : Int) == (1 : Int)) = false →
 ∃ (x_1 : PUnit),
 (∃ (x_2 : Nat),
 (x_2 ≤ l.length ∧
 ((List.take x_2 l).all fun (p : Pq) => !(p.snd == x && bitS s p.fst == (0 : Int))) = true) ∧
 ((0 : Int) = (↑x_2 : Int) ∧ True) ∧ True) ∧
 ∀ (x_2 : Nat),
 x_2 ≤ l.length ∧ ((List.take x_2 l).all fun (p : Pq) => !(p.snd == x && bitS s p.fst == (0 : Int))) = true →
 (decide ((↑x_2 : Int) < (↑l.length : Int)) = true →
 ((0 : Int) ≤ (↑x_2 : Int) ∧ (↑x_2 : Int) < (↑l.length : Int)) ∧
 x_2 < l.length ∧
 (((nthD ((0 : Int), (0 : Int)) l x_2).snd == x) = true →
 (0 : Int) ≤ (↑x_2 : Int) ∧ (↑x_2 : Int) < (↑l.length : Int)) ∧
 (((nthD ((0 : Int), (0 : Int)) l x_2).snd == x) = true → x_2 < l.length) ∧
 (((nthD ((0 : Int), (0 : Int)) l x_2).snd == x) = true →
 (0 : Int) ≤ IntKind.u64.wrap (nthD ((0 : Int), (0 : Int)) l x_2).fst ∧
 IntKind.u64.wrap (nthD ((0 : Int), (0 : Int)) l x_2).fst ≤ (↑IntKind.u64.bits : Int)) ∧
 (((nthD ((0 : Int), (0 : Int)) l x_2).snd == x &&
 bits BinOp.and IntKind.u64
 (s /
 (2 : Int) ^ (IntKind.u64.wrap (nthD ((0 : Int), (0 : Int)) l x_2).fst).toNat)
 (1 : Int) ==
 (0 : Int)) =
 true →
 false = canF l s x) ∧
 (((nthD ((0 : Int), (0 : Int)) l x_2).snd == x &&
 bits BinOp.and IntKind.u64
 (s /
 (2 : Int) ^ (IntKind.u64.wrap (nthD ((0 : Int), (0 : Int)) l x_2).fst).toNat)
 (1 : Int) ==
 (0 : Int)) =
 false →
 ∃ (x_3 : Nat),
 (x_3 ≤ l.length ∧
 ((List.take x_3 l).all fun (p : Pq) =>
 !(p.snd == x && bitS s p.fst == (0 : Int))) =
 true) ∧
 ((PLoop.of (lCan l s x (7 : Nat))).ann x_1).mu x_3 <
 ((PLoop.of (lCan l s x (7 : Nat))).ann x_1).mu x_2 ∧
 ((N = N ∧ l.length = l.length) ∧
 s = s ∧
 x = x ∧
 True ∧
 IntKind.i64.wrap ((↑x_2 : Int) + (1 : Int)) = (↑x_3 : Int) ∧
 s = s ∧
 x = x ∧
 IntKind.u64.wrap x = IntKind.u64.wrap x ∧
 s / (2 : Int) ^ (IntKind.u64.wrap x).toNat =
 s / (2 : Int) ^ (IntKind.u64.wrap x).toNat ∧
 bits BinOp.and IntKind.u64
 (s / (2 : Int) ^ (IntKind.u64.wrap x).toNat) (1 : Int) =
 bits BinOp.and IntKind.u64
 (s / (2 : Int) ^ (IntKind.u64.wrap x).toNat) (1 : Int) ∧
 false = false ∧ True) ∧
 (l.length = l.length ∧
 (∀ (j : Nat),
 j < l.length →
 (nthD ((0 : Int), (0 : Int)) l j).fst =
 (nthD ((0 : Int), (0 : Int)) l j).fst) ∧
 (∀ (j : Nat),
 j < l.length →
 (nthD ((0 : Int), (0 : Int)) l j).snd =
 (nthD ((0 : Int), (0 : Int)) l j).snd) ∧
 True) ∧
 (N = N ∧ l.length = l.length) ∧ True)) ∧
 (decide ((↑x_2 : Int) < (↑l.length : Int)) = false → true = canF l s x))) := by kernel_rfl
theorem v48 (N : Int) (l : List Pq) (s x : Int) (hl : L9 l) (hx : 0 ≤ x ∧ x < 64) (hp : ∀ p ∈ l, 0 ≤ p.1 ∧ p.1 < 64) : fnVc (tab [] [(0, .of (lCan l s x 7))]) Try.f48 [rlV N 0 l, .i .u64 s, .i .i64 x] [arP l] (plainIs (.b (canF l s x))) := by
  rw [v48_eq]
  simp only [eq_self, true_and, and_true, implies_true, imp_self, mkN_ps, mkN_self, mkN_len, PLoop.of, lCnt, lCan, lAdd, Nat.zero_add]
  refine ⟨wrB2 hx.1 hx.2, fun h => ?_, fun h => ⟨(), ⟨0, ⟨Nat.zero_le _, rfl⟩, rfl⟩, fun i hi => ⟨fun hlt => ?_, fun hge => ?_⟩⟩⟩
  · rw [canF, bitS, h]; rfl
  · have hi2 : i < l.length := by have := of_decide_eq_true hlt; omega
    have hm := nthM' (0, 0) hi2
    refine ⟨⟨by omega, by omega⟩, hi2, fun _ => ⟨by omega, by omega⟩, fun _ => hi2, fun _ => wrB2 (hp _ hm).1 (hp _ hm).2, fun hb => ?_, fun hb => ⟨i + 1, ⟨hi2, ?_⟩, by omega, wrS hi2 hl⟩⟩
    · symm
      rw [canF, Bool.and_eq_false_iff]
      right
      rw [Bool.eq_false_iff]
      intro ha
      have := List.all_eq_true.1 ha _ hm
      rw [bitS, hb] at this
      cases this
    · rw [take_succ' (0, 0) hi2, List.all_append, hi.2, Bool.true_and, List.all_cons, List.all_nil, bitS, hb]; rfl
  · have : i = l.length := by have := of_decide_eq_false hge; omega
    subst this
    have h2 := hi.2
    rw [List.take_length] at h2
    rw [canF, bitS, h, h2]; rfl

theorem v49_eq (g h : Nat → Int) (n : Nat) (s w : Int) : (fnVc (tab [] [(0, .of (lAdd g n s 7))]) Try.f49 [.agg [.sl 0 n, .sl 1 n, .ff], .i .u64 s, .i .i64 w] (addM g h n) (addPost (addL (mkN (fun j => (g j, h j)) n) s w))) = (∃ (x : PUnit),
 (∃ (x : Nat), (x ≤ n ∧ ∀ (j : Nat), j < x → g j ≠ s) ∧ ((0 : Int) = (↑x : Int) ∧ True) ∧ True) ∧
 ∀ (x_1 : Nat),
 (x_1 ≤ n ∧ ∀ (j : Nat), j < x_1 → g j ≠ s) →
 (decide ((↑x_1 : Int) < (↑n : Int)) = true → (0 : Int) ≤ (↑x_1 : Int) ∧ (↑x_1 : Int) < (↑n : Int)) ∧
 (decide ((↑x_1 : Int) < (↑n : Int)) = true → x_1 < n) ∧
 ((decide ((↑x_1 : Int) < (↑n : Int)) && g x_1 != s) = true →
 ∃ (x_2 : Nat),
 (x_2 ≤ n ∧ ∀ (j : Nat), j < x_2 → g j ≠ s) ∧
 ((PLoop.of (lAdd g n s (7 : Nat))).ann x).mu x_2 <
 ((PLoop.of (lAdd g n s (7 : Nat))).ann x).mu x_1 ∧
 ((n = n ∧ n = n ∧ false = false) ∧
 s = s ∧
 w = w ∧ True ∧ True ∧ IntKind.i64.wrap ((↑x_1 : Int) + (1 : Int)) = (↑x_2 : Int) ∧ True) ∧
 (n = n ∧ (∀ (j : Nat), j < n → g j = g j) ∧ True) ∧
 (n = n ∧ (∀ (j : Nat), j < n → h j = h j) ∧ True) ∧
 (n = n ∧ n = n ∧ false = false) ∧ (True ∧ True ∧ false = false) ∧ True) ∧
 ((decide ((↑x_1 : Int) < (↑n : Int)) && g x_1 != s) = false →
 (((↑x_1 : Int) == (↑n : Int)) = true →
 n = n ∧
 (1 : Nat) = (1 : Nat) ∧
 (n + (1 : Nat)) * (8 : Nat) ≤ (140737488355328 : Nat) ∧
 n + (1 : Nat) ≤ (9223372036854775807 : Nat) ∧
 n = n ∧
 (1 : Nat) = (1 : Nat) ∧
 (n + (1 : Nat)) * (8 : Nat) ≤ (140737488355328 : Nat) ∧
 n + (1 : Nat) ≤ (9223372036854775807 : Nat) ∧
 (n + (1 : Nat) = (addL (mkN (fun (j : Nat) => (g j, h j)) n) s w).length ∧
 n + (1 : Nat) = (addL (mkN (fun (j : Nat) => (g j, h j)) n) s w).length ∧
 false = false) ∧
 (n + (1 : Nat) = (addL (mkN (fun (j : Nat) => (g j, h j)) n) s w).length ∧
 (∀ (j : Nat),
 j < (addL (mkN (fun (j : Nat) => (g j, h j)) n) s w).length →
 (bif j.blt n then g j else pickI [s] (j - n)) =
 (nthD ((0 : Int), (0 : Int))
 (addL (mkN (fun (j : Nat) => (g j, h j)) n) s w) j).fst) ∧
 True) ∧
 (n + (1 : Nat) = (addL (mkN (fun (j : Nat) => (g j, h j)) n) s w).length ∧
 (∀ (j : Nat),
 j < (addL (mkN (fun (j : Nat) => (g j, h j)) n) s w).length →
 (bif j.blt n then h j else pickI [w] (j - n)) =
 (nthD ((0 : Int), (0 : Int))
 (addL (mkN (fun (j : Nat) => (g j, h j)) n) s w) j).snd) ∧
 True) ∧
 True) ∧
 (((↑x_1 : Int) == (↑n : Int)) = false →
 ((0 : Int) ≤ (↑x_1 : Int) ∧ (↑x_1 : Int) < (↑n : Int)) ∧
 x_1 < n ∧
 ((0 : Int) ≤ (↑x_1 : Int) ∧ (↑x_1 : Int) < (↑n : Int)) ∧
 x_1 < n ∧
 ((0 : Int) ≤ (↑x_1 : Int) ∧ (↑x_1 : Int) < (↑n : Int)) ∧
 x_1 < n ∧
 (n = (addL (mkN (fun (j : Nat) => (g j, h j)) n) s w).length ∧
 n = (addL (mkN (fun (j : Nat) => (g j, h j)) n) s w).length ∧
 decide
 ((bif x_1.beq x_1 then IntKind.i64.wrap (h x_1 + w) else h x_1) < (0 : Int)) =
 false) ∧
 (n = (addL (mkN (fun (j : Nat) => (g j, h j)) n) s w).length ∧
 (∀ (j : Nat),
 j < (addL (mkN (fun (j : Nat) => (g j, h j)) n) s w).length →
 g j =
 (nthD ((0 : Int), (0 : Int))
 (addL (mkN (fun (j : Nat) => (g j, h j)) n) s w) j).fst) ∧
 True) ∧
 (n = (addL (mkN (fun (j : Nat) => (g j, h j)) n) s w).length ∧
 (∀ (j : Nat),
 j < (addL (mkN (fun (j : Nat) => (g j, h j)) n) s w).length →
 (bif j.beq x_1 then IntKind.i64.wrap (h x_1 + w) else h j) =
 (nthD ((0 : Int), (0 : Int))
 (addL (mkN (fun (j : Nat) => (g j, h j)) n) s w) j).snd) ∧
 True) ∧
 True))) := by kernel_rfl
theorem v49 (g h : Nat → Int) (n : Nat) (s w : Int) (hn : n ≤ 1099511627776) (hw : 0 ≤ w ∧ w ≤ 1099511627776) (hp : ∀ j, j < n → 0 ≤ h j ∧ h j ≤ 1099511627776) : fnVc (tab [] [(0, .of (lAdd g n s 7))]) Try.f49 [.agg [.sl 0 n, .sl 1 n, .ff], .i .u64 s, .i .i64 w] (addM g h n) (addPost (addL (mkN (fun j => (g j, h j)) n) s w)) := by
  rw [v49_eq]
  simp only [eq_self, true_and, and_true, implies_true, imp_self, mkN_ps, mkN_self, mkN_len, PLoop.of, lCnt, lCan, lAdd, Nat.zero_add]
  have e1 : ∀ j, j < n → nthD (0, 0) (mkN (fun j => (g j, h j)) n) j = (g j, h j) := fun j hj => nthD_mkN _ _ hj
  generalize hL : mkN (fun j => (g j, h j)) n = L at *
  have hlen : L.length = n := by rw [← hL, mkN_len]
  refine ⟨(), ⟨0, ⟨Nat.zero_le _, fun j hj => absurd hj (Nat.not_lt_zero _)⟩, rfl⟩, fun k hk => ⟨fun hd => ?_, fun hd => ?_, fun hb => ?_, fun hb => ⟨fun he => ?_, fun he => ?_⟩⟩⟩
  · have := of_decide_eq_true hd; omega
  · have := of_decide_eq_true hd; omega
  · rw [Bool.and_eq_true] at hb
    have h1 := of_decide_eq_true hb.1
    have h2 : g k ≠ s := by simpa using hb.2
    refine ⟨k + 1, ⟨by omega, fun j hj => ?_⟩, by omega, wrS (n := n) (by omega) hn⟩
    rcases Nat.lt_or_ge j k with h3 | h3
    · exact hk.2 j h3
    · have : j = k := by omega
      rw [this]; exact h2
  · have hkn : k = n := by have : (k : Int) = n := by simpa using he
                           omega
    subst hkn
    have ha : addL L s w = L ++ [(s, w)] := addL_new fun p hm => by
      obtain ⟨j, hj, rfl⟩ := List.getElem_of_mem hm
      have h1 := e1 j (by omega)
      rw [nthD_get _ _ _ hj] at h1
      rw [h1]; exact hk.2 j (by omega)
    have hal : (addL L s w).length = k + 1 := by rw [ha]; simp [hlen]
    have hg : ∀ j, j < (addL L s w).length → (bif Nat.blt j k then g j else pickI [s] (j - k)) = (nthD (0, 0) (addL L s w) j).1 ∧ (bif Nat.blt j k then h j else pickI [w] (j - k)) = (nthD (0, 0) (addL L s w) j).2 := fun j hj => by
      rw [ha]
      by_cases h3 : j < k
      · rw [blt_t h3, cond_true, cond_true, nthD_lt _ (by omega), e1 j h3]; exact ⟨rfl, rfl⟩
      · have : j = L.length := by omega
        subst this
        rw [blt_f h3, cond_false, cond_false, nthD_at]; exact ⟨rfl, rfl⟩
    exact ⟨by omega, by omega, by omega, by omega, ⟨hal.symm, hal.symm⟩, ⟨hal.symm, fun j hj => (hg j hj).1⟩, hal.symm, fun j hj => (hg j hj).2⟩
  · have hne : k ≠ n := fun e => by subst e; simp at he
    have hkn : k < n := by omega
    have hgs : g k = s := by
      rw [decide_eq_true (show (k : Int) < (n : Int) by omega), Bool.true_and] at hb
      simpa using hb
    obtain ⟨a1, a2⟩ := addL_at (L := L) (s := s) (w := w) (k := k) (by omega) (fun j hj => by rw [e1 j (by omega)]; exact hk.2 j hj) (by rw [e1 k hkn]; exact hgs)
    have hpk := hp k hkn
    have hwr : IntKind.i64.wrap (h k + w) = h k + w := w64_eq (by omega) (by omega)
    have hal : n = (addL L s w).length := by rw [a1, hlen]
    refine ⟨⟨by omega, by omega⟩, hkn, ⟨by omega, by omega⟩, hkn, ⟨by omega, by omega⟩, hkn, ⟨hal, hal, ?_⟩, ⟨hal, fun j hj => ?_⟩, hal, fun j hj => ?_⟩
    · rw [Nat.beq_refl, cond_true, hwr]; exact decide_eq_false (by omega)
    · have hj' : j < n := by omega
      rw [a2 j, e1 j hj']; cases Nat.beq j k <;> rfl
    · have hj' : j < n := by omega
      rw [a2 j, e1 j hj', hwr]
      cases hbk : Nat.beq j k
      · rfl
      · have := Nat.eq_of_beq_eq_true hbk
        subst this
        rfl

theorem fo48 : fnOk Try.prog 48 := ⟨Try.f48, Try.func48, by kernel_rfl, by kernel_rfl⟩
theorem fo49 : fnOk Try.prog 49 := ⟨Try.f49, Try.func49, by kernel_rfl, by kernel_rfl⟩
def t48 : List AV → Tab
  | [.r N l, .u s, .i x] => tab [] [(0, .of (lCan l s x 7))]
  | _ => tab [] []
theorem c48 : CallOk Try.prog [] 48 (genF EL [] [.r, .u, .i] sCan) := by
  refine okT (fn := Try.f48) Try.func48 fo48 t48 (fun av => ?_) (fun av => ?_) (fun av pre rv h => ?_) (fun av pre rv h hp => ?_)
  · unfold t48; split <;> first | exact tabOk mNil | exact tabOk mNil
  · unfold t48; split <;> exact ⟨rfl, rfl⟩
  · unfold sCan at h; split at h <;> cases h
    exact ⟨rfl, fun t a e => by cases e <;> exact List.cons_ne_nil _ _⟩
  · unfold sCan at h; split at h <;> cases h
    exact v48 _ _ _ _ (hp _ (.head _)) (hp _ (.tail _ (.head _))) (hp _ (.tail _ (.tail _ (.head _))))
theorem n48 (nm : List (Option AV)) : CallOk Try.prog [] 48 (genF EL nm [.r, .u, .i] sCan) := genNm c48

theorem mkN_get2 {g h : Nat → Int} {n j : Nat} (hj : j < n) : (g j, h j) ∈ mkN (fun j => (g j, h j)) n := by
  have := nthM' (0, 0) (l := mkN (fun j => (g j, h j)) n) (i := j) (by rw [mkN_len]; exact hj)
  rw [nthD_mkN _ _ hj] at this
  exact this
theorem b49 : CallOkB Try.prog [] 49 kAdd := by
  refine callOkB Try.func49 fo49 fun m vs b h hp => ?_
  unfold kAdd at h
  repeat' (split at h)
  all_goals first | cases h | skip
  rename_i _ _ p n q n2 s w _ _ n' g n2' h0 h1 h2
  cases hc : nodupN [p, q] <;> rw [hc] at h
  · cases h
  · simp only [cond_true, Option.some.injEq] at h
    subst h
    have p1 := hp (n = n') (.head _)
    have p2 := hp (n2 = n') (.tail _ (.head _))
    have p3 := hp (n2' = n') (.tail _ (.tail _ (.head _)))
    have p4 := hp _ (.tail _ (.tail _ (.tail _ (.head _))))
    have p5 := hp _ (.tail _ (.tail _ (.tail _ (.tail _ (.head _)))))
    have p6 := hp _ (.tail _ (.tail _ (.tail _ (.tail _ (.tail _ (.head _))))))
    subst p1; subst p2; subst p3
    have p4 : n2' ≤ 1099511627776 := by have h : (mkN (fun j => (g j, h0 j)) n2').length ≤ 1099511627776 := p4
                                        rw [mkN_len] at h; exact h
    refine ⟨tab [] [(0, .of (lAdd g n2' s 7))], [p, q], addM g h0 n2', [.agg [.sl 0 n2', .sl 1 n2', .ff], .i .u64 s, .i .i64 w], [0, 1], addUp (addL (mkN (fun j => (g j, h0 j)) n2') s w), lvV 0 1 (addL (mkN (fun j => (g j, h0 j)) n2') s w).length, _, fun pins => ⟨mixed, tys, ints, fun _ _ hf => mNil _ (assoc_mem hf), fun _ _ hf => by cases hf⟩, rfl, rfl, hc, rfl, rfl, fun i k0 hk => ?_, rfl, fun x => v49 g h0 n2' s w p4 p5 fun j hj => p6 _ (mkN_get2 hj)⟩
    rw [nth_eq] at h1 h2
    match i with
    | 0 => cases hk; exact h1
    | 1 => cases hk; exact h2
    | _ + 2 => cases hk
end Go.Proofs.Ytiokmglajigngaa
