/-
  A part of the proof (Rw11).
-/
import Derived.Test.YtcbmbnlgilampaaRw10
namespace Go.Proofs.Ytcbmbnlgilampaa
open Go Go.Proofs.Ytcbmbnlgilampaa.Sx
set_option maxRecDepth 100000
set_option linter.unusedSimpArgs false
set_option linter.unusedVariables false

theorem foldl_mono {n : Nat} {f : Pf} {R : List (List Int)} (hr : RowsOf n f R) {a : Int} {F : Nat} {b : Int} {L : List Int} {s : Pf} (hL : ∀ c ∈ L, f b c = true) (hu : unv n s a < F + 1) : unv n (L.foldl (dstep R a F) s) a ≤ unv n s a :=
  unv_mono ((wk_fold hr (fun c s q1 q2 q3 => wk_dfs hr F c s q1 q2 q3) L s hL hu).mono a)
theorem v46_eq (R : List (List Int)) (F : Nat) (a b : Int) (s : Pf) (x : Nat → Option Addr × Nat) : (fnVc (tabV R F [(0, .of (lVis R F a b s))] (pinsOf x [] 6)) Try.f46 (visV b) (visM R a s) (visPost R a (dfs R a (F + 1) b s))) = (((0 : Int) ≤ b ∧ b < (↑R.length : Int)) ∧
 b.toNat < R.length ∧
 ∃ (x : PUnit),
 (∃ (x : Nat),
 (x ≤ (rowN R b).length ∧ True) ∧
 ((0 : Int) = (↑x : Int) ∧ True) ∧
 (∀ (x_1 y : Int), s x_1 y = List.foldl (dstep R a F) s (List.take x (rowN R b)) x_1 y) ∧ True) ∧
 ∀ (x_1 : Nat),
 x_1 ≤ (rowN R b).length ∧ True →
 (decide ((↑x_1 : Int) < (↑(nthD [] R b.toNat).length : Int)) = true →
 ((0 : Int) ≤ (↑x_1 : Int) ∧ (↑x_1 : Int) < (↑(nthD [] R b.toNat).length : Int)) ∧
 x_1 < (nthD [] R b.toNat).length ∧
 ((!List.foldl (dstep R a F) s (List.take x_1 (rowN R b)) a
 (nthD (0 : Int) (nthD [] R b.toNat) x_1)) =
 true →
 R.length = R.length ∧
 R.length = R.length ∧
 ((fun (j : Nat) => (nthD [] R j).length) = fun (j : Nat) => (nthD [] R j).length) ∧
 ((fun (j i : Nat) => nthD (0 : Int) (nthD [] R j) i) = fun (j i : Nat) =>
 nthD (0 : Int) (nthD [] R j) i) ∧
 ((0 : Int) ≤ nthD (0 : Int) (nthD [] R b.toNat) x_1 ∧
 nthD (0 : Int) (nthD [] R b.toNat) x_1 < (↑R.length : Int)) ∧
 unv R.length
 (fun (a_4 b_1 : Int) =>
 a_4 == a && b_1 == nthD (0 : Int) (nthD [] R b.toNat) x_1 ||
 List.foldl (dstep R a F) s (List.take x_1 (rowN R b)) a_4 b_1)
 a <
 F ∧
 ∃ (x_2 : Nat),
 (x_2 ≤ (rowN R b).length ∧ True) ∧
 ((PLoop.of (lVis R F a b s)).ann x).mu x_2 <
 ((PLoop.of (lVis R F a b s)).ann x).mu x_1 ∧
 (b = b ∧
 True ∧
 True ∧
 True ∧
 True ∧
 R.length = R.length ∧
 b = b ∧
 b.toNat = b.toNat ∧
 (nthD [] R b.toNat).length = (nthD [] R b.toNat).length ∧
 (↑(nthD [] R b.toNat).length : Int) =
 (↑(nthD [] R b.toNat).length : Int) ∧
 IntKind.i64.wrap ((↑x_1 : Int) + (1 : Int)) =
 (↑x_2 : Int) ∧
 True) ∧
 R.length = R.length ∧
 a = a ∧
 True ∧
 (True ∧ True ∧ True ∧ True) ∧
 (∀ (x y : Int),
 dfs R a F (nthD (0 : Int) (nthD [] R b.toNat) x_1)
 (fun (a_4 b_1 : Int) =>
 a_4 == a &&
 b_1 == nthD (0 : Int) (nthD [] R b.toNat) x_1 ||
 List.foldl (dstep R a F) s (List.take x_1 (rowN R b))
 a_4 b_1)
 x y =
 List.foldl (dstep R a F) s (List.take x_2 (rowN R b)) x y) ∧
 (R.length = R.length ∧
 ((∀ (j : Nat),
 j < R.length →
 (nthD [] R j).length = (nthD [] R j).length) ∧
 (∀ (j : Nat),
 j < R.length →
 ∀ (i : Nat),
 i < (nthD [] R j).length →
 nthD (0 : Int) (nthD [] R j) i =
 nthD (0 : Int) (nthD [] R j) i) ∧
 True) ∧
 True) ∧
 ((nthD [] R b.toNat).length = (nthD [] R b.toNat).length ∧
 (∀ (j : Nat),
 j < (nthD [] R b.toNat).length →
 nthD (0 : Int) (nthD [] R b.toNat) j =
 nthD (0 : Int) (nthD [] R b.toNat) j) ∧
 True) ∧
 True) ∧
 ((!List.foldl (dstep R a F) s (List.take x_1 (rowN R b)) a
 (nthD (0 : Int) (nthD [] R b.toNat) x_1)) =
 false →
 ∃ (x_2 : Nat),
 (x_2 ≤ (rowN R b).length ∧ True) ∧
 ((PLoop.of (lVis R F a b s)).ann x).mu x_2 < ((PLoop.of (lVis R F a b s)).ann x).mu x_1 ∧
 (b = b ∧
 True ∧
 True ∧
 True ∧
 True ∧
 R.length = R.length ∧
 b = b ∧
 b.toNat = b.toNat ∧
 (nthD [] R b.toNat).length = (nthD [] R b.toNat).length ∧
 (↑(nthD [] R b.toNat).length : Int) =
 (↑(nthD [] R b.toNat).length : Int) ∧
 IntKind.i64.wrap ((↑x_1 : Int) + (1 : Int)) = (↑x_2 : Int) ∧ True) ∧
 R.length = R.length ∧
 a = a ∧
 True ∧
 (True ∧ True ∧ True ∧ True) ∧
 (∀ (x y : Int),
 List.foldl (dstep R a F) s (List.take x_1 (rowN R b)) x y =
 List.foldl (dstep R a F) s (List.take x_2 (rowN R b)) x y) ∧
 (R.length = R.length ∧
 ((∀ (j : Nat),
 j < R.length → (nthD [] R j).length = (nthD [] R j).length) ∧
 (∀ (j : Nat),
 j < R.length →
 ∀ (i : Nat),
 i < (nthD [] R j).length →
 nthD (0 : Int) (nthD [] R j) i =
 nthD (0 : Int) (nthD [] R j) i) ∧
 True) ∧
 True) ∧
 ((nthD [] R b.toNat).length = (nthD [] R b.toNat).length ∧
 (∀ (j : Nat),
 j < (nthD [] R b.toNat).length →
 nthD (0 : Int) (nthD [] R b.toNat) j =
 nthD (0 : Int) (nthD [] R b.toNat) j) ∧
 True) ∧
 True)) ∧
 (decide ((↑x_1 : Int) < (↑(nthD [] R b.toNat).length : Int)) = false →
 True ∧
 R.length = R.length ∧
 a = a ∧
 True ∧
 (True ∧ True ∧ True ∧ True) ∧
 (∀ (x y : Int),
 List.foldl (dstep R a F) s (List.take x_1 (rowN R b)) x y =
 dfs R a (F + (1 : Nat)) b s x y) ∧
 (R.length = R.length ∧
 ((∀ (j : Nat), j < R.length → (nthD [] R j).length = (nthD [] R j).length) ∧
 (∀ (j : Nat),
 j < R.length →
 ∀ (i : Nat),
 i < (nthD [] R j).length →
 nthD (0 : Int) (nthD [] R j) i = nthD (0 : Int) (nthD [] R j) i) ∧
 True) ∧
 True) ∧
 True)) := by kernel_rfl
theorem v46 (R : List (List Int)) (F : Nat) (a b : Int) (s : Pf) (x : Nat → Option Addr × Nat) {f : Pf} (hr : RowsOf R.length f R) (hl : ∀ j, (nthD [] R j).length ≤ 64) (hb : 0 ≤ b ∧ b < (R.length : Int)) (hu : unv R.length s a < F + 1) : fnVc (tabV R F [(0, .of (lVis R F a b s))] (pinsOf x [] 6)) Try.f46 (visV b) (visM R a s) (visPost R a (dfs R a (F + 1) b s)) := by
  rw [v46_eq]
  simp only [eq_self, true_and, and_true, implies_true, imp_self, mkN_ps, mkN_rs, mkN_self, mkN_len, PLoop.of, lCnt, lVis, AV.len]
  refine ⟨hb, by omega, (), ⟨0, by simp, rfl, fun x y => by simp⟩, fun i hi => ⟨fun hlt => ?_, fun hlt x y => ?_⟩⟩
  · have hi2 : i < (nthD [] R b.toNat).length := lt_len hlt
    have hlb := hl b.toNat
    have hmem : nthD 0 (nthD [] R b.toNat) i ∈ nthD [] R b.toNat := by rw [nthD_get _ _ _ hi2]; exact List.getElem_mem hi2
    have hf := (hr.mem b _ hb.1 hb.2).1 hmem
    have hc := hr.sup _ _ hf
    have hmo := foldl_mono hr (L := List.take i (rowN R b)) (s := s) (a := a) (F := F) (b := b) (fun c hc => (hr.mem b c hb.1 hb.2).1 (List.mem_of_mem_take hc)) hu
    have ht : List.take (i + 1) (rowN R b) = List.take i (rowN R b) ++ [nthD 0 (nthD [] R b.toNat) i] := take_succ' 0 hi2
    refine ⟨bd hi2, hi2, fun hn => ⟨⟨hc.2.2.1, hc.2.2.2⟩, ?_, i + 1, ?_, ?_, wrS (n := 64) (by omega) (by omega), fun x y => ?_⟩, fun hn => ⟨i + 1, ?_, ?_, wrS (n := 64) (by omega) (by omega), fun x y => ?_⟩⟩
    · have hn2 : List.foldl (dstep R a F) s (List.take i (rowN R b)) a (nthD 0 (nthD [] R b.toNat) i) = false := by simpa using hn
      have := unv_put (n := R.length) hc.2.2.1 hc.2.2.2 hn2
      have h3 : unv R.length (fun a_4 b_1 => a_4 == a && b_1 == nthD 0 (nthD [] R b.toNat) i || List.foldl (dstep R a F) s (List.take i (rowN R b)) a_4 b_1) a < unv R.length (List.foldl (dstep R a F) s (List.take i (rowN R b))) a := this
      omega
    · exact hi2
    · have : i < (rowN R b).length := hi2
      omega
    · have hn2 : List.foldl (dstep R a F) s (List.take i (rowN R b)) a (nthD 0 (nthD [] R b.toNat) i) = false := by simpa using hn
      rw [ht, List.foldl_append]
      show _ = dstep R a F (List.foldl (dstep R a F) s (List.take i (rowN R b))) (nthD 0 (nthD [] R b.toNat) i) x y
      rw [dstep, hn2]
      rfl
    · exact hi2
    · have : i < (rowN R b).length := hi2
      omega
    · have hn2 : List.foldl (dstep R a F) s (List.take i (rowN R b)) a (nthD 0 (nthD [] R b.toNat) i) = true := by simpa using hn
      rw [ht, List.foldl_append]
      show _ = dstep R a F (List.foldl (dstep R a F) s (List.take i (rowN R b))) (nthD 0 (nthD [] R b.toNat) i) x y
      rw [dstep, hn2]
      rfl
  · have hi2 : i = (rowN R b).length := ge_len hlt hi
    rw [hi2, List.take_length, dfs_succ]
    rfl
theorem fo46 : fnOk Try.prog 46 := ⟨Try.f46, Try.func46, by kernel_rfl, by kernel_rfl⟩

theorem tabVOk {R : List (List Int)} {F : Nat} {loops : List (Nat × PLoop)} {pins : List (Nat × (Option Addr × Nat))} (h : CallOkB Try.prog [] 46 (kVisF R F)) : TabOk Try.prog (tabV R F loops pins) := ⟨mixed, tys, ints, fun _ _ hf => (by cases hf), fun g G hf => (by
  have h2 := assoc_mem hf
  rcases List.mem_singleton.1 h2 with h3
  cases h3
  exact h)⟩
theorem vis_inv {R : List (List Int)} {F : Nat} {m : List MBlk} {vs : List SV} {b : BRes} (h : kVisF R F m vs = some b) : ∃ (y : Int) (e1 e2 e3 e4 r q n n' : Nat) (a : Int) (len : Nat → Nat) (g : Nat → Nat → Int) (s : Pf),
    vs = [.i .i64 y, .ptr e1 0, .ptr e2 0, .ptr e3 0, .ptr e4 0] ∧ nth m e1 = some (.cells [.sl r n]) ∧ nth m e2 = some (.cells [.i .i64 a]) ∧ nth m e3 = some (.cells [.mp q]) ∧ nth m e4 = some (.cells [.fn 46 [.ptr e1 0, .ptr e2 0, .ptr e3 0, .ptr e4 0]]) ∧
    nth m r = some (.oarr 26 n' [.rows len [g]]) ∧ nth m q = some (.mapp s) ∧ nodupN [e1, e2, e3, e4, q, r] = true ∧
    b = tB [e1, e2, e3, e4, q, r] [] (visUp R a (dfs R a F y s)) (.tup []) [n = R.length, n' = R.length, len = (fun j => (nthD [] R j).length), g = (fun j i => nthD 0 (nthD [] R j) i), 0 ≤ y ∧ y < (R.length : Int), unv R.length s a < F] := by
  unfold kVisF at h
  repeat' (split at h)
  all_goals first | cases h | skip
  rename_i _ _ y e1 e2 e3 e4 _ _ _ _ r n a q p1 p2 p3 p4 h1 h2 h3 h4 _ _ n' len g s h5 h6
  cases hc : (p1.beq e1 && p2.beq e2 && p3.beq e3 && p4.beq e4 && nodupN [e1, e2, e3, e4, q, r]) <;> rw [hc] at h
  · cases h
  · simp only [Bool.and_eq_true] at hc
    obtain ⟨⟨⟨⟨q1, q2⟩, q3⟩, q4⟩, q5⟩ := hc
    have q1 := Nat.eq_of_beq_eq_true q1
    have q2 := Nat.eq_of_beq_eq_true q2
    have q3 := Nat.eq_of_beq_eq_true q3
    have q4 := Nat.eq_of_beq_eq_true q4
    subst q1; subst q2; subst q3; subst q4
    simp only [cond_true, Option.some.injEq] at h
    exact ⟨_, _, _, _, _, _, _, _, _, _, _, _, _, rfl, h1, h2, h3, h4, h5, h6, q5, h.symm⟩
theorem b46 {R : List (List Int)} {f : Pf} (hr : RowsOf R.length f R) (hl : ∀ j, (nthD [] R j).length ≤ 64) : ∀ F, CallOkB Try.prog [] 46 (kVisF R F) := by
  intro F
  induction F with
  | zero =>
    refine callOkB Try.func46 fo46 fun m vs b h hp => ?_
    obtain ⟨y, e1, e2, e3, e4, r, q, n, n', a, len, g, s, rfl, h1, h2, h3, h4, h5, h6, h7, rfl⟩ := vis_inv h
    have := hp (unv R.length s a < 0) (by simp [tB])
    omega
  | succ F ih =>
    refine callOkB Try.func46 fo46 fun m vs b h hp => ?_
    obtain ⟨y, e1, e2, e3, e4, r, q, n, n', a, len, g, s, rfl, h1, h2, h3, h4, h5, h6, h7, rfl⟩ := vis_inv h
    have p1 := hp (n = R.length) (by simp [tB])
    have p2 := hp (n' = R.length) (by simp [tB])
    have p3 := hp (len = _) (.tail _ (.tail _ (.head _)))
    have p4 := hp (g = _) (.tail _ (.tail _ (.tail _ (.head _))))
    have p5 := hp (0 ≤ y ∧ y < (R.length : Int)) (by simp [tB])
    have p6 := hp (unv R.length s a < F + 1) (by simp [tB])
    subst p1; subst p2; subst p3; subst p4
    refine ⟨tabV R F [(0, .of (lVis R F a y s))] [], [e1, e2, e3, e4, q, r], visM R a s, visV y, [], visUp R a (dfs R a (F + 1) y s), .tup [], _, fun pins => tabVOk ih, rfl, rfl, h7, rfl, rfl, fun i k0 hk => ?_, rfl, fun x => v46 R F a y s x hr hl p5 p6⟩
    rw [nth_eq] at h1 h2 h3 h4 h5 h6
    match i with
    | 0 => cases hk; exact h1
    | 1 => cases hk; exact h2
    | 2 => cases hk; exact h3
    | 3 => cases hk; exact h4
    | 4 => cases hk; exact h6
    | 5 => cases hk; exact h5
    | _ + 6 => cases hk
end Go.Proofs.Ytcbmbnlgilampaa
