/-
  The linext layer: the reference's Downsets, Count.
-/
import Derived.Test.YtiokmglajigngaaU38
namespace Go.Proofs.Ytiokmglajigngaa
open Go Go.Proofs.Ytiokmglajigngaa.Sx
set_option maxRecDepth 100000
set_option linter.unusedSimpArgs false
set_option linter.unusedVariables false
theorem v23_eq (N : Int) (l : List Pq) : (fnVc (tab [kWro [], kLev []] []) Try.f23 [rlV N 0 l] [arP l] (plainIs (.tup [.i .i64 (dwnV N l : Int), .i .i64 (dwnE N l)]))) = (l.length = l.length ∧
 (mkN (fun (j : Nat) => ((nthD ((0 : Int), (0 : Int)) l j).fst, (nthD ((0 : Int), (0 : Int)) l j).snd))
 l.length).length ≤
 (1099511627776 : Nat) ∧
 ((errP N
 (mkN (fun (j : Nat) => ((nthD ((0 : Int), (0 : Int)) l j).fst, (nthD ((0 : Int), (0 : Int)) l j).snd))
 l.length) !=
 (0 : Int)) =
 true →
 (0 : Int) = (↑(dwnV N l) : Int) ∧
 errP N
 (mkN (fun (j : Nat) => ((nthD ((0 : Int), (0 : Int)) l j).fst, (nthD ((0 : Int), (0 : Int)) l j).snd))
 l.length) =
 dwnE N l) ∧
 ((errP N
 (mkN (fun (j : Nat) => ((nthD ((0 : Int), (0 : Int)) l j).fst, (nthD ((0 : Int), (0 : Int)) l j).snd))
 l.length) !=
 (0 : Int)) =
 false →
 l.length = l.length ∧
 (mkN (fun (j : Nat) => ((nthD ((0 : Int), (0 : Int)) l j).fst, (nthD ((0 : Int), (0 : Int)) l j).snd))
 l.length).length ≤
 (1099511627776 : Nat) ∧
 okP N
 (mkN (fun (j : Nat) => ((nthD ((0 : Int), (0 : Int)) l j).fst, (nthD ((0 : Int), (0 : Int)) l j).snd))
 l.length) =
 true ∧
 N ≤ (9 : Int) ∧
 (↑(dsE
 (befP N
 (mkN
 (fun (j : Nat) =>
 ((nthD ((0 : Int), (0 : Int)) l j).fst, (nthD ((0 : Int), (0 : Int)) l j).snd))
 l.length))).length :
 Int) =
 (↑(dwnV N l) : Int) ∧
 (0 : Int) = dwnE N l)) := by kernel_rfl
theorem v23 (N : Int) (l : List Pq) (hl : L9 l) (h9 : N ≤ 9) : fnVc (tab [kWro [], kLev []] []) Try.f23 [rlV N 0 l] [arP l] (plainIs (.tup [.i .i64 (dwnV N l : Int), .i .i64 (dwnE N l)])) := by
  rw [v23_eq]
  simp only [eq_self, true_and, and_true, implies_true, imp_self, mkN_ps, mkN_self, mkN_len, PLoop.of, lCnt, Nat.zero_add, AV.len]
  rw [err_ok]
  refine ⟨hl, fun h => ?_, fun h => ?_⟩
  · have h : okP N l = false := by simpa using h
    rw [dwnV, dwnE, h]; exact ⟨rfl, rfl⟩
  · have h : okP N l = true := by simpa using h
    obtain ⟨_, _, hn, _, _⟩ := befP_ok h
    have o1 := dsO_ok (okD_small (B := befP N l) (by omega))
    refine ⟨hl, h, h9, ?_, ?_⟩
    · rw [dwnV, h, o1.1, cond_true, toI, List.length_map]
    · rw [dwnE, h, o1.2.1]; rfl

theorem v25_eq (N : Int) (l : List Pq) : (fnVc (tab [kWro [], kLev []] []) Try.f25 [rlV N 0 l] [arP l] (plainIs (.tup [.i .i64 (cntV N l : Int), .i .i64 (cntE N l)]))) = (l.length = l.length ∧
 (mkN (fun (j : Nat) => ((nthD ((0 : Int), (0 : Int)) l j).fst, (nthD ((0 : Int), (0 : Int)) l j).snd))
 l.length).length ≤
 (1099511627776 : Nat) ∧
 ((errP N
 (mkN (fun (j : Nat) => ((nthD ((0 : Int), (0 : Int)) l j).fst, (nthD ((0 : Int), (0 : Int)) l j).snd))
 l.length) !=
 (0 : Int)) =
 true →
 (0 : Int) = (↑(cntV N l) : Int) ∧
 errP N
 (mkN (fun (j : Nat) => ((nthD ((0 : Int), (0 : Int)) l j).fst, (nthD ((0 : Int), (0 : Int)) l j).snd))
 l.length) =
 cntE N l) ∧
 ((errP N
 (mkN (fun (j : Nat) => ((nthD ((0 : Int), (0 : Int)) l j).fst, (nthD ((0 : Int), (0 : Int)) l j).snd))
 l.length) !=
 (0 : Int)) =
 false →
 l.length = l.length ∧
 (mkN (fun (j : Nat) => ((nthD ((0 : Int), (0 : Int)) l j).fst, (nthD ((0 : Int), (0 : Int)) l j).snd))
 l.length).length ≤
 (1099511627776 : Nat) ∧
 okP N
 (mkN (fun (j : Nat) => ((nthD ((0 : Int), (0 : Int)) l j).fst, (nthD ((0 : Int), (0 : Int)) l j).snd))
 l.length) =
 true ∧
 N ≤ (9 : Int) ∧
 ((0 : Int) ≤ (0 : Int) ∧
 (0 : Int) <
 (↑[(↑(cmp
 (befP N
 (mkN
 (fun (j : Nat) =>
 ((nthD ((0 : Int), (0 : Int)) l j).fst,
 (nthD ((0 : Int), (0 : Int)) l j).snd))
 l.length))
 (0 : Nat)) :
 Int)].length :
 Int)) ∧
 Int.toNat (0 : Int) <
 [(↑(cmp
 (befP N
 (mkN
 (fun (j : Nat) =>
 ((nthD ((0 : Int), (0 : Int)) l j).fst, (nthD ((0 : Int), (0 : Int)) l j).snd))
 l.length))
 (0 : Nat)) :
 Int)].length ∧
 nthD (0 : Int)
 [(↑(cmp
 (befP N
 (mkN
 (fun (j : Nat) =>
 ((nthD ((0 : Int), (0 : Int)) l j).fst, (nthD ((0 : Int), (0 : Int)) l j).snd))
 l.length))
 (0 : Nat)) :
 Int)]
 (Int.toNat (0 : Int)) =
 (↑(cntV N l) : Int) ∧
 (0 : Int) = cntE N l)) := by kernel_rfl
theorem v25 (N : Int) (l : List Pq) (hl : L9 l) (h9 : N ≤ 9) : fnVc (tab [kWro [], kLev []] []) Try.f25 [rlV N 0 l] [arP l] (plainIs (.tup [.i .i64 (cntV N l : Int), .i .i64 (cntE N l)])) := by
  rw [v25_eq]
  simp only [eq_self, true_and, and_true, implies_true, imp_self, mkN_ps, mkN_self, mkN_len, PLoop.of, lCnt, Nat.zero_add, AV.len]
  rw [err_ok]
  refine ⟨hl, fun h => ?_, fun h => ?_⟩
  · have h : okP N l = false := by simpa using h
    rw [cntV, cntE, h]; exact ⟨rfl, rfl⟩
  · have h : okP N l = true := by simpa using h
    obtain ⟨_, _, hn, _, _⟩ := befP_ok h
    have hc := okC_small (B := befP N l) (by omega)
    refine ⟨hl, h, h9, ⟨by omega, by simp⟩, by simp, ?_, ?_⟩
    · rw [cntV, h, hc]; rfl
    · rw [cntE, h, errC_ok hc]; rfl

theorem fo23 : fnOk Try.prog 23 := ⟨Try.f23, Try.func23, by kernel_rfl, by kernel_rfl⟩
theorem fo25 : fnOk Try.prog 25 := ⟨Try.f25, Try.func25, by kernel_rfl, by kernel_rfl⟩
def t23 : List AV → Tab
  | [.r N l] => tab [kWro [], kLev []] []
  | _ => tab [] []
theorem c23 : CallOk Try.prog [] 23 (genF EL [] [.r] sDwR) := by
  refine okT (fn := Try.f23) Try.func23 fo23 t23 (fun av => ?_) (fun av => ?_) (fun av pre rv h => ?_) (fun av pre rv h hp => ?_)
  · unfold t23; split <;> first | exact tabOk (mOne (n35 _) (mOne (n43 _) mNil)) | exact tabOk mNil
  · unfold t23; split <;> exact ⟨rfl, rfl⟩
  · unfold sDwR at h; split at h <;> cases h
    exact ⟨rfl, fun t a e => by cases e <;> exact List.cons_ne_nil _ _⟩
  · unfold sDwR at h; split at h <;> cases h
    exact v23 _ _ (hp _ (.head _)) (hp _ (.tail _ (.head _)))
theorem n23 (nm : List (Option AV)) : CallOk Try.prog [] 23 (genF EL nm [.r] sDwR) := genNm c23
def t25 : List AV → Tab
  | [.r N l] => tab [kWro [], kLev []] []
  | _ => tab [] []
theorem c25 : CallOk Try.prog [] 25 (genF EL [] [.r] sCnR) := by
  refine okT (fn := Try.f25) Try.func25 fo25 t25 (fun av => ?_) (fun av => ?_) (fun av pre rv h => ?_) (fun av pre rv h hp => ?_)
  · unfold t25; split <;> first | exact tabOk (mOne (n35 _) (mOne (n43 _) mNil)) | exact tabOk mNil
  · unfold t25; split <;> exact ⟨rfl, rfl⟩
  · unfold sCnR at h; split at h <;> cases h
    exact ⟨rfl, fun t a e => by cases e <;> exact List.cons_ne_nil _ _⟩
  · unfold sCnR at h; split at h <;> cases h
    exact v25 _ _ (hp _ (.head _)) (hp _ (.tail _ (.head _)))
theorem n25 (nm : List (Option AV)) : CallOk Try.prog [] 25 (genF EL nm [.r] sCnR) := genNm c25
end Go.Proofs.Ytiokmglajigngaa
