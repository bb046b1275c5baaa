/-
  A part of the proof (Rw28).
-/
import Derived.Test.YtcbmbnlgilampaaRwOpen
namespace Go.Proofs.Ytcbmbnlgilampaa
open Go Go.Proofs.Ytcbmbnlgilampaa.Sx
set_option maxRecDepth 100000
set_option linter.unusedSimpArgs false
set_option linter.unusedVariables false

theorem ex1 : okR 4 exR = true := by kernel_rfl
theorem ex2 : redL 4 exR = exD := by kernel_rfl
theorem ex3 : errR 4 exR = 0 := by kernel_rfl
theorem ex4 : cycL 4 exC = [1, 2] := by kernel_rfl
theorem ex5 : fndF 4 exC = true := by kernel_rfl
theorem ex6 : normL 4 (wF (setF exR) (Int.toNat 4)) = exL := by kernel_rfl
theorem ex7 : validF 4 exR = true := by kernel_rfl
theorem ex8 : validF 65 [] = false := by kernel_rfl
theorem exm1 : mkN (fun (j : Nat) => (pickI [0, 1, 0] j, pickI [1, 2, 2] j)) 3 = exR := by kernel_rfl
theorem exm2 : mkN (fun (j : Nat) => (pickI [2, 1, 0] j, pickI [1, 2, 1] j)) 3 = exC := by kernel_rfl
theorem exm3 : mkN (fun (j : Nat) => (pickI [0, 1] j, pickI [1, 2] j)) 2 = exD := by kernel_rfl
theorem exm4 : mkN (fun (j : Nat) => (pickI [0, 0, 1] j, pickI [1, 2, 2] j)) 3 = exL := by kernel_rfl
theorem exm5 : mkN (pickI [1, 2]) 2 = [1, 2] := by kernel_rfl
theorem exl1 : exR.length = 3 := by kernel_rfl
theorem exl2 : exC.length = 3 := by kernel_rfl
theorem exl3 : exD.length = 2 := by kernel_rfl
theorem exl4 : exL.length = 3 := by kernel_rfl
theorem v10_eq  : (fnVc (tab [kRed [some (.ps exR), none, some (.ps exD)], kCyc [some (.ps exR), none, some (.ps exD), none, some (.ps exC), some (.is [1, 2])], kSam [some (.ps exR), none, some (.ps exD), none, none, none, some (.ps exD), none, some (.ps exL), some (.ps exL)], kInt [none, none, none, none, none, some (.is [1, 2]), none, some (.is [1, 2])], kClo [some (.ps exR), none, none, none, none, none, none, none, some (.ps exL)], kVal []] []) Try.f10 [] [] (plainIs (.b true))) = ((3 : Nat) = (3 : Nat) ∧
 mkN (fun (j : Nat) => (pickI [(0 : Int), (1 : Int), (0 : Int)] j, pickI [(1 : Int), (2 : Int), (2 : Int)] j))
 (3 : Nat) =
 exR ∧
 exR.length ≤ (1099511627776 : Nat) ∧
 (bif okR (4 : Int) exR then redL (4 : Int) exR else []) = exD ∧
 (3 : Nat) = (3 : Nat) ∧
 mkN (fun (j : Nat) => (pickI [(2 : Int), (1 : Int), (0 : Int)] j, pickI [(1 : Int), (2 : Int), (1 : Int)] j))
 (3 : Nat) =
 exC ∧
 exC.length ≤ (1099511627776 : Nat) ∧
 cycL (4 : Int) exC = [(1 : Int), (2 : Int)] ∧
 ((errR (4 : Int) exR != (0 : Int)) = false → (AV.ps exD).len = (AV.ps exD).len) ∧
 ((errR (4 : Int) exR != (0 : Int)) = false → (2 : Nat) = (2 : Nat)) ∧
 ((errR (4 : Int) exR != (0 : Int)) = false →
 mkN
 (fun (j : Nat) =>
 ((nthD ((0 : Int), (0 : Int)) exD j).fst, (nthD ((0 : Int), (0 : Int)) exD j).snd))
 (AV.ps exD).len =
 exD) ∧
 ((errR (4 : Int) exR != (0 : Int)) = false →
 mkN (fun (j : Nat) => (pickI [(0 : Int), (1 : Int)] j, pickI [(1 : Int), (2 : Int)] j))
 (2 : Nat) =
 exD) ∧
 ((errR (4 : Int) exR != (0 : Int)) = false → exD.length ≤ (1099511627776 : Nat)) ∧
 ((errR (4 : Int) exR != (0 : Int)) = false → exD.length ≤ (1099511627776 : Nat)) ∧
 ((errR (4 : Int) exR != (0 : Int) ||
 !sameF (bif okR (4 : Int) exR then (4 : Int) else (0 : Int)) exD (4 : Int) exD ||
 !fndF (4 : Int) exC) =
 false →
 (AV.is [(1 : Int), (2 : Int)]).len = (AV.is [(1 : Int), (2 : Int)]).len) ∧
 ((errR (4 : Int) exR != (0 : Int) ||
 !sameF (bif okR (4 : Int) exR then (4 : Int) else (0 : Int)) exD (4 : Int)
 exD ||
 !fndF (4 : Int) exC) =
 false →
 (2 : Nat) = (2 : Nat)) ∧
 ((errR (4 : Int) exR != (0 : Int) ||
 !sameF (bif okR (4 : Int) exR then (4 : Int) else (0 : Int)) exD (4 : Int)
 exD ||
 !fndF (4 : Int) exC) =
 false →
 mkN (nthD (0 : Int) [(1 : Int), (2 : Int)]) (AV.is [(1 : Int), (2 : Int)]).len =
 [(1 : Int), (2 : Int)]) ∧
 ((errR (4 : Int) exR != (0 : Int) ||
 !sameF (bif okR (4 : Int) exR then (4 : Int) else (0 : Int)) exD (4 : Int)
 exD ||
 !fndF (4 : Int) exC) =
 false →
 mkN (pickI [(1 : Int), (2 : Int)]) (2 : Nat) = [(1 : Int), (2 : Int)]) ∧
 ((errR (4 : Int) exR != (0 : Int) ||
 !sameF (bif okR (4 : Int) exR then (4 : Int) else (0 : Int)) exD (4 : Int)
 exD ||
 !fndF (4 : Int) exC) =
 false →
 [(1 : Int), (2 : Int)].length ≤ (1099511627776 : Nat)) ∧
 ((errR (4 : Int) exR != (0 : Int) ||
 !sameF (bif okR (4 : Int) exR then (4 : Int) else (0 : Int)) exD
 (4 : Int) exD ||
 !fndF (4 : Int) exC) =
 false →
 [(1 : Int), (2 : Int)].length ≤ (1099511627776 : Nat)) ∧
 ((errR (4 : Int) exR != (0 : Int) ||
 !sameF (bif okR (4 : Int) exR then (4 : Int) else (0 : Int)) exD
 (4 : Int) exD ||
 !fndF (4 : Int) exC ||
 !decide ([(1 : Int), (2 : Int)] = [(1 : Int), (2 : Int)])) =
 true →
 false = true) ∧
 ((errR (4 : Int) exR != (0 : Int) ||
 !sameF (bif okR (4 : Int) exR then (4 : Int) else (0 : Int)) exD
 (4 : Int) exD ||
 !fndF (4 : Int) exC ||
 !decide ([(1 : Int), (2 : Int)] = [(1 : Int), (2 : Int)])) =
 false →
 (3 : Nat) = (3 : Nat) ∧
 mkN
 (fun (j : Nat) =>
 (pickI [(0 : Int), (1 : Int), (0 : Int)] j,
 pickI [(1 : Int), (2 : Int), (2 : Int)] j))
 (3 : Nat) =
 exR ∧
 exR.length ≤ (1099511627776 : Nat) ∧
 (bif validF (4 : Int) exR then
 normL (4 : Int) (wF (setF exR) (Int.toNat (4 : Int)))
 else []) =
 exL ∧
 (AV.ps exL).len = (AV.ps exL).len ∧
 (3 : Nat) = (3 : Nat) ∧
 mkN
 (fun (j : Nat) =>
 ((nthD ((0 : Int), (0 : Int)) exL j).fst,
 (nthD ((0 : Int), (0 : Int)) exL j).snd))
 (AV.ps exL).len =
 exL ∧
 mkN
 (fun (j : Nat) =>
 (pickI [(0 : Int), (0 : Int), (1 : Int)] j,
 pickI [(1 : Int), (2 : Int), (2 : Int)] j))
 (3 : Nat) =
 exL ∧
 exL.length ≤ (1099511627776 : Nat) ∧
 exL.length ≤ (1099511627776 : Nat) ∧
 (sameF
 (bif validF (4 : Int) exR then (4 : Int)
 else (0 : Int))
 exL (4 : Int) exL =
 true →
 ([] : List Pq).length ≤ (1099511627776 : Nat)) ∧
 (sameF
 (bif validF (4 : Int) exR then (4 : Int)
 else (0 : Int))
 exL (4 : Int) exL &&
 !validF (65 : Int) []) =
 true)) := by kernel_rfl
theorem v10   : fnVc (tab [kRed [some (.ps exR), none, some (.ps exD)], kCyc [some (.ps exR), none, some (.ps exD), none, some (.ps exC), some (.is [1, 2])], kSam [some (.ps exR), none, some (.ps exD), none, none, none, some (.ps exD), none, some (.ps exL), some (.ps exL)], kInt [none, none, none, none, none, some (.is [1, 2]), none, some (.is [1, 2])], kClo [some (.ps exR), none, none, none, none, none, none, none, some (.ps exL)], kVal []] []) Try.f10 [] [] (plainIs (.b true)) := by
  rw [v10_eq]
  simp only [eq_self, true_and, and_true, implies_true, imp_self, mkN_ps, mkN_rs, mkN_self, mkN_len, PLoop.of, lCnt, AV.len]
  simp only [ex1, ex2, ex3, ex4, ex5, ex6, ex7, ex8, exm1, exm2, exm3, exm4, exm5, exl1, exl2, exl3, exl4, cond_true, sameF]
  simp
theorem fo10 : fnOk Try.prog 10 := ⟨Try.f10, Try.func10, by kernel_rfl, by kernel_rfl⟩
def t10 : List AV → Tab
  | [] => tab [kRed [some (.ps exR), none, some (.ps exD)], kCyc [some (.ps exR), none, some (.ps exD), none, some (.ps exC), some (.is [1, 2])], kSam [some (.ps exR), none, some (.ps exD), none, none, none, some (.ps exD), none, some (.ps exL), some (.ps exL)], kInt [none, none, none, none, none, some (.is [1, 2]), none, some (.is [1, 2])], kClo [some (.ps exR), none, none, none, none, none, none, none, some (.ps exL)], kVal []] []
  | _ => tab [] []
theorem c10 : CallOk Try.prog [] 10 (genF EL [] [] sExa) := by
  refine okT (fn := Try.f10) Try.func10 fo10 t10 (fun av => ?_) (fun av => ?_) (fun av pre rv h => ?_) (fun av pre rv h hp => ?_)
  · unfold t10; split <;> first | exact tabOk (mOne (n19 _) (mOne (n11 _) (mOne (n16 _) (mOne (n13 _) (mOne (n17 _) (mOne (n21 _) mNil)))))) | exact tabOk mNil
  · unfold t10; split <;> exact ⟨rfl, rfl⟩
  · unfold sExa at h; split at h <;> cases h
    exact ⟨rfl, fun t a e => by cases e <;> exact List.cons_ne_nil _ _⟩
  · unfold sExa at h; split at h <;> cases h
    exact v10  
theorem n10 (nm : List (Option AV)) : CallOk Try.prog [] 10 (genF EL nm [] sExa) := genNm c10
end Go.Proofs.Ytcbmbnlgilampaa
