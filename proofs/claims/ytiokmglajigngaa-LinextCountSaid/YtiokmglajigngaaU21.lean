/-
  A part of the proof (U21).
-/
import Derived.Test.YtiokmglajigngaaU20
namespace Go.Proofs.Ytiokmglajigngaa
open Go Go.Proofs.Ytiokmglajigngaa.Sx
set_option maxRecDepth 100000
set_option linter.unusedSimpArgs false
set_option linter.unusedVariables false

/-! ### The chapter's examples -/
def exL : List Pq := [(2, 0)]
theorem ex_l : mkN (fun (j : Nat) => (pickI [(2 : Int)] j, pickI [(0 : Int)] j)) 1 = exL := rfl
theorem ex_ok : okP 3 exL = true := by decide +kernel
theorem ex_err : errP 3 exL = 0 := by decide +kernel
theorem ex_bef : befP 3 exL = [4, 0, 0] := by decide +kernel
theorem ex_ext : extP 3 exL [] = [[1, 2, 0], [2, 0, 1], [2, 1, 0]] := by decide +kernel
theorem ex_dsI : dsI [4, 0, 0] 3 6 = [0, 2, 4, 6, 5, 7] := by decide +kernel
theorem ex_dsE : dsE [4, 0, 0] = [0, 2, 4, 6, 5, 7] := by
  have h : (dsI [4, 0, 0] 3 6).length ≤ 6 := by rw [ex_dsI]; decide
  have := dsI_stab h (j := 65537) (by omega)
  rw [ex_dsI] at this
  exact this
theorem ex_okD : okD [4, 0, 0] = true := by rw [okD, ex_dsE]; rfl
theorem ex_cmp : cmp [4, 0, 0] 0 = 3 := by decide +kernel
theorem ex_okC : okC [4, 0, 0] = true := by rw [okC, ex_okD, ex_cmp]; rfl
theorem ex_isX : isX 3 exL [2, 0, 1] = true := by decide +kernel
theorem ex_rk : rkT [4, 0, 0] [2, 0, 1] 3 = 1 := by decide +kernel
theorem ex_fst : fstL 3 exL = [1, 2, 0] := by decide +kernel
theorem ex_rkV : rkV 3 exL [2, 0, 1] = 1 ∧ rkE 3 exL [2, 0, 1] = 0 := by
  rw [rkV, rkE, ex_ok, ex_isX, ex_bef, ex_okC, errC_ok ex_okC]
  exact ⟨ex_rk, rfl⟩
theorem ex_dwn : dwnV 3 exL = 6 ∧ dwnE 3 exL = 0 := by
  obtain ⟨e1, e2, _⟩ := dsO_ok ex_okD
  rw [dwnV, dwnE, ex_ok, ex_bef, e1, e2, ex_dsE]
  exact ⟨rfl, rfl⟩
theorem ex_all3 : alL 3 exL 3 = [[1, 2, 0], [2, 0, 1], [2, 1, 0]] ∧ alE 3 exL 3 = 0 := by
  rw [alL, alE, alB, ex_ok, ex_ext]
  exact ⟨rfl, rfl⟩
theorem ex_all2 : alE 3 exL 2 = 4 := by
  rw [alE, alB, ex_ok, ex_ext]
  rfl
theorem ex_len : ∀ j, (nthD [] [[1, 2, 0], [2, 0, 1], [(2 : Int), 1, 0]] j).length ≤ 1099511627776 := fun j => by
  match j with
  | 0 => exact (by decide)
  | 1 => exact (by decide)
  | 2 => exact (by decide)
  | _ + 3 => exact Nat.zero_le _
def sAwk : Sp := fun | [] => some ([], .pl .tt) | _ => none
def kAwk (nm : List (Option AV)) : Nat × (List MBlk → List SV → Option AR) := (13, genF EL nm [] sAwk)
theorem v13_eq  : (fnVc (tabT [kFst [], kAll [], kDws [], kRnk [], kInt [], kLsts []] [] [] [] [] [42, 45, 49, 53, 57, 61, 65, 70, 78]) Try.f13 [] [] (plainIs .tt)) = ((1 : Nat) = (1 : Nat) ∧
 (mkN (fun (j : Nat) => (pickI [(2 : Int)] j, pickI [(0 : Int)] j)) (1 : Nat)).length ≤ (1099511627776 : Nat) ∧
 (1 : Nat) = (1 : Nat) ∧
 (mkN (fun (j : Nat) => (pickI [(2 : Int)] j, pickI [(0 : Int)] j)) (1 : Nat)).length ≤ (1099511627776 : Nat) ∧
 (1 : Nat) = (1 : Nat) ∧
 (mkN (fun (j : Nat) => (pickI [(2 : Int)] j, pickI [(0 : Int)] j)) (1 : Nat)).length ≤ (1099511627776 : Nat) ∧
 (1 : Nat) = (1 : Nat) ∧
 (3 : Nat) = (3 : Nat) ∧
 (mkN (fun (j : Nat) => (pickI [(2 : Int)] j, pickI [(0 : Int)] j)) (1 : Nat)).length ≤
 (1099511627776 : Nat) ∧
 (mkN (pickI [(2 : Int), (0 : Int), (1 : Int)]) (3 : Nat)).length ≤ (1099511627776 : Nat) ∧
 (1 : Nat) = (1 : Nat) ∧
 (mkN (fun (j : Nat) => (pickI [(2 : Int)] j, pickI [(0 : Int)] j)) (1 : Nat)).length ≤
 (1099511627776 : Nat) ∧
 (errP (3 : Int) (mkN (fun (j : Nat) => (pickI [(2 : Int)] j, pickI [(0 : Int)] j)) (1 : Nat)) ==
 (0 : Int)) =
 true ∧
 (alE (3 : Int) (mkN (fun (j : Nat) => (pickI [(2 : Int)] j, pickI [(0 : Int)] j)) (1 : Nat))
 (3 : Int) ==
 (0 : Int)) =
 true ∧
 (dwnE (3 : Int)
 (mkN (fun (j : Nat) => (pickI [(2 : Int)] j, pickI [(0 : Int)] j)) (1 : Nat)) ==
 (0 : Int)) =
 true ∧
 (rkE (3 : Int)
 (mkN (fun (j : Nat) => (pickI [(2 : Int)] j, pickI [(0 : Int)] j)) (1 : Nat))
 (mkN (pickI [(2 : Int), (0 : Int), (1 : Int)]) (3 : Nat)) ==
 (0 : Int)) =
 true ∧
 (alE (3 : Int)
 (mkN (fun (j : Nat) => (pickI [(2 : Int)] j, pickI [(0 : Int)] j)) (1 : Nat))
 (2 : Int) ==
 (4 : Int)) =
 true ∧
 ((↑(dwnV (3 : Int)
 (mkN (fun (j : Nat) => (pickI [(2 : Int)] j, pickI [(0 : Int)] j))
 (1 : Nat))) :
 Int) ==
 (6 : Int)) =
 true ∧
 ((↑(rkV (3 : Int)
 (mkN (fun (j : Nat) => (pickI [(2 : Int)] j, pickI [(0 : Int)] j))
 (1 : Nat))
 (mkN (pickI [(2 : Int), (0 : Int), (1 : Int)]) (3 : Nat))) :
 Int) ==
 (1 : Int)) =
 true ∧
 decide
 (mkN
 (nthD (0 : Int)
 (fstL (3 : Int)
 (mkN (fun (j : Nat) => (pickI [(2 : Int)] j, pickI [(0 : Int)] j))
 (1 : Nat))))
 (AV.is
 (fstL (3 : Int)
 (mkN (fun (j : Nat) => (pickI [(2 : Int)] j, pickI [(0 : Int)] j))
 (1 : Nat)))).len =
 mkN (pickI [(1 : Int), (2 : Int), (0 : Int)]) (3 : Nat)) =
 true ∧
 (AV.is
 (fstL (3 : Int)
 (mkN (fun (j : Nat) => (pickI [(2 : Int)] j, pickI [(0 : Int)] j))
 (1 : Nat)))).len =
 (AV.is
 (fstL (3 : Int)
 (mkN (fun (j : Nat) => (pickI [(2 : Int)] j, pickI [(0 : Int)] j))
 (1 : Nat)))).len ∧
 (3 : Nat) = (3 : Nat) ∧
 (mkN
 (nthD (0 : Int)
 (fstL (3 : Int)
 (mkN
 (fun (j : Nat) => (pickI [(2 : Int)] j, pickI [(0 : Int)] j))
 (1 : Nat))))
 (AV.is
 (fstL (3 : Int)
 (mkN
 (fun (j : Nat) =>
 (pickI [(2 : Int)] j, pickI [(0 : Int)] j))
 (1 : Nat)))).len).length ≤
 (1099511627776 : Nat) ∧
 (mkN (pickI [(1 : Int), (2 : Int), (0 : Int)]) (3 : Nat)).length ≤
 (1099511627776 : Nat) ∧
 (3 : Nat) = (3 : Nat) ∧
 (3 : Nat) = (3 : Nat) ∧
 (3 : Nat) = (3 : Nat) ∧
 decide
 (mkN
 (fun (j : Nat) =>
 mkN
 (fun (i : Nat) =>
 nthD (0 : Int)
 (nthD []
 (alL (3 : Int)
 (mkN
 (fun (j : Nat) =>
 (pickI [(2 : Int)] j,
 pickI [(0 : Int)] j))
 (1 : Nat))
 (3 : Int))
 j)
 i)
 (nthD []
 (alL (3 : Int)
 (mkN
 (fun (j : Nat) =>
 (pickI [(2 : Int)] j,
 pickI [(0 : Int)] j))
 (1 : Nat))
 (3 : Int))
 j).length)
 (AV.rs
 (alL (3 : Int)
 (mkN
 (fun (j : Nat) =>
 (pickI [(2 : Int)] j, pickI [(0 : Int)] j))
 (1 : Nat))
 (3 : Int))).len =
 mkN
 (fun (j : Nat) =>
 mkN
 (three (pickI [(1 : Int), (2 : Int), (0 : Int)])
 (pickI [(2 : Int), (0 : Int), (1 : Int)])
 (pickI [(2 : Int), (1 : Int), (0 : Int)]) j)
 (three (3 : Nat) (3 : Nat) (3 : Nat) j))
 (3 : Nat)) =
 true ∧
 (AV.rs
 (alL (3 : Int)
 (mkN
 (fun (j : Nat) =>
 (pickI [(2 : Int)] j, pickI [(0 : Int)] j))
 (1 : Nat))
 (3 : Int))).len =
 (AV.rs
 (alL (3 : Int)
 (mkN
 (fun (j : Nat) =>
 (pickI [(2 : Int)] j, pickI [(0 : Int)] j))
 (1 : Nat))
 (3 : Int))).len ∧
 (3 : Nat) = (3 : Nat) ∧
 (mkN
 (fun (j : Nat) =>
 mkN
 (fun (i : Nat) =>
 nthD (0 : Int)
 (nthD []
 (alL (3 : Int)
 (mkN
 (fun (j : Nat) =>
 (pickI [(2 : Int)] j,
 pickI [(0 : Int)] j))
 (1 : Nat))
 (3 : Int))
 j)
 i)
 (nthD []
 (alL (3 : Int)
 (mkN
 (fun (j : Nat) =>
 (pickI [(2 : Int)] j,
 pickI [(0 : Int)] j))
 (1 : Nat))
 (3 : Int))
 j).length)
 (AV.rs
 (alL (3 : Int)
 (mkN
 (fun (j : Nat) =>
 (pickI [(2 : Int)] j,
 pickI [(0 : Int)] j))
 (1 : Nat))
 (3 : Int))).len).length ≤
 (1099511627776 : Nat) ∧
 (mkN
 (fun (j : Nat) =>
 mkN
 (three
 (pickI [(1 : Int), (2 : Int), (0 : Int)])
 (pickI [(2 : Int), (0 : Int), (1 : Int)])
 (pickI [(2 : Int), (1 : Int), (0 : Int)]) j)
 (three (3 : Nat) (3 : Nat) (3 : Nat) j))
 (3 : Nat)).length ≤
 (1099511627776 : Nat) ∧
 (∀ (j : Nat),
 (nthD []
 (mkN
 (fun (j : Nat) =>
 mkN
 (fun (i : Nat) =>
 nthD (0 : Int)
 (nthD []
 (alL (3 : Int)
 (mkN
 (fun (j : Nat) =>
 (pickI [(2 : Int)] j,
 pickI [(0 : Int)] j))
 (1 : Nat))
 (3 : Int))
 j)
 i)
 (nthD []
 (alL (3 : Int)
 (mkN
 (fun (j : Nat) =>
 (pickI [(2 : Int)] j,
 pickI [(0 : Int)] j))
 (1 : Nat))
 (3 : Int))
 j).length)
 (AV.rs
 (alL (3 : Int)
 (mkN
 (fun (j : Nat) =>
 (pickI [(2 : Int)] j,
 pickI [(0 : Int)] j))
 (1 : Nat))
 (3 : Int))).len)
 j).length ≤
 (1099511627776 : Nat)) ∧
 (∀ (j : Nat),
 (nthD []
 (mkN
 (fun (j : Nat) =>
 mkN
 (three
 (pickI
 [(1 : Int), (2 : Int), (0 : Int)])
 (pickI
 [(2 : Int), (0 : Int), (1 : Int)])
 (pickI
 [(2 : Int), (1 : Int), (0 : Int)])
 j)
 (three (3 : Nat) (3 : Nat) (3 : Nat)
 j))
 (3 : Nat))
 j).length ≤
 (1099511627776 : Nat)) ∧
 true = true) := by kernel_rfl
theorem v13   : fnVc (tabT [kFst [], kAll [], kDws [], kRnk [], kInt [], kLsts []] [] [] [] [] [42, 45, 49, 53, 57, 61, 65, 70, 78]) Try.f13 [] [] (plainIs .tt) := by
  rw [v13_eq]
  simp only [eq_self, true_and, and_true, implies_true, imp_self, mkN_ps, mkN_rs, mkN_self, mkN_len, PLoop.of, lCnt, AV.len, lAl, lLsts]
  simp only [ex_l, ex_err, ex_rkV, ex_dwn, ex_all3, ex_all2, ex_fst, show mkN (pickI [(2 : Int), (0 : Int), (1 : Int)]) 3 = [2, 0, 1] from rfl, show mkN (pickI [(1 : Int), (2 : Int), (0 : Int)]) 3 = [1, 2, 0] from rfl, show mkN (fun j => mkN (three (pickI [1, 2, 0]) (pickI [2, 0, 1]) (pickI [2, 1, 0]) j) (three 3 3 3 j)) 3 = [[1, 2, 0], [2, 0, 1], [2, 1, 0]] from rfl]
  exact ⟨by decide, by decide, by decide, by decide, by decide, by decide, rfl, rfl, rfl, rfl, rfl, rfl, rfl, by simp, by decide, by decide, by simp, by decide, by decide, ex_len, ex_len⟩

theorem fo13 : fnOk Try.prog 13 := ⟨Try.f13, Try.func13, by kernel_rfl, by kernel_rfl⟩

theorem c13 : CallOk Try.prog [] 13 (genF EL [] [] sAwk) := by
  refine okT (fn := Try.f13) Try.func13 fo13 (fun _ => tabT [kFst [], kAll [], kDws [], kRnk [], kInt [], kLsts []] [] [] [] [] [42, 45, 49, 53, 57, 61, 65, 70, 78]) (fun av => ?_) (fun av => ⟨rfl, rfl⟩) (fun av pre rv h => ?_) (fun av pre rv h hp => ?_)
  · exact tabTOk (mOne (n14 _) (mOne (n19 _) (mOne (n22 _) (mOne (n29 _) (mOne (n18 _) (mOne (n21 _) mNil)))))) (fun p hp => by cases hp)
  · unfold sAwk at h; split at h <;> cases h
    exact ⟨rfl, fun t a e => by cases e⟩
  · unfold sAwk at h; split at h <;> cases h
    exact v13
theorem n13 (nm : List (Option AV)) : CallOk Try.prog [] 13 (genF EL nm [] sAwk) := genNm c13
end Go.Proofs.Ytiokmglajigngaa
