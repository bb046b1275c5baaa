/-
  A part of the proof (Ev9).
-/
import Derived.Test.YtbhopcgbdofcjaaDoorEv8
namespace Go.Proofs.YtbhopcgbdofcjaaDoor
open Go Go.Proofs.YtbhopcgbdofcjaaDoor.Sx
set_option maxRecDepth 100000
set_option linter.unusedSimpArgs false
set_option linter.unusedVariables false

def cL2 : Calling := cE ++ [(8, fAw), (24, fSa), (26, fE1 (fun _ => True) fun e => .b (readE e)), (27, fE1 (fun _ => True) fun e => .b (readE e)), (22, fE1 (fun _ => True) fun e => .b (writeE e)), (28, fE1 (fun _ => True) fun e => .b (writeE e)), (21, fA (fun _ => True) accV), (25, fA (fun _ => True) accV)]
theorem fo8' : fnOk Tryd.prog 8 := ⟨Tryd.f8, Tryd.func8, by kernel_rfl, by kernel_rfl⟩
theorem c8 : CallOk Tryd.prog GL 8 fAw := by
  refine callOk_gen Tryd.func8 fo8 fun m vs ar h hp => ?_
  unfold fAw at h
  split at h
  · simp only [Option.some.injEq] at h
    subst h
    have h0 : nth m 0 = some tbl := hp _ (by simp)
    refine ⟨_, tabOkG (loops := []) mcE, id, [tbl], [], fun ρ xs h => h, rfl, rfl, fun i k0 h => ?_, fun g i h => ?_, .inl ⟨rfl, by simp only [SV.ltB], v8 ()⟩⟩
    · cases i with
      | zero => simp at h; subst h; exact ⟨tbl, by rw [← nth_eq]; exact h0, rfl⟩
      | succ i => simp at h
    · cases g with
      | zero => cases h; exact ⟨by simp, rfl⟩
      | succ g => cases h
  · cases h
theorem c24 {G : List (Nat × Nat)} : CallOk Tryd.prog G 24 fSa := by
  refine callOk_gen Tryd.func24 fo24 fun m vs ar h hp => ?_
  unfold fSa at h
  split at h
  · rename_i r n q k
    split at h
    · rename_i x y hx hy
      split at h
      · rename_i n' g1 g2 g3 g4 k' h1 h2 h3 h4 hs1 hs2
        simp only [Option.some.injEq] at h
        subst h
        have e1 : n = n' := hp _ (by simp)
        have e2 : k = k' := hp _ (by simp)
        have e3 : n ≤ 9223372036854775807 := hp _ (by simp)
        subst e1 e2
        refine ⟨_, tA (loops := [(0, .of (lSame n (eqAt g1 g2 g3 g4 h1 h2 h3 h4)))]), fun i => bif Nat.beq i 0 then r else q, [.arr n [.int .i64 g1, .int .i64 g2, .int .i64 g3, .bool g4], .arr k [.int .i64 h1, .int .i64 h2, .int .i64 h3, .bool h4]], [.sl 0 n, .sl 1 k], fun ρ xs h => h, rfl, rfl, fun i k0 hi => ?_, fun g i hi => absurd hi (by simp [tabA, assoc]), .inl ⟨rfl, ltB_b _ _, v24 n k g1 g2 g3 g4 h1 h2 h3 h4 e3⟩⟩
        cases i with
        | zero => simp at hi; subst hi; exact ⟨x, by rw [← nth_eq]; exact hx, hs1⟩
        | succ i =>
          cases i with
          | zero => simp at hi; subst hi; exact ⟨y, by rw [← nth_eq]; exact hy, hs2⟩
          | succ i => simp at hi
      · cases h
    · cases h
  · cases h
theorem mcL : ∀ p ∈ cL2, CallOk Tryd.prog GL p.1 p.2 := mApp mcE fun p hp => by
  simp only [List.mem_cons, List.not_mem_nil, or_false] at hp
  rcases hp with rfl | rfl | rfl | rfl | rfl | rfl | rfl | rfl
  · exact c8
  · exact c24
  · exact c26
  · exact c27
  · exact c22
  · exact c28
  · exact c21
  · exact c25
theorem acc_lenV (e : Ev) : (accV e).length ≤ 9223372036854775807 := Nat.le_trans (accV_len e) (by omega)
theorem allN_self {n : Nat} {g1 g2 g3 : Nat → Int} {g4 : Nat → Bool} : allN n (eqAt g1 g2 g3 g4 g1 g2 g3 g4) = true := allN_iff.2 fun i _ => by simp [eqAt]
theorem v3_eq (n : Int) : (fnVc (tabG cL2 []) Tryd.f3 [.i .i64 n] [tbl] (plainIs .tt)) = (some tbl = some tbl ∧ (threadI n == threadI n && flusherI n == flusherI n && decide (n < 0) == decide (n < 0)) = true) := by kernel_rfl
theorem v3 (n : Int)  : fnVc (tabG cL2 []) Tryd.f3 [.i .i64 n] [tbl] (plainIs .tt) := by
  rw [v3_eq]
  simp
theorem v4_eq (e d : Ev) : (fnVc (tabG cL2 []) Tryd.f4 [evSV e, evSV d] [tbl] (plainIs .tt)) = (some tbl = some tbl ∧ some tbl = some tbl ∧ True ∧ some tbl = some tbl ∧ True ∧ (depE e d == depE e d) = true) := by kernel_rfl
theorem v4 (e d : Ev)  : fnVc (tabG cL2 []) Tryd.f4 [evSV e, evSV d] [tbl] (plainIs .tt) := by
  rw [v4_eq]
  simp
theorem v7_eq (e : Ev) : (fnVc (tabG cL2 []) Tryd.f7 [evSV e] [tbl] (plainIs .tt)) = (some tbl = some tbl ∧
  some tbl = some tbl ∧
    True ∧
      some tbl = some tbl ∧
        True ∧
          ((validE e == validE e) = true → some tbl = some tbl) ∧
            ((validE e == validE e) = true → True) ∧
              ((validE e == validE e) = true → some tbl = some tbl) ∧
                ((validE e == validE e) = true → True) ∧
                  ((validE e == validE e) = true → (accV e).length = (accV e).length) ∧
                    ((validE e == validE e) = true → (accV e).length = (accV e).length) ∧
                      ((validE e == validE e) = true → (accV e).length ≤ 9223372036854775807) ∧
                        ((validE e == validE e &&
                                (decide ((accV e).length = (accV e).length) &&
                                  allN (accV e).length
                                    (eqAt (cK (accV e)) (cI (accV e)) (cS (accV e)) (cW (accV e)) (cK (accV e))
                                      (cI (accV e)) (cS (accV e)) (cW (accV e))))) =
                              true →
                            some tbl = some tbl) ∧
                          ((validE e == validE e &&
                                  (decide ((accV e).length = (accV e).length) &&
                                    allN (accV e).length
                                      (eqAt (cK (accV e)) (cI (accV e)) (cS (accV e)) (cW (accV e)) (cK (accV e))
                                        (cI (accV e)) (cS (accV e)) (cW (accV e))))) =
                                true →
                              True) ∧
                            ((validE e == validE e &&
                                    (decide ((accV e).length = (accV e).length) &&
                                      allN (accV e).length
                                        (eqAt (cK (accV e)) (cI (accV e)) (cS (accV e)) (cW (accV e)) (cK (accV e))
                                          (cI (accV e)) (cS (accV e)) (cW (accV e))))) =
                                  true →
                                some tbl = some tbl) ∧
                              ((validE e == validE e &&
                                      (decide ((accV e).length = (accV e).length) &&
                                        allN (accV e).length
                                          (eqAt (cK (accV e)) (cI (accV e)) (cS (accV e)) (cW (accV e)) (cK (accV e))
                                            (cI (accV e)) (cS (accV e)) (cW (accV e))))) =
                                    true →
                                  True) ∧
                                ((validE e == validE e &&
                                          (decide ((accV e).length = (accV e).length) &&
                                            allN (accV e).length
                                              (eqAt (cK (accV e)) (cI (accV e)) (cS (accV e)) (cW (accV e))
                                                (cK (accV e)) (cI (accV e)) (cS (accV e)) (cW (accV e)))) &&
                                        readE e == readE e) =
                                      true →
                                    some tbl = some tbl) ∧
                                  ((validE e == validE e &&
                                            (decide ((accV e).length = (accV e).length) &&
                                              allN (accV e).length
                                                (eqAt (cK (accV e)) (cI (accV e)) (cS (accV e)) (cW (accV e))
                                                  (cK (accV e)) (cI (accV e)) (cS (accV e)) (cW (accV e)))) &&
                                          readE e == readE e) =
                                        true →
                                      True) ∧
                                    ((validE e == validE e &&
                                              (decide ((accV e).length = (accV e).length) &&
                                                allN (accV e).length
                                                  (eqAt (cK (accV e)) (cI (accV e)) (cS (accV e)) (cW (accV e))
                                                    (cK (accV e)) (cI (accV e)) (cS (accV e)) (cW (accV e)))) &&
                                            readE e == readE e) =
                                          true →
                                        some tbl = some tbl) ∧
                                      ((validE e == validE e &&
                                                (decide ((accV e).length = (accV e).length) &&
                                                  allN (accV e).length
                                                    (eqAt (cK (accV e)) (cI (accV e)) (cS (accV e)) (cW (accV e))
                                                      (cK (accV e)) (cI (accV e)) (cS (accV e)) (cW (accV e)))) &&
                                              readE e == readE e) =
                                            true →
                                          True) ∧
                                        (validE e == validE e &&
                                                (decide ((accV e).length = (accV e).length) &&
                                                  allN (accV e).length
                                                    (eqAt (cK (accV e)) (cI (accV e)) (cS (accV e)) (cW (accV e))
                                                      (cK (accV e)) (cI (accV e)) (cS (accV e)) (cW (accV e)))) &&
                                              readE e == readE e &&
                                            writeE e == writeE e) =
                                          true) := by kernel_rfl
theorem v7 (e : Ev)  : fnVc (tabG cL2 []) Tryd.f7 [evSV e] [tbl] (plainIs .tt) := by
  rw [v7_eq]
  have h1 := acc_lenV e
  simp [allN_self, h1]
end Go.Proofs.YtbhopcgbdofcjaaDoor
