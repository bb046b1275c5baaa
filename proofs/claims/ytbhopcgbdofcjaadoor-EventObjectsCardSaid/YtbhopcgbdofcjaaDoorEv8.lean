/-
  A part of the proof (Ev8).
-/
import Derived.Test.YtbhopcgbdofcjaaDoorEv7
namespace Go.Proofs.YtbhopcgbdofcjaaDoor
open Go Go.Proofs.YtbhopcgbdofcjaaDoor.Sx
set_option maxRecDepth 100000
set_option linter.unusedSimpArgs false
set_option linter.unusedVariables false
def clrE (e : Ev) : Ev := { e with ix := 7, od := 0, wr := 0, rd := 0 }
def movE (e : Ev) (n : Int) : Ev := { e with ag := bif decide (e.ag ≥ 0) then w64 (e.ag + n) else w64 (e.ag - n), ob := bif e.k == 16 || e.k == 17 then w64 (e.ob + n) else e.ob }
def nearE (e : Ev) : Bool := decide (threadI e.ag < 1099511627776) && decide (e.ob < 1099511627776)
def fEI (g : Ev → Int → SV) : List MBlk → List SV → Option AR := fun m vs => match vs with
  | [x, .i .i64 n] => match dEv x with
    | some e => some ⟨[nth m 0 = some tbl], g e n, []⟩
    | none => none
  | _ => none
def fAw : List MBlk → List SV → Option AR := fun m vs => match vs with
  | [] => some ⟨[nth m 0 = some tbl], .tt, []⟩
  | _ => none
def fSa : List MBlk → List SV → Option AR := fun m vs => match vs with
  | [.sl r n, .sl q k] => match nth m r, nth m q with
    | some x, some y => match srcOf x, srcOf y with
      | some (n', [.int .i64 g1, .int .i64 g2, .int .i64 g3, .bool g4]), some (k', [.int .i64 h1, .int .i64 h2, .int .i64 h3, .bool h4]) => some ⟨[n = n', k = k', n ≤ 9223372036854775807], .b (decide (n = k) && allN n (eqAt g1 g2 g3 g4 h1 h2 h3 h4)), []⟩
      | _, _ => none
    | _, _ => none
  | _ => none
def cE : Calling := cD ++ [(15, fE2 (fun _ _ => True) fun e d => .b (depE e d)), (16, fE2 (fun _ _ => True) fun e d => .b (depE e d))]
def cL : Calling := cE ++ [(8, fAw), (18, fE1 (fun _ => True) fun e => evSV (clrE e)), (19, fE1 (fun _ => True) fun e => .b (nearE e)), (20, fEI fun e n => evSV (movE e n)), (24, fSa),
  (26, fE1 (fun _ => True) fun e => .b (readE e)), (27, fE1 (fun _ => True) fun e => .b (readE e)), (22, fE1 (fun _ => True) fun e => .b (writeE e)), (28, fE1 (fun _ => True) fun e => .b (writeE e)), (21, fA (fun _ => True) accV), (25, fA (fun _ => True) accV)]
theorem fo31 : fnOk Tryd.prog 31 := ⟨Tryd.f31, Tryd.func31, by kernel_rfl, by kernel_rfl⟩
theorem fo34 : fnOk Tryd.prog 34 := ⟨Tryd.f34, Tryd.func34, by kernel_rfl, by kernel_rfl⟩
theorem fo15 : fnOk Tryd.prog 15 := ⟨Tryd.f15, Tryd.func15, by kernel_rfl, by kernel_rfl⟩
theorem fo16 : fnOk Tryd.prog 16 := ⟨Tryd.f16, Tryd.func16, by kernel_rfl, by kernel_rfl⟩
theorem fo8 : fnOk Tryd.prog 8 := ⟨Tryd.f8, Tryd.func8, by kernel_rfl, by kernel_rfl⟩
theorem fo19 : fnOk Tryd.prog 19 := ⟨Tryd.f19, Tryd.func19, by kernel_rfl, by kernel_rfl⟩
theorem mcC : ∀ p ∈ cC, CallOk Tryd.prog GL p.1 p.2 := mApp mcA fun p hp => by
  simp only [List.mem_cons, List.not_mem_nil, or_false] at hp
  rcases hp with rfl | rfl | rfl
  · exact c44
  · exact c21
  · exact c25
theorem accV_valid {e : Ev} (h : validE e = true) : accV e = acc e := by simp [accV, h]
theorem dra_valid {e d : Ev} (h : validE e = true) : draR e d = draE e d := by
  simp only [validE] at h
  simp only [draR, draE]
  grind
theorem c31 : CallOk Tryd.prog GL 31 (fE2 (fun e d => validE e = true ∧ validE d = true) fun e d => .b (conf (acc e) (acc d))) := by
  refine callOk_gen Tryd.func31 fo31 fun m vs ar h hp => ?_
  unfold fE2 at h
  split at h
  · rename_i x y
    split at h
    · rename_i e d he hd
      simp only [Option.some.injEq] at h
      subst h
      obtain rfl := dEv_some he
      obtain rfl := dEv_some hd
      have h0 : nth m 0 = some tbl := hp _ (by simp)
      have h1 : validE e = true ∧ validE d = true := hp _ (by simp)
      refine ⟨_, tabOkG (loops := [(0, .of (lC0 (acc e) (acc d))), (2, lC2 (acc e) (acc d))]) mcC, id, [tbl], [evSV e, evSV d], fun ρ xs h => h, rfl, rfl, fun i k0 h => ?_, fun g i h => ?_, .inl ⟨rfl, ltB_b _ _, v31 e d h1.1 h1.2⟩⟩
      · cases i with
        | zero => simp at h; subst h; exact ⟨tbl, by rw [← nth_eq]; exact h0, rfl⟩
        | succ i => simp at h
      · cases g with
        | zero => cases h; exact ⟨by simp, rfl⟩
        | succ g => cases h
    · cases h
  · cases h
theorem c34 : CallOk Tryd.prog GL 34 (fE2 (fun e d => validE e = true ∧ validE d = true) fun e d => .b (conf (acc e) (acc d))) := by
  refine callOk_gen Tryd.func34 fo34 fun m vs ar h hp => ?_
  unfold fE2 at h
  split at h
  · rename_i x y
    split at h
    · rename_i e d he hd
      simp only [Option.some.injEq] at h
      subst h
      obtain rfl := dEv_some he
      obtain rfl := dEv_some hd
      have h0 : nth m 0 = some tbl := hp _ (by simp)
      have h1 : validE e = true ∧ validE d = true := hp _ (by simp)
      have hv := v34 e d
      rw [accV_valid h1.1, accV_valid h1.2] at hv
      refine ⟨_, tabOkG (loops := [(0, .of (lR0 (acc e) (acc d))), (2, lR2 (acc e) (acc d))]) mcC, id, [tbl], [evSV e, evSV d], fun ρ xs h => h, rfl, rfl, fun i k0 h => ?_, fun g i h => ?_, .inl ⟨rfl, ltB_b _ _, hv⟩⟩
      · cases i with
        | zero => simp at h; subst h; exact ⟨tbl, by rw [← nth_eq]; exact h0, rfl⟩
        | succ i => simp at h
      · cases g with
        | zero => cases h; exact ⟨by simp, rfl⟩
        | succ g => cases h
    · cases h
  · cases h
theorem mcD : ∀ p ∈ cD, CallOk Tryd.prog GL p.1 p.2 := mApp mcV fun p hp => by
  simp only [List.mem_cons, List.not_mem_nil, or_false] at hp
  rcases hp with rfl | rfl | rfl | rfl | rfl | rfl
  · exact c29
  · exact c32
  · exact c30
  · exact c33
  · exact c31
  · exact c34
theorem v15_eq (e d : Ev) : (fnVc (tabG cD []) Tryd.f15 [evSV e, evSV d] [tbl] (plainIs (.b (depE e d)))) = (some tbl = some tbl ∧
  True ∧
    ((!validE e) = false → some tbl = some tbl) ∧
      ((!validE e) = false → True) ∧
        ((!validE e || !validE d) = true → false = depE e d) ∧
          ((!validE e || !validE d) = false →
            ((e.ag == d.ag) = false → some tbl = some tbl) ∧
              ((e.ag == d.ag) = false → True) ∧
                ((e.ag == d.ag || creE e d) = false → some tbl = some tbl) ∧
                  ((e.ag == d.ag || creE e d) = false → True) ∧
                    ((e.ag == d.ag || creE e d || creE d e) = false → some tbl = some tbl) ∧
                      ((e.ag == d.ag || creE e d || creE d e) = false → True) ∧
                        ((e.ag == d.ag || creE e d || creE d e || draE e d) = false → some tbl = some tbl) ∧
                          ((e.ag == d.ag || creE e d || creE d e || draE e d) = false → True) ∧
                            ((e.ag == d.ag || creE e d || creE d e || draE e d || draE d e) = false →
                                some tbl = some tbl) ∧
                              ((e.ag == d.ag || creE e d || creE d e || draE e d || draE d e) = false →
                                  validE e = true ∧ validE d = true) ∧
                                (e.ag == d.ag || creE e d || creE d e || draE e d || draE d e || conf (acc e) (acc d)) =
                                  depE e d)) := by kernel_rfl
theorem v15 (e d : Ev)  : fnVc (tabG cD []) Tryd.f15 [evSV e, evSV d] [tbl] (plainIs (.b (depE e d))) := by
  rw [v15_eq]
  refine ⟨rfl, trivial, fun _ => rfl, fun _ => trivial, fun h => ?_, fun h => ⟨fun _ => rfl, fun _ => trivial, fun _ => rfl, fun _ => trivial, fun _ => rfl, fun _ => trivial, fun _ => rfl, fun _ => trivial, fun _ => rfl, fun _ => ?_, ?_⟩⟩
  · simp only [depE]
    cases h1 : validE e <;> cases h2 : validE d <;> simp_all
  · cases h1 : validE e <;> cases h2 : validE d <;> simp_all
  · have hv : validE e = true ∧ validE d = true := by cases h1 : validE e <;> cases h2 : validE d <;> simp_all
    simp [depE, hv.1, hv.2]
theorem v16_eq (e d : Ev) : (fnVc (tabG cD []) Tryd.f16 [evSV e, evSV d] [tbl] (plainIs (.b (depE e d)))) = (some tbl = some tbl ∧
  True ∧
    ((!validE e) = false → some tbl = some tbl) ∧
      ((!validE e) = false → True) ∧
        ((!validE e || !validE d) = true → false = depE e d) ∧
          ((!validE e || !validE d) = false →
            ((e.ag == d.ag) = false → some tbl = some tbl) ∧
              ((e.ag == d.ag) = false → True) ∧
                ((e.ag == d.ag || creE e d) = false → some tbl = some tbl) ∧
                  ((e.ag == d.ag || creE e d) = false → True) ∧
                    ((e.ag == d.ag || creE e d || creE d e) = false → some tbl = some tbl) ∧
                      ((e.ag == d.ag || creE e d || creE d e) = false → True) ∧
                        ((e.ag == d.ag || creE e d || creE d e || draR e d) = false → some tbl = some tbl) ∧
                          ((e.ag == d.ag || creE e d || creE d e || draR e d) = false → True) ∧
                            ((e.ag == d.ag || creE e d || creE d e || draR e d || draR d e) = false →
                                some tbl = some tbl) ∧
                              ((e.ag == d.ag || creE e d || creE d e || draR e d || draR d e) = false →
                                  validE e = true ∧ validE d = true) ∧
                                (e.ag == d.ag || creE e d || creE d e || draR e d || draR d e || conf (acc e) (acc d)) =
                                  depE e d)) := by kernel_rfl
theorem v16 (e d : Ev)  : fnVc (tabG cD []) Tryd.f16 [evSV e, evSV d] [tbl] (plainIs (.b (depE e d))) := by
  rw [v16_eq]
  refine ⟨rfl, trivial, fun _ => rfl, fun _ => trivial, fun h => ?_, fun h => ⟨fun _ => rfl, fun _ => trivial, fun _ => rfl, fun _ => trivial, fun _ => rfl, fun _ => trivial, fun _ => rfl, fun _ => trivial, fun _ => rfl, fun _ => ?_, ?_⟩⟩
  · simp only [depE]
    cases h1 : validE e <;> cases h2 : validE d <;> simp_all
  · cases h1 : validE e <;> cases h2 : validE d <;> simp_all
  · have hv : validE e = true ∧ validE d = true := by cases h1 : validE e <;> cases h2 : validE d <;> simp_all
    simp [depE, hv.1, hv.2, dra_valid hv.1, dra_valid hv.2]
theorem c15 : CallOk Tryd.prog GL 15 (fE2 (fun _ _ => True) fun e d => .b (depE e d)) := okE2 (tabOkG mcD) Tryd.func15 fo15 (fun _ _ => ltB_b _ _) (fun e d _ => v15 e d)
theorem c16 : CallOk Tryd.prog GL 16 (fE2 (fun _ _ => True) fun e d => .b (depE e d)) := okE2 (tabOkG mcD) Tryd.func16 fo16 (fun _ _ => ltB_b _ _) (fun e d _ => v16 e d)
theorem mcE : ∀ p ∈ cE, CallOk Tryd.prog GL p.1 p.2 := mApp mcD fun p hp => by
  simp only [List.mem_cons, List.not_mem_nil, or_false] at hp
  rcases hp with rfl | rfl
  · exact c15
  · exact c16
theorem v19_eq (e : Ev) : (fnVc (tabG cE []) Tryd.f19 [evSV e] [tbl] (plainIs (.b (nearE e)))) = ((decide (threadI e.ag < 1099511627776) && decide (e.ob < 1099511627776)) = nearE e) := by kernel_rfl
theorem v19 (e : Ev)  : fnVc (tabG cE []) Tryd.f19 [evSV e] [tbl] (plainIs (.b (nearE e))) := by
  rw [v19_eq]
  rfl
theorem v8_eq (_u : Unit) : (fnVc (tabG cE []) Tryd.f8 [] [tbl] (plainIs .tt)) = (some tbl = some tbl ∧
  True ∧
    (depE { ag := 0, ix := 0, k := 1, ob := 0, mu := -1, en := -1, od := 0, rd := 0, wr := 0 }
            { ag := 1, ix := 0, k := 2, ob := 0, mu := -1, en := -1, od := 0, rd := 0, wr := 1 } =
          true →
        some tbl = some tbl) ∧
      (depE { ag := 0, ix := 0, k := 1, ob := 0, mu := -1, en := -1, od := 0, rd := 0, wr := 0 }
              { ag := 1, ix := 0, k := 2, ob := 0, mu := -1, en := -1, od := 0, rd := 0, wr := 1 } =
            true →
          True) ∧
        ((depE { ag := 0, ix := 0, k := 1, ob := 0, mu := -1, en := -1, od := 0, rd := 0, wr := 0 }
                  { ag := 1, ix := 0, k := 2, ob := 0, mu := -1, en := -1, od := 0, rd := 0, wr := 1 } &&
                !depE { ag := 0, ix := 0, k := 1, ob := 0, mu := -1, en := -1, od := 0, rd := 0, wr := 0 }
                    { ag := 2, ix := 0, k := 1, ob := 0, mu := -1, en := -1, od := 0, rd := 0, wr := 0 }) =
              true →
            some tbl = some tbl) ∧
          ((depE { ag := 0, ix := 0, k := 1, ob := 0, mu := -1, en := -1, od := 0, rd := 0, wr := 0 }
                    { ag := 1, ix := 0, k := 2, ob := 0, mu := -1, en := -1, od := 0, rd := 0, wr := 1 } &&
                  !depE { ag := 0, ix := 0, k := 1, ob := 0, mu := -1, en := -1, od := 0, rd := 0, wr := 0 }
                      { ag := 2, ix := 0, k := 1, ob := 0, mu := -1, en := -1, od := 0, rd := 0, wr := 0 }) =
                true →
              True) ∧
            ((depE { ag := 0, ix := 0, k := 1, ob := 0, mu := -1, en := -1, od := 0, rd := 0, wr := 0 }
                        { ag := 1, ix := 0, k := 2, ob := 0, mu := -1, en := -1, od := 0, rd := 0, wr := 1 } &&
                      !depE { ag := 0, ix := 0, k := 1, ob := 0, mu := -1, en := -1, od := 0, rd := 0, wr := 0 }
                          { ag := 2, ix := 0, k := 1, ob := 0, mu := -1, en := -1, od := 0, rd := 0, wr := 0 } &&
                    !depE { ag := 1, ix := 0, k := 2, ob := 0, mu := -1, en := -1, od := 0, rd := 0, wr := 1 }
                        { ag := 2, ix := 0, k := 2, ob := 1, mu := -1, en := -1, od := 0, rd := 0, wr := 0 }) =
                  true →
                some tbl = some tbl) ∧
              ((depE { ag := 0, ix := 0, k := 1, ob := 0, mu := -1, en := -1, od := 0, rd := 0, wr := 0 }
                          { ag := 1, ix := 0, k := 2, ob := 0, mu := -1, en := -1, od := 0, rd := 0, wr := 1 } &&
                        !depE { ag := 0, ix := 0, k := 1, ob := 0, mu := -1, en := -1, od := 0, rd := 0, wr := 0 }
                            { ag := 2, ix := 0, k := 1, ob := 0, mu := -1, en := -1, od := 0, rd := 0, wr := 0 } &&
                      !depE { ag := 1, ix := 0, k := 2, ob := 0, mu := -1, en := -1, od := 0, rd := 0, wr := 1 }
                          { ag := 2, ix := 0, k := 2, ob := 1, mu := -1, en := -1, od := 0, rd := 0, wr := 0 }) =
                    true →
                  True) ∧
                ((depE { ag := 0, ix := 0, k := 1, ob := 0, mu := -1, en := -1, od := 0, rd := 0, wr := 0 }
                              { ag := 1, ix := 0, k := 2, ob := 0, mu := -1, en := -1, od := 0, rd := 0, wr := 1 } &&
                            !depE { ag := 0, ix := 0, k := 1, ob := 0, mu := -1, en := -1, od := 0, rd := 0, wr := 0 }
                                { ag := 2, ix := 0, k := 1, ob := 0, mu := -1, en := -1, od := 0, rd := 0, wr := 0 } &&
                          !depE { ag := 1, ix := 0, k := 2, ob := 0, mu := -1, en := -1, od := 0, rd := 0, wr := 1 }
                              { ag := 2, ix := 0, k := 2, ob := 1, mu := -1, en := -1, od := 0, rd := 0, wr := 0 } &&
                        depE { ag := -1, ix := 0, k := 4, ob := 0, mu := -1, en := 2, od := 0, rd := 0, wr := 0 }
                          { ag := 0, ix := 0, k := 1, ob := 0, mu := -1, en := 2, od := 0, rd := 0, wr := 0 }) =
                      true →
                    some tbl = some tbl) ∧
                  ((depE { ag := 0, ix := 0, k := 1, ob := 0, mu := -1, en := -1, od := 0, rd := 0, wr := 0 }
                                { ag := 1, ix := 0, k := 2, ob := 0, mu := -1, en := -1, od := 0, rd := 0, wr := 1 } &&
                              !depE { ag := 0, ix := 0, k := 1, ob := 0, mu := -1, en := -1, od := 0, rd := 0, wr := 0 }
                                  { ag := 2, ix := 0, k := 1, ob := 0, mu := -1, en := -1, od := 0, rd := 0,
                                    wr := 0 } &&
                            !depE { ag := 1, ix := 0, k := 2, ob := 0, mu := -1, en := -1, od := 0, rd := 0, wr := 1 }
                                { ag := 2, ix := 0, k := 2, ob := 1, mu := -1, en := -1, od := 0, rd := 0, wr := 0 } &&
                          depE { ag := -1, ix := 0, k := 4, ob := 0, mu := -1, en := 2, od := 0, rd := 0, wr := 0 }
                            { ag := 0, ix := 0, k := 1, ob := 0, mu := -1, en := 2, od := 0, rd := 0, wr := 0 }) =
                        true →
                      True) ∧
                    ((depE { ag := 0, ix := 0, k := 1, ob := 0, mu := -1, en := -1, od := 0, rd := 0, wr := 0 }
                                    { ag := 1, ix := 0, k := 2, ob := 0, mu := -1, en := -1, od := 0, rd := 0,
                                      wr := 1 } &&
                                  !depE
                                      { ag := 0, ix := 0, k := 1, ob := 0, mu := -1, en := -1, od := 0, rd := 0,
                                        wr := 0 }
                                      { ag := 2, ix := 0, k := 1, ob := 0, mu := -1, en := -1, od := 0, rd := 0,
                                        wr := 0 } &&
                                !depE
                                    { ag := 1, ix := 0, k := 2, ob := 0, mu := -1, en := -1, od := 0, rd := 0, wr := 1 }
                                    { ag := 2, ix := 0, k := 2, ob := 1, mu := -1, en := -1, od := 0, rd := 0,
                                      wr := 0 } &&
                              depE { ag := -1, ix := 0, k := 4, ob := 0, mu := -1, en := 2, od := 0, rd := 0, wr := 0 }
                                { ag := 0, ix := 0, k := 1, ob := 0, mu := -1, en := 2, od := 0, rd := 0, wr := 0 } &&
                            depE { ag := 3, ix := 0, k := 7, ob := 0, mu := -1, en := -1, od := 0, rd := 0, wr := 0 }
                              { ag := -4, ix := 0, k := 4, ob := 5, mu := -1, en := 0, od := 0, rd := 0, wr := 0 }) =
                          true →
                        some tbl = some tbl) ∧
                      ((depE { ag := 0, ix := 0, k := 1, ob := 0, mu := -1, en := -1, od := 0, rd := 0, wr := 0 }
                                      { ag := 1, ix := 0, k := 2, ob := 0, mu := -1, en := -1, od := 0, rd := 0,
                                        wr := 1 } &&
                                    !depE
                                        { ag := 0, ix := 0, k := 1, ob := 0, mu := -1, en := -1, od := 0, rd := 0,
                                          wr := 0 }
                                        { ag := 2, ix := 0, k := 1, ob := 0, mu := -1, en := -1, od := 0, rd := 0,
                                          wr := 0 } &&
                                  !depE
                                      { ag := 1, ix := 0, k := 2, ob := 0, mu := -1, en := -1, od := 0, rd := 0,
                                        wr := 1 }
                                      { ag := 2, ix := 0, k := 2, ob := 1, mu := -1, en := -1, od := 0, rd := 0,
                                        wr := 0 } &&
                                depE
                                  { ag := -1, ix := 0, k := 4, ob := 0, mu := -1, en := 2, od := 0, rd := 0, wr := 0 }
                                  { ag := 0, ix := 0, k := 1, ob := 0, mu := -1, en := 2, od := 0, rd := 0, wr := 0 } &&
                              depE { ag := 3, ix := 0, k := 7, ob := 0, mu := -1, en := -1, od := 0, rd := 0, wr := 0 }
                                { ag := -4, ix := 0, k := 4, ob := 5, mu := -1, en := 0, od := 0, rd := 0, wr := 0 }) =
                            true →
                          True) ∧
                        ((depE { ag := 0, ix := 0, k := 1, ob := 0, mu := -1, en := -1, od := 0, rd := 0, wr := 0 }
                                          { ag := 1, ix := 0, k := 2, ob := 0, mu := -1, en := -1, od := 0, rd := 0,
                                            wr := 1 } &&
                                        !depE
                                            { ag := 0, ix := 0, k := 1, ob := 0, mu := -1, en := -1, od := 0, rd := 0,
                                              wr := 0 }
                                            { ag := 2, ix := 0, k := 1, ob := 0, mu := -1, en := -1, od := 0, rd := 0,
                                              wr := 0 } &&
                                      !depE
                                          { ag := 1, ix := 0, k := 2, ob := 0, mu := -1, en := -1, od := 0, rd := 0,
                                            wr := 1 }
                                          { ag := 2, ix := 0, k := 2, ob := 1, mu := -1, en := -1, od := 0, rd := 0,
                                            wr := 0 } &&
                                    depE
                                      { ag := -1, ix := 0, k := 4, ob := 0, mu := -1, en := 2, od := 0, rd := 0,
                                        wr := 0 }
                                      { ag := 0, ix := 0, k := 1, ob := 0, mu := -1, en := 2, od := 0, rd := 0,
                                        wr := 0 } &&
                                  depE
                                    { ag := 3, ix := 0, k := 7, ob := 0, mu := -1, en := -1, od := 0, rd := 0, wr := 0 }
                                    { ag := -4, ix := 0, k := 4, ob := 5, mu := -1, en := 0, od := 0, rd := 0,
                                      wr := 0 } &&
                                !depE
                                    { ag := 3, ix := 0, k := 7, ob := 0, mu := -1, en := -1, od := 0, rd := 0, wr := 0 }
                                    { ag := -1, ix := 0, k := 4, ob := 0, mu := -1, en := 2, od := 0, rd := 0,
                                      wr := 0 }) =
                              true →
                            some tbl = some tbl) ∧
                          ((depE { ag := 0, ix := 0, k := 1, ob := 0, mu := -1, en := -1, od := 0, rd := 0, wr := 0 }
                                            { ag := 1, ix := 0, k := 2, ob := 0, mu := -1, en := -1, od := 0, rd := 0,
                                              wr := 1 } &&
                                          !depE
                                              { ag := 0, ix := 0, k := 1, ob := 0, mu := -1, en := -1, od := 0, rd := 0,
                                                wr := 0 }
                                              { ag := 2, ix := 0, k := 1, ob := 0, mu := -1, en := -1, od := 0, rd := 0,
                                                wr := 0 } &&
                                        !depE
                                            { ag := 1, ix := 0, k := 2, ob := 0, mu := -1, en := -1, od := 0, rd := 0,
                                              wr := 1 }
                                            { ag := 2, ix := 0, k := 2, ob := 1, mu := -1, en := -1, od := 0, rd := 0,
                                              wr := 0 } &&
                                      depE
                                        { ag := -1, ix := 0, k := 4, ob := 0, mu := -1, en := 2, od := 0, rd := 0,
                                          wr := 0 }
                                        { ag := 0, ix := 0, k := 1, ob := 0, mu := -1, en := 2, od := 0, rd := 0,
                                          wr := 0 } &&
                                    depE
                                      { ag := 3, ix := 0, k := 7, ob := 0, mu := -1, en := -1, od := 0, rd := 0,
                                        wr := 0 }
                                      { ag := -4, ix := 0, k := 4, ob := 5, mu := -1, en := 0, od := 0, rd := 0,
                                        wr := 0 } &&
                                  !depE
                                      { ag := 3, ix := 0, k := 7, ob := 0, mu := -1, en := -1, od := 0, rd := 0,
                                        wr := 0 }
                                      { ag := -1, ix := 0, k := 4, ob := 0, mu := -1, en := 2, od := 0, rd := 0,
                                        wr := 0 }) =
                                true →
                              True) ∧
                            ((depE { ag := 0, ix := 0, k := 1, ob := 0, mu := -1, en := -1, od := 0, rd := 0, wr := 0 }
                                                { ag := 1, ix := 0, k := 2, ob := 0, mu := -1, en := -1, od := 0,
                                                  rd := 0, wr := 1 } &&
                                              !depE
                                                  { ag := 0, ix := 0, k := 1, ob := 0, mu := -1, en := -1, od := 0,
                                                    rd := 0, wr := 0 }
                                                  { ag := 2, ix := 0, k := 1, ob := 0, mu := -1, en := -1, od := 0,
                                                    rd := 0, wr := 0 } &&
                                            !depE
                                                { ag := 1, ix := 0, k := 2, ob := 0, mu := -1, en := -1, od := 0,
                                                  rd := 0, wr := 1 }
                                                { ag := 2, ix := 0, k := 2, ob := 1, mu := -1, en := -1, od := 0,
                                                  rd := 0, wr := 0 } &&
                                          depE
                                            { ag := -1, ix := 0, k := 4, ob := 0, mu := -1, en := 2, od := 0, rd := 0,
                                              wr := 0 }
                                            { ag := 0, ix := 0, k := 1, ob := 0, mu := -1, en := 2, od := 0, rd := 0,
                                              wr := 0 } &&
                                        depE
                                          { ag := 3, ix := 0, k := 7, ob := 0, mu := -1, en := -1, od := 0, rd := 0,
                                            wr := 0 }
                                          { ag := -4, ix := 0, k := 4, ob := 5, mu := -1, en := 0, od := 0, rd := 0,
                                            wr := 0 } &&
                                      !depE
                                          { ag := 3, ix := 0, k := 7, ob := 0, mu := -1, en := -1, od := 0, rd := 0,
                                            wr := 0 }
                                          { ag := -1, ix := 0, k := 4, ob := 0, mu := -1, en := 2, od := 0, rd := 0,
                                            wr := 0 } &&
                                    validE
                                      { ag := 3, ix := 0, k := 7, ob := 0, mu := -1, en := -1, od := 0, rd := 0,
                                        wr := 0 }) =
                                  true →
                                some tbl = some tbl) ∧
                              ((depE
                                                  { ag := 0, ix := 0, k := 1, ob := 0, mu := -1, en := -1, od := 0,
                                                    rd := 0, wr := 0 }
                                                  { ag := 1, ix := 0, k := 2, ob := 0, mu := -1, en := -1, od := 0,
                                                    rd := 0, wr := 1 } &&
                                                !depE
                                                    { ag := 0, ix := 0, k := 1, ob := 0, mu := -1, en := -1, od := 0,
                                                      rd := 0, wr := 0 }
                                                    { ag := 2, ix := 0, k := 1, ob := 0, mu := -1, en := -1, od := 0,
                                                      rd := 0, wr := 0 } &&
                                              !depE
                                                  { ag := 1, ix := 0, k := 2, ob := 0, mu := -1, en := -1, od := 0,
                                                    rd := 0, wr := 1 }
                                                  { ag := 2, ix := 0, k := 2, ob := 1, mu := -1, en := -1, od := 0,
                                                    rd := 0, wr := 0 } &&
                                            depE
                                              { ag := -1, ix := 0, k := 4, ob := 0, mu := -1, en := 2, od := 0, rd := 0,
                                                wr := 0 }
                                              { ag := 0, ix := 0, k := 1, ob := 0, mu := -1, en := 2, od := 0, rd := 0,
                                                wr := 0 } &&
                                          depE
                                            { ag := 3, ix := 0, k := 7, ob := 0, mu := -1, en := -1, od := 0, rd := 0,
                                              wr := 0 }
                                            { ag := -4, ix := 0, k := 4, ob := 5, mu := -1, en := 0, od := 0, rd := 0,
                                              wr := 0 } &&
                                        !depE
                                            { ag := 3, ix := 0, k := 7, ob := 0, mu := -1, en := -1, od := 0, rd := 0,
                                              wr := 0 }
                                            { ag := -1, ix := 0, k := 4, ob := 0, mu := -1, en := 2, od := 0, rd := 0,
                                              wr := 0 } &&
                                      validE
                                        { ag := 3, ix := 0, k := 7, ob := 0, mu := -1, en := -1, od := 0, rd := 0,
                                          wr := 0 }) =
                                    true →
                                  True) ∧
                                (depE
                                                      { ag := 0, ix := 0, k := 1, ob := 0, mu := -1, en := -1, od := 0,
                                                        rd := 0, wr := 0 }
                                                      { ag := 1, ix := 0, k := 2, ob := 0, mu := -1, en := -1, od := 0,
                                                        rd := 0, wr := 1 } &&
                                                    !depE
                                                        { ag := 0, ix := 0, k := 1, ob := 0, mu := -1, en := -1,
                                                          od := 0, rd := 0, wr := 0 }
                                                        { ag := 2, ix := 0, k := 1, ob := 0, mu := -1, en := -1,
                                                          od := 0, rd := 0, wr := 0 } &&
                                                  !depE
                                                      { ag := 1, ix := 0, k := 2, ob := 0, mu := -1, en := -1, od := 0,
                                                        rd := 0, wr := 1 }
                                                      { ag := 2, ix := 0, k := 2, ob := 1, mu := -1, en := -1, od := 0,
                                                        rd := 0, wr := 0 } &&
                                                depE
                                                  { ag := -1, ix := 0, k := 4, ob := 0, mu := -1, en := 2, od := 0,
                                                    rd := 0, wr := 0 }
                                                  { ag := 0, ix := 0, k := 1, ob := 0, mu := -1, en := 2, od := 0,
                                                    rd := 0, wr := 0 } &&
                                              depE
                                                { ag := 3, ix := 0, k := 7, ob := 0, mu := -1, en := -1, od := 0,
                                                  rd := 0, wr := 0 }
                                                { ag := -4, ix := 0, k := 4, ob := 5, mu := -1, en := 0, od := 0,
                                                  rd := 0, wr := 0 } &&
                                            !depE
                                                { ag := 3, ix := 0, k := 7, ob := 0, mu := -1, en := -1, od := 0,
                                                  rd := 0, wr := 0 }
                                                { ag := -1, ix := 0, k := 4, ob := 0, mu := -1, en := 2, od := 0,
                                                  rd := 0, wr := 0 } &&
                                          validE
                                            { ag := 3, ix := 0, k := 7, ob := 0, mu := -1, en := -1, od := 0, rd := 0,
                                              wr := 0 } &&
                                        !validE
                                            { ag := 0, ix := 0, k := 7, ob := 0, mu := 0, en := 0, od := 0, rd := 0,
                                              wr := 0 } &&
                                      threadI (-4) == 3 &&
                                    flusherI 3 == -4) =
                                  true) := by kernel_rfl
theorem v8 (_u : Unit)  : fnVc (tabG cE []) Tryd.f8 [] [tbl] (plainIs .tt) := by
  rw [v8_eq ()]
  simp only [implies_true, true_and]
  decide
end Go.Proofs.YtbhopcgbdofcjaaDoor
