/-
  A part of the proof (Ev6).
-/
import Derived.Test.YtbhopcgbdofcjaaDoorEv5
namespace Go.Proofs.YtbhopcgbdofcjaaDoor
open Go Go.Proofs.YtbhopcgbdofcjaaDoor.Sx
set_option maxRecDepth 100000
set_option linter.unusedSimpArgs false
set_option linter.unusedVariables false

theorem ltB_b (x : Bool) (n : Nat) : (SV.b x).ltB n = true := by simp only [SV.ltB]
theorem ltB_i (k : IntKind) (x : Int) (n : Nat) : (SV.i k x).ltB n = true := by simp only [SV.ltB]
theorem okIx {G : List (Nat × Nat)} {fid : FuncId} {fn : Func} {calls : Calling} {loops : Nat → (Nat → Int) → (Nat → Int) → (Nat → Int) → (Nat → Bool) → Int → Int → Int → Bool → List (Nat × PLoop)} (hT : ∀ n g1 g2 g3 g4 a b c w, TabOk Tryd.prog (tabA calls (loops n g1 g2 g3 g4 a b c w))) (hfn : Tryd.prog.funcs[fid]? = some fn) (hok : fnOk Tryd.prog fid) {g : Nat → (Nat → Bool) → SV} (hg : ∀ n p, (g n p).ltB 0 = true)
    (hv : ∀ n g1 g2 g3 g4 a b c w, n ≤ 9223372036854775807 → fnVc (tabA calls (loops n g1 g2 g3 g4 a b c w)) fn [.sl 0 n, .agg [.i .i64 a, .i .i64 b, .i .i64 c, .b w]] [.arr n [.int .i64 g1, .int .i64 g2, .int .i64 g3, .bool g4]] (plainIs (g n (eqA g1 g2 g3 g4 a b c w)))) : CallOk Tryd.prog G fid (fIx g) := by
  refine callOk_gen hfn hok fun m vs ar h hp => ?_
  unfold fIx at h
  split at h
  · rename_i r n a b c w
    split at h
    · rename_i k hk
      split at h
      · rename_i n' g1 g2 g3 g4 w' hs hw
        simp only [Option.some.injEq] at h
        subst h
        have e1 : n = n' := hp _ (by simp)
        have e2 : n ≤ 9223372036854775807 := hp _ (by simp)
        subst e1
        refine ⟨_, hT n g1 g2 g3 g4 a b c w', fun _ => r, [.arr n [.int .i64 g1, .int .i64 g2, .int .i64 g3, .bool g4]], [.sl 0 n, .agg [.i .i64 a, .i .i64 b, .i .i64 c, .b w']], fun ρ xs h => ?_, rfl, rfl, fun i k0 hi => ?_, fun g i hi => absurd hi (by simp [tabA, assoc]), .inl ⟨rfl, hg n _, hv n g1 g2 g3 g4 a b c w' e2⟩⟩
        · exact DenL.conv h (fun v h => h) fun vs h => DenL.conv h (fun v h => Den.aggConv (fun vs h => DenL.conv h (fun v h => h) fun vs h => DenL.conv h (fun v h => h) fun vs h => DenL.conv h (fun v h => h) fun vs h => DenL.conv h (fun v h => h.asB hw) fun vs h => h) h) fun vs h => h
        · cases i with
          | zero => simp at hi; subst hi; exact ⟨k, by rw [← nth_eq]; exact hk, hs⟩
          | succ i => simp at hi
      · cases h
    · cases h
  · cases h
theorem fo9 : fnOk Tryd.prog 9 := ⟨Tryd.f9, Tryd.func9, by kernel_rfl, by kernel_rfl⟩
theorem fo10 : fnOk Tryd.prog 10 := ⟨Tryd.f10, Tryd.func10, by kernel_rfl, by kernel_rfl⟩
theorem fo11 : fnOk Tryd.prog 11 := ⟨Tryd.f11, Tryd.func11, by kernel_rfl, by kernel_rfl⟩
theorem fo12 : fnOk Tryd.prog 12 := ⟨Tryd.f12, Tryd.func12, by kernel_rfl, by kernel_rfl⟩
theorem fo13 : fnOk Tryd.prog 13 := ⟨Tryd.f13, Tryd.func13, by kernel_rfl, by kernel_rfl⟩
theorem fo14 : fnOk Tryd.prog 14 := ⟨Tryd.f14, Tryd.func14, by kernel_rfl, by kernel_rfl⟩
theorem fo40 : fnOk Tryd.prog 40 := ⟨Tryd.f40, Tryd.func40, by kernel_rfl, by kernel_rfl⟩
theorem fo39 : fnOk Tryd.prog 39 := ⟨Tryd.f39, Tryd.func39, by kernel_rfl, by kernel_rfl⟩
theorem fo43 : fnOk Tryd.prog 43 := ⟨Tryd.f43, Tryd.func43, by kernel_rfl, by kernel_rfl⟩
theorem fo41 : fnOk Tryd.prog 41 := ⟨Tryd.f41, Tryd.func41, by kernel_rfl, by kernel_rfl⟩
theorem fo42 : fnOk Tryd.prog 42 := ⟨Tryd.f42, Tryd.func42, by kernel_rfl, by kernel_rfl⟩
theorem fo36 : fnOk Tryd.prog 36 := ⟨Tryd.f36, Tryd.func36, by kernel_rfl, by kernel_rfl⟩
theorem fo37 : fnOk Tryd.prog 37 := ⟨Tryd.f37, Tryd.func37, by kernel_rfl, by kernel_rfl⟩
theorem fo38 : fnOk Tryd.prog 38 := ⟨Tryd.f38, Tryd.func38, by kernel_rfl, by kernel_rfl⟩
theorem fo17 : fnOk Tryd.prog 17 := ⟨Tryd.f17, Tryd.func17, by kernel_rfl, by kernel_rfl⟩
theorem fo23 : fnOk Tryd.prog 23 := ⟨Tryd.f23, Tryd.func23, by kernel_rfl, by kernel_rfl⟩
theorem fo26 : fnOk Tryd.prog 26 := ⟨Tryd.f26, Tryd.func26, by kernel_rfl, by kernel_rfl⟩
theorem fo27 : fnOk Tryd.prog 27 := ⟨Tryd.f27, Tryd.func27, by kernel_rfl, by kernel_rfl⟩
theorem fo22 : fnOk Tryd.prog 22 := ⟨Tryd.f22, Tryd.func22, by kernel_rfl, by kernel_rfl⟩
theorem fo28 : fnOk Tryd.prog 28 := ⟨Tryd.f28, Tryd.func28, by kernel_rfl, by kernel_rfl⟩
theorem fo29 : fnOk Tryd.prog 29 := ⟨Tryd.f29, Tryd.func29, by kernel_rfl, by kernel_rfl⟩
theorem fo32 : fnOk Tryd.prog 32 := ⟨Tryd.f32, Tryd.func32, by kernel_rfl, by kernel_rfl⟩
theorem fo30 : fnOk Tryd.prog 30 := ⟨Tryd.f30, Tryd.func30, by kernel_rfl, by kernel_rfl⟩
theorem fo33 : fnOk Tryd.prog 33 := ⟨Tryd.f33, Tryd.func33, by kernel_rfl, by kernel_rfl⟩
theorem fo35 : fnOk Tryd.prog 35 := ⟨Tryd.f35, Tryd.func35, by kernel_rfl, by kernel_rfl⟩
theorem fo21 : fnOk Tryd.prog 21 := ⟨Tryd.f21, Tryd.func21, by kernel_rfl, by kernel_rfl⟩
theorem fo25 : fnOk Tryd.prog 25 := ⟨Tryd.f25, Tryd.func25, by kernel_rfl, by kernel_rfl⟩
theorem fo45 : fnOk Tryd.prog 45 := ⟨Tryd.f45, Tryd.func45, by kernel_rfl, by kernel_rfl⟩
theorem fo44 : fnOk Tryd.prog 44 := ⟨Tryd.f44, Tryd.func44, by kernel_rfl, by kernel_rfl⟩
theorem fo24 : fnOk Tryd.prog 24 := ⟨Tryd.f24, Tryd.func24, by kernel_rfl, by kernel_rfl⟩
theorem tA {loops : List (Nat × PLoop)} : TabOk Tryd.prog (tabA [] loops) := tabOkA (by simp)
theorem c9 {G : List (Nat × Nat)} : CallOk Tryd.prog G 9 (fI1 fun n => .i .i64 (threadI n)) := okI1 tA Tryd.func9 fo9 (fun _ => ltB_i _ _ _) v9
theorem c10 {G : List (Nat × Nat)} : CallOk Tryd.prog G 10 (fI1 fun n => .i .i64 (threadI n)) := okI1 tA Tryd.func10 fo10 (fun _ => ltB_i _ _ _) v10
theorem c11 {G : List (Nat × Nat)} : CallOk Tryd.prog G 11 (fI1 fun n => .i .i64 (flusherI n)) := okI1 tA Tryd.func11 fo11 (fun _ => ltB_i _ _ _) v11
theorem c12 {G : List (Nat × Nat)} : CallOk Tryd.prog G 12 (fI1 fun n => .i .i64 (flusherI n)) := okI1 tA Tryd.func12 fo12 (fun _ => ltB_i _ _ _) v12
theorem c13 {G : List (Nat × Nat)} : CallOk Tryd.prog G 13 (fI1 fun n => .b (decide (n < 0))) := okI1 tA Tryd.func13 fo13 (fun _ => ltB_b _ _) v13
theorem c14 {G : List (Nat × Nat)} : CallOk Tryd.prog G 14 (fI1 fun n => .b (decide (n < 0))) := okI1 tA Tryd.func14 fo14 (fun _ => ltB_b _ _) v14
theorem c40 {G : List (Nat × Nat)} : CallOk Tryd.prog G 40 (fI1 fun n => .b (isVal n)) := okI1 tA Tryd.func40 fo40 (fun _ => ltB_b _ _) v40
theorem c39 {G : List (Nat × Nat)} : CallOk Tryd.prog G 39 (fI1 fun n => .b (ordK n)) := okI1 tA Tryd.func39 fo39 (fun _ => ltB_b _ _) v39
theorem c43 {G : List (Nat × Nat)} : CallOk Tryd.prog G 43 (fI1 fun n => .b (readK n)) := okI1 tA Tryd.func43 fo43 (fun _ => ltB_b _ _) v43
theorem c41 {G : List (Nat × Nat)} : CallOk Tryd.prog G 41 (fI1 fun n => .b (wroteK n)) := okI1 tA Tryd.func41 fo41 (fun _ => ltB_b _ _) v41
theorem c42 {G : List (Nat × Nat)} : CallOk Tryd.prog G 42 (fI2 fun n k => .b (within n k)) := okI2 tA Tryd.func42 fo42 (fun _ _ => ltB_b _ _) v42
theorem tcT {loops : List (Nat × PLoop)} : TabOk Tryd.prog (tabG cT loops) := tabOkG fun p hp => by
  simp only [cT, List.mem_cons, List.not_mem_nil, or_false] at hp
  rcases hp with rfl | rfl | rfl | rfl | rfl | rfl | rfl | rfl | rfl | rfl | rfl
  · exact c9
  · exact c10
  · exact c11
  · exact c12
  · exact c13
  · exact c14
  · exact c42
  · exact c40
  · exact c39
  · exact c43
  · exact c41
theorem tabG_app {a b : Calling} {loops loops' : List (Nat × PLoop)} (h : TabOk Tryd.prog (tabG a loops)) (h2 : ∀ p ∈ a, CallOk Tryd.prog GL p.1 p.2) (h' : ∀ p ∈ b, CallOk Tryd.prog GL p.1 p.2) : TabOk Tryd.prog (tabG (a ++ b) loops') := tabOkG fun p hp => by
  rcases List.mem_append.1 hp with h | h
  · exact h2 p h
  · exact h' p h
theorem mcT : ∀ p ∈ cT, CallOk Tryd.prog GL p.1 p.2 := fun p hp => by
  simp only [cT, List.mem_cons, List.not_mem_nil, or_false] at hp
  rcases hp with rfl | rfl | rfl | rfl | rfl | rfl | rfl | rfl | rfl | rfl | rfl
  · exact c9
  · exact c10
  · exact c11
  · exact c12
  · exact c13
  · exact c14
  · exact c42
  · exact c40
  · exact c39
  · exact c43
  · exact c41
theorem mApp {a b : Calling} (h2 : ∀ p ∈ a, CallOk Tryd.prog GL p.1 p.2) (h' : ∀ p ∈ b, CallOk Tryd.prog GL p.1 p.2) : ∀ p ∈ a ++ b, CallOk Tryd.prog GL p.1 p.2 := fun p hp => by
  rcases List.mem_append.1 hp with h | h
  · exact h2 p h
  · exact h' p h
theorem c36 : CallOk Tryd.prog GL 36 (fE1 (fun _ => True) fun e => .b (objE e)) := okE1 tcT Tryd.func36 fo36 (fun _ => ltB_b _ _) (fun e _ => v36 e)
theorem c37 : CallOk Tryd.prog GL 37 (fE1 (fun _ => True) fun e => .b (resE e)) := okE1 tcT Tryd.func37 fo37 (fun _ => ltB_b _ _) (fun e _ => v37 e)
theorem c38 : CallOk Tryd.prog GL 38 (fE1 (fun _ => True) fun e => .b (entE e)) := okE1 tcT Tryd.func38 fo38 (fun _ => ltB_b _ _) (fun e _ => v38 e)
theorem mcR : ∀ p ∈ cR, CallOk Tryd.prog GL p.1 p.2 := mApp mcT fun p hp => by
  simp only [List.mem_cons, List.not_mem_nil, or_false] at hp
  rcases hp with rfl | rfl | rfl
  · exact c36
  · exact c37
  · exact c38
theorem c17 : CallOk Tryd.prog GL 17 (fE1 (fun _ => True) fun e => .b (validE e)) := okE1 tcT Tryd.func17 fo17 (fun _ => ltB_b _ _) (fun e _ => v17 e)
theorem c23 : CallOk Tryd.prog GL 23 (fE1 (fun _ => True) fun e => .b (validE e)) := okE1 (tabOkG mcR) Tryd.func23 fo23 (fun _ => ltB_b _ _) (fun e _ => v23 e)
theorem mcV : ∀ p ∈ cV, CallOk Tryd.prog GL p.1 p.2 := mApp mcT fun p hp => by
  simp only [List.mem_cons, List.not_mem_nil, or_false] at hp
  rcases hp with rfl | rfl
  · exact c17
  · exact c23
theorem c26 : CallOk Tryd.prog GL 26 (fE1 (fun _ => True) fun e => .b (readE e)) := okE1 (tabOkG mcV) Tryd.func26 fo26 (fun _ => ltB_b _ _) (fun e _ => v26 e)
theorem c27 : CallOk Tryd.prog GL 27 (fE1 (fun _ => True) fun e => .b (readE e)) := okE1 (tabOkG mcV) Tryd.func27 fo27 (fun _ => ltB_b _ _) (fun e _ => v27 e)
theorem c22 : CallOk Tryd.prog GL 22 (fE1 (fun _ => True) fun e => .b (writeE e)) := okE1 (tabOkG mcV) Tryd.func22 fo22 (fun _ => ltB_b _ _) (fun e _ => v22 e)
theorem c28 : CallOk Tryd.prog GL 28 (fE1 (fun _ => True) fun e => .b (writeE e)) := okE1 (tabOkG mcV) Tryd.func28 fo28 (fun _ => ltB_b _ _) (fun e _ => v28 e)
theorem c29 : CallOk Tryd.prog GL 29 (fE2 (fun _ _ => True) fun e d => .b (creE e d)) := okE2 (tabOkG mcV) Tryd.func29 fo29 (fun _ _ => ltB_b _ _) (fun e d _ => v29 e d)
theorem c32 : CallOk Tryd.prog GL 32 (fE2 (fun _ _ => True) fun e d => .b (creE e d)) := okE2 (tabOkG mcV) Tryd.func32 fo32 (fun _ _ => ltB_b _ _) (fun e d _ => v32 e d)
theorem c30 : CallOk Tryd.prog GL 30 (fE2 (fun _ _ => True) fun e d => .b (draE e d)) := okE2 (tabOkG mcV) Tryd.func30 fo30 (fun _ _ => ltB_b _ _) (fun e d _ => v30 e d)
theorem c33 : CallOk Tryd.prog GL 33 (fE2 (fun _ _ => True) fun e d => .b (draR e d)) := okE2 (tabOkG mcV) Tryd.func33 fo33 (fun _ _ => ltB_b _ _) (fun e d _ => v33 e d)
theorem okA {fid : FuncId} {fn : Func} {calls : Calling} {loops : List (Nat × PLoop)} (hT : TabOk Tryd.prog (tabG calls loops)) (hfn : Tryd.prog.funcs[fid]? = some fn) (hok : fnOk Tryd.prog fid) {pre : Ev → Prop} {g : Ev → List Ac} (hv : ∀ e, pre e → fnVc (tabG calls loops) fn [evSV e] [tbl] (arrIs 39 (g e).length (colsA (g e)))) : CallOk Tryd.prog GL fid (fA pre g) := by
  refine callOk_gen hfn hok fun m vs ar h hp => ?_
  unfold fA at h
  split at h
  · rename_i x
    split at h
    · rename_i e he
      simp only [Option.some.injEq] at h
      subst h
      obtain rfl := dEv_some he
      have h0 : nth m 0 = some tbl := hp _ (by simp)
      refine ⟨_, hT, id, [tbl], [evSV e], fun ρ xs h => h, rfl, rfl, fun i k0 h => ?_, fun g i h => ?_, .inr ⟨39, (g e).length, colsA (g e), by simp [colsA], rfl, rfl, hv e (hp _ (by simp))⟩⟩
      · cases i with
        | zero => simp at h; subst h; exact ⟨tbl, by rw [← nth_eq]; exact h0, rfl⟩
        | succ i => simp at h
      · cases g with
        | zero => cases h; exact ⟨by simp, rfl⟩
        | succ g => cases h
    · cases h
  · cases h
theorem c35 : CallOk Tryd.prog GL 35 (fA (fun e => validE e = true) acc) := okA (loops := []) (tabOkG mcV) Tryd.func35 fo35 (fun e he => v35 e he)
theorem mcA : ∀ p ∈ cA, CallOk Tryd.prog GL p.1 p.2 := mApp mcV fun p hp => by
  simp only [List.mem_cons, List.not_mem_nil, or_false] at hp
  subst hp
  exact c35
theorem c21 : CallOk Tryd.prog GL 21 (fA (fun _ => True) accV) := okA (loops := []) (tabOkG mcA) Tryd.func21 fo21 (fun e _ => v21 e)
theorem c25 : CallOk Tryd.prog GL 25 (fA (fun _ => True) accV) := okA (loops := []) (tabOkG mcA) Tryd.func25 fo25 (fun e _ => v25 e)
theorem c45 {G : List (Nat × Nat)} : CallOk Tryd.prog G 45 (fIx fun n p => .i .i64 (findI n p)) := okIx (calls := []) (loops := fun n g1 g2 g3 g4 a b c w => [(0, .of (lIndex n (eqA g1 g2 g3 g4 a b c w)))]) (fun _ _ _ _ _ _ _ _ _ => tA) Tryd.func45 fo45 (fun _ _ => ltB_i _ _ _) (fun n g1 g2 g3 g4 a b c w hn => v45 n g1 g2 g3 g4 a b c w hn)
theorem c44 {G : List (Nat × Nat)} : CallOk Tryd.prog G 44 (fIx fun n p => .b (decide (findI n p ≥ 0))) := okIx (calls := [(45, fIx fun n p => .i .i64 (findI n p))]) (loops := fun n g1 g2 g3 g4 a b c w => []) (fun _ _ _ _ _ _ _ _ _ => tabOkA fun p hp => by
  simp only [List.mem_cons, List.not_mem_nil, or_false] at hp
  subst hp
  exact c45) Tryd.func44 fo44 (fun _ _ => ltB_b _ _) (fun n g1 g2 g3 g4 a b c w hn => v44 n g1 g2 g3 g4 a b c w hn)
end Go.Proofs.YtbhopcgbdofcjaaDoor
