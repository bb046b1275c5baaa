/-
  A part of the proof (Ev4).
-/
import Derived.Test.YtbhopcgbdofcjaaDoorEv3
namespace Go.Proofs.YtbhopcgbdofcjaaDoor
open Go Go.Proofs.YtbhopcgbdofcjaaDoor.Sx
set_option maxRecDepth 100000
set_option linter.unusedSimpArgs false
set_option linter.unusedVariables false
theorem wr64 (n : Int) (h : -9223372036854775808 ≤ n ∧ n ≤ 9223372036854775807) : IntKind.i64.wrap n = n := by rw [IntKind.wrap_i64]; omega
theorem wrS {x n : Nat} (h : x < n) (hn : n ≤ 9223372036854775807) : IntKind.i64.wrap ((x : Int) + 1) = ((x + 1 : Nat) : Int) := by rw [wr64 _ (by omega)]; omega
theorem lt1 {p : Nat → Prop} : (∀ j, j < 1 → p j) ↔ p 0 := ⟨fun h => h 0 (by omega), fun h j hj => by
  have e : j = 0 := by omega
  subst e
  exact h⟩
theorem lt2 {p : Nat → Prop} : (∀ j, j < 2 → p j) ↔ p 0 ∧ p 1 := ⟨fun h => ⟨h 0 (by omega), h 1 (by omega)⟩, fun h j hj => by
  have : j = 0 ∨ j = 1 := by omega
  rcases this with e | e <;> subst e
  · exact h.1
  · exact h.2⟩
theorem lt0 {p : Nat → Prop} : (∀ j, j < 0 → p j) ↔ True := ⟨fun _ => trivial, fun _ j hj => by omega⟩
def cA : Calling := cV ++ [(35, fA (fun e => validE e = true) acc)]
def lIndex (n : Nat) (p : Nat → Bool) : LAnn := { X := Nat, inv := fun j => j ≤ n ∧ ∀ i, i < j → p i = false, slots := fun j => [(8, .i .i64 j)], mem := fun _ => [], mu := fun j => n - j }
def eqA (g1 g2 g3 : Nat → Int) (g4 : Nat → Bool) (a b c : Int) (w : Bool) (j : Nat) : Bool := a == g1 j && (b == g2 j && (c == g3 j && w == g4 j))
def fIx (g : Nat → (Nat → Bool) → SV) : List MBlk → List SV → Option AR := fun m vs => match vs with
  | [.sl r n, .agg [.i .i64 a, .i .i64 b, .i .i64 c, w]] => match nth m r with
    | some k => match srcOf k, bOf w with
      | some (n', [.int .i64 g1, .int .i64 g2, .int .i64 g3, .bool g4]), some w => some ⟨[n = n', n ≤ 9223372036854775807], g n (eqA g1 g2 g3 g4 a b c w), []⟩
      | _, _ => none
    | none => none
  | _ => none
def lSame (n : Nat) (p : Nat → Bool) : LAnn := { X := Nat, inv := fun j => j ≤ n ∧ ∀ i, i < j → p i = true, slots := fun j => [(5, .i .i64 j)], mem := fun _ => [], mu := fun j => n - j }
def eqAt (g1 g2 g3 : Nat → Int) (g4 : Nat → Bool) (h1 h2 h3 : Nat → Int) (h4 : Nat → Bool) (j : Nat) : Bool := g1 j == h1 j && (g2 j == h2 j && (g3 j == h3 j && g4 j == h4 j))
theorem v45_eq (n : Nat) (g1 g2 g3 : Nat → Int) (g4 : Nat → Bool) (a b c : Int) (w : Bool) : (fnVc (tabA [] [(0, .of (lIndex n (eqA g1 g2 g3 g4 a b c w)))]) Tryd.f45 [.sl 0 n, .agg [.i .i64 a, .i .i64 b, .i .i64 c, .b w]] [.arr n [.int .i64 g1, .int .i64 g2, .int .i64 g3, .bool g4]] (plainIs (.i .i64 (findI n (eqA g1 g2 g3 g4 a b c w))))) = (∃ (x : PUnit),
  (∃ (x : Nat), (x ≤ n ∧ ∀ (i : Nat), i < x → eqA g1 g2 g3 g4 a b c w i = false) ∧ (0 = (↑x : Int) ∧ True) ∧ True) ∧
    ∀ (x_1 : Nat),
      (x_1 ≤ n ∧ ∀ (i : Nat), i < x_1 → eqA g1 g2 g3 g4 a b c w i = false) →
        (decide ((↑x_1 : Int) < (↑n : Int)) = true →
            (0 ≤ (↑x_1 : Int) ∧ (↑x_1 : Int) < (↑n : Int)) ∧
              x_1 < n ∧
                ((a == g1 x_1 && (b == g2 x_1 && (c == g3 x_1 && w == g4 x_1))) = true →
                    (↑x_1 : Int) = findI n (eqA g1 g2 g3 g4 a b c w)) ∧
                  ((a == g1 x_1 && (b == g2 x_1 && (c == g3 x_1 && w == g4 x_1))) = false →
                    ∃ (x_2 : Nat),
                      (x_2 ≤ n ∧ ∀ (i : Nat), i < x_2 → eqA g1 g2 g3 g4 a b c w i = false) ∧
                        ((PLoop.of (lIndex n (eqA g1 g2 g3 g4 a b c w))).ann x).mu x_2 <
                            ((PLoop.of (lIndex n (eqA g1 g2 g3 g4 a b c w))).ann x).mu x_1 ∧
                          (n = n ∧
                              (a = a ∧ b = b ∧ c = c ∧ w = w) ∧
                                True ∧
                                  n = n ∧
                                    (↑n : Int) = (↑n : Int) ∧
                                      IntKind.i64.wrap ((↑x_1 : Int) + 1) = (↑x_2 : Int) ∧ True) ∧
                            (n = n ∧
                                (∀ (j : Nat), j < n → g1 j = g1 j) ∧
                                  (∀ (j : Nat), j < n → g2 j = g2 j) ∧
                                    (∀ (j : Nat), j < n → g3 j = g3 j) ∧ (∀ (j : Nat), j < n → g4 j = g4 j) ∧ True) ∧
                              (a = a ∧ b = b ∧ c = c ∧ w = w) ∧ True)) ∧
          (decide ((↑x_1 : Int) < (↑n : Int)) = false → -1 = findI n (eqA g1 g2 g3 g4 a b c w))) := by kernel_rfl
theorem v45 (n : Nat) (g1 g2 g3 : Nat → Int) (g4 : Nat → Bool) (a b c : Int) (w : Bool) (hn : n ≤ 9223372036854775807) : fnVc (tabA [] [(0, .of (lIndex n (eqA g1 g2 g3 g4 a b c w)))]) Tryd.f45 [.sl 0 n, .agg [.i .i64 a, .i .i64 b, .i .i64 c, .b w]] [.arr n [.int .i64 g1, .int .i64 g2, .int .i64 g3, .bool g4]] (plainIs (.i .i64 (findI n (eqA g1 g2 g3 g4 a b c w)))) := by
  rw [v45_eq]
  refine ⟨(), ⟨0, ⟨by omega, fun i hi => by omega⟩, ⟨rfl, trivial⟩, trivial⟩, fun x hx => ⟨fun hlt => ?_, fun hlt => ?_⟩⟩
  · have hlt : x < n := by simpa using hlt
    refine ⟨by omega, by simpa using hlt, fun h => ?_, fun h => ?_⟩
    · exact (findF_at (p := eqA g1 g2 g3 g4 a b c w) (x := x) (by simpa [eqA] using h) n 0 (by omega) (by omega) (fun i _ hi => hx.2 i hi)).symm
    · refine ⟨x + 1, ⟨by omega, fun i hi => ?_⟩, by simp only [PLoop.of, lIndex]; omega, ?_⟩
      · by_cases e : i = x
        · subst e; simpa [eqA] using h
        · exact hx.2 i (by omega)
      · simp [wrS hlt hn]
  · have hlt : ¬ x < n := by simpa using hlt
    exact (findF_none (p := eqA g1 g2 g3 g4 a b c w) n 0 (fun i _ hi => hx.2 i (by omega))).symm
theorem v44_eq (n : Nat) (g1 g2 g3 : Nat → Int) (g4 : Nat → Bool) (a b c : Int) (w : Bool) : (fnVc (tabA [(45, fIx fun n p => .i .i64 (findI n p))] []) Tryd.f44 [.sl 0 n, .agg [.i .i64 a, .i .i64 b, .i .i64 c, .b w]] [.arr n [.int .i64 g1, .int .i64 g2, .int .i64 g3, .bool g4]] (plainIs (.b (decide (findI n (eqA g1 g2 g3 g4 a b c w) ≥ 0))))) = (n = n ∧
  n ≤ 9223372036854775807 ∧
    decide (findI n (eqA g1 g2 g3 g4 a b c w) ≥ 0) = decide (findI n (eqA g1 g2 g3 g4 a b c w) ≥ 0)) := by kernel_rfl
theorem v44 (n : Nat) (g1 g2 g3 : Nat → Int) (g4 : Nat → Bool) (a b c : Int) (w : Bool) (hn : n ≤ 9223372036854775807) : fnVc (tabA [(45, fIx fun n p => .i .i64 (findI n p))] []) Tryd.f44 [.sl 0 n, .agg [.i .i64 a, .i .i64 b, .i .i64 c, .b w]] [.arr n [.int .i64 g1, .int .i64 g2, .int .i64 g3, .bool g4]] (plainIs (.b (decide (findI n (eqA g1 g2 g3 g4 a b c w) ≥ 0)))) := by
  rw [v44_eq]
  exact ⟨rfl, hn, rfl⟩
theorem v24_eq (n k : Nat) (g1 g2 g3 : Nat → Int) (g4 : Nat → Bool) (h1 h2 h3 : Nat → Int) (h4 : Nat → Bool) : (fnVc (tabA [] [(0, .of (lSame n (eqAt g1 g2 g3 g4 h1 h2 h3 h4)))]) Tryd.f24 [.sl 0 n, .sl 1 k] [.arr n [.int .i64 g1, .int .i64 g2, .int .i64 g3, .bool g4], .arr k [.int .i64 h1, .int .i64 h2, .int .i64 h3, .bool h4]] (plainIs (.b (decide (n = k) && allN n (eqAt g1 g2 g3 g4 h1 h2 h3 h4))))) = ((((↑n : Int) != (↑k : Int)) = true → false = (decide (n = k) && allN n (eqAt g1 g2 g3 g4 h1 h2 h3 h4))) ∧
  (((↑n : Int) != (↑k : Int)) = false →
    ∃ (x : PUnit),
      (∃ (x : Nat),
          (x ≤ n ∧ ∀ (i : Nat), i < x → eqAt g1 g2 g3 g4 h1 h2 h3 h4 i = true) ∧ (0 = (↑x : Int) ∧ True) ∧ True) ∧
        ∀ (x_1 : Nat),
          (x_1 ≤ n ∧ ∀ (i : Nat), i < x_1 → eqAt g1 g2 g3 g4 h1 h2 h3 h4 i = true) →
            (decide ((↑x_1 : Int) < (↑n : Int)) = true →
                (0 ≤ (↑x_1 : Int) ∧ (↑x_1 : Int) < (↑n : Int)) ∧
                  x_1 < n ∧
                    (0 ≤ (↑x_1 : Int) ∧ (↑x_1 : Int) < (↑k : Int)) ∧
                      x_1 < k ∧
                        ((!(g1 x_1 == h1 x_1 && (g2 x_1 == h2 x_1 && (g3 x_1 == h3 x_1 && g4 x_1 == h4 x_1)))) = true →
                            false = (decide (n = k) && allN n (eqAt g1 g2 g3 g4 h1 h2 h3 h4))) ∧
                          ((!(g1 x_1 == h1 x_1 && (g2 x_1 == h2 x_1 && (g3 x_1 == h3 x_1 && g4 x_1 == h4 x_1)))) =
                              false →
                            ∃ (x_2 : Nat),
                              (x_2 ≤ n ∧ ∀ (i : Nat), i < x_2 → eqAt g1 g2 g3 g4 h1 h2 h3 h4 i = true) ∧
                                ((PLoop.of (lSame n (eqAt g1 g2 g3 g4 h1 h2 h3 h4))).ann x).mu x_2 <
                                    ((PLoop.of (lSame n (eqAt g1 g2 g3 g4 h1 h2 h3 h4))).ann x).mu x_1 ∧
                                  (n = n ∧
                                      k = k ∧
                                        IntKind.i64.wrap ((↑x_1 : Int) + 1) = (↑x_2 : Int) ∧
                                          n = n ∧
                                            (↑n : Int) = (↑n : Int) ∧
                                              k = k ∧ (↑k : Int) = (↑k : Int) ∧ false = false ∧ True) ∧
                                    (n = n ∧
                                        (∀ (j : Nat), j < n → g1 j = g1 j) ∧
                                          (∀ (j : Nat), j < n → g2 j = g2 j) ∧
                                            (∀ (j : Nat), j < n → g3 j = g3 j) ∧
                                              (∀ (j : Nat), j < n → g4 j = g4 j) ∧ True) ∧
                                      (k = k ∧
                                          (∀ (j : Nat), j < k → h1 j = h1 j) ∧
                                            (∀ (j : Nat), j < k → h2 j = h2 j) ∧
                                              (∀ (j : Nat), j < k → h3 j = h3 j) ∧
                                                (∀ (j : Nat), j < k → h4 j = h4 j) ∧ True) ∧
                                        True)) ∧
              (decide ((↑x_1 : Int) < (↑n : Int)) = false →
                true = (decide (n = k) && allN n (eqAt g1 g2 g3 g4 h1 h2 h3 h4))))) := by kernel_rfl
theorem v24 (n k : Nat) (g1 g2 g3 : Nat → Int) (g4 : Nat → Bool) (h1 h2 h3 : Nat → Int) (h4 : Nat → Bool) (hn : n ≤ 9223372036854775807) : fnVc (tabA [] [(0, .of (lSame n (eqAt g1 g2 g3 g4 h1 h2 h3 h4)))]) Tryd.f24 [.sl 0 n, .sl 1 k] [.arr n [.int .i64 g1, .int .i64 g2, .int .i64 g3, .bool g4], .arr k [.int .i64 h1, .int .i64 h2, .int .i64 h3, .bool h4]] (plainIs (.b (decide (n = k) && allN n (eqAt g1 g2 g3 g4 h1 h2 h3 h4)))) := by
  rw [v24_eq]
  refine ⟨fun h => ?_, fun h => ⟨(), ⟨0, ⟨by omega, fun i hi => by omega⟩, ⟨rfl, trivial⟩, trivial⟩, fun x hx => ⟨fun hlt => ?_, fun hlt => ?_⟩⟩⟩
  · have : n ≠ k := by have h2 : ¬ (n : Int) = (k : Int) := by simpa using h
                       omega
    simp [this]
  · have hlt : x < n := by simpa using hlt
    have hk : n = k := by have h2 : (n : Int) = (k : Int) := by simpa using h
                          omega
    refine ⟨by omega, by simpa using hlt, by omega, by omega, fun h => ?_, fun h => ?_⟩
    · have hx1 : eqAt g1 g2 g3 g4 h1 h2 h3 h4 x = false := by simp only [eqAt]; simpa only [Bool.not_eq_true'] using h
      have : allN n (eqAt g1 g2 g3 g4 h1 h2 h3 h4) ≠ true := fun ha => by rw [allN_iff.1 ha x hlt] at hx1; cases hx1
      simp [this]
    · refine ⟨x + 1, ⟨by omega, fun i hi => ?_⟩, by (try simp only [PLoop.of, lSame]); omega, ?_⟩
      · by_cases e : i = x
        · subst e; simpa [eqAt] using h
        · exact hx.2 i (by omega)
      · simp [wrS hlt hn]
  · have hlt : ¬ x < n := by simpa using hlt
    have hk : n = k := by have h2 : (n : Int) = (k : Int) := by simpa using h
                          omega
    have : allN n (eqAt g1 g2 g3 g4 h1 h2 h3 h4) = true := allN_iff.2 fun i hi => hx.2 i (by omega)
    simp [hk, this]
    rw [← hk]
    exact this
theorem v21_eq (e : Ev) : (fnVc (tabG cA []) Tryd.f21 [evSV e] [tbl] (arrIs 39 (accV e).length (colsA (accV e)))) = (nth
      (app
        (app
          (app [tbl]
            [MBlk.cells
                [SV.i IntKind.i64 e.ag, SV.i IntKind.i64 e.ix, SV.i IntKind.i64 e.k, SV.i IntKind.i64 e.ob,
                  SV.i IntKind.i64 e.mu, SV.i IntKind.i64 e.en, SV.i IntKind.i64 e.od, SV.i IntKind.i64 e.rd,
                  SV.i IntKind.i64 e.wr]])
          [MBlk.oarr 39 0 (copies 4 Col.any)])
        [])
      0 =
    some tbl ∧
  True ∧
    ((!validE
              { ag := e.ag, ix := e.ix, k := e.k, ob := e.ob, mu := e.mu, en := e.en, od := e.od, rd := e.rd,
                wr := e.wr }) =
          true →
        0 = 0 ∧ 0 = (accV e).length ∧ 0 = 0 ∧ 0 = 0 ∧ 0 = 0 ∧ 0 = 0 ∧ True) ∧
      ((!validE
              { ag := e.ag, ix := e.ix, k := e.k, ob := e.ob, mu := e.mu, en := e.en, od := e.od, rd := e.rd,
                wr := e.wr }) =
          false →
        nth
              (app
                (app
                  (app
                    (app
                      (app
                        (app [tbl]
                          [MBlk.cells
                              [SV.i IntKind.i64 e.ag, SV.i IntKind.i64 e.ix, SV.i IntKind.i64 e.k,
                                SV.i IntKind.i64 e.ob, SV.i IntKind.i64 e.mu, SV.i IntKind.i64 e.en,
                                SV.i IntKind.i64 e.od, SV.i IntKind.i64 e.rd, SV.i IntKind.i64 e.wr]])
                        [MBlk.oarr 39 0 (copies 4 Col.any)])
                      [])
                    [])
                  [])
                [])
              0 =
            some tbl ∧
          validE
                { ag := e.ag, ix := e.ix, k := e.k, ob := e.ob, mu := e.mu, en := e.en, od := e.od, rd := e.rd,
                  wr := e.wr } =
              true ∧
            (acc
                    { ag := e.ag, ix := e.ix, k := e.k, ob := e.ob, mu := e.mu, en := e.en, od := e.od, rd := e.rd,
                      wr := e.wr }).length =
                (acc
                    { ag := e.ag, ix := e.ix, k := e.k, ob := e.ob, mu := e.mu, en := e.en, od := e.od, rd := e.rd,
                      wr := e.wr }).length ∧
              (acc
                      { ag := e.ag, ix := e.ix, k := e.k, ob := e.ob, mu := e.mu, en := e.en, od := e.od, rd := e.rd,
                        wr := e.wr }).length =
                  (accV e).length ∧
                (∀ (j : Nat),
                    j <
                        (acc
                            { ag := e.ag, ix := e.ix, k := e.k, ob := e.ob, mu := e.mu, en := e.en, od := e.od,
                              rd := e.rd, wr := e.wr }).length →
                      cK
                          (acc
                            { ag := e.ag, ix := e.ix, k := e.k, ob := e.ob, mu := e.mu, en := e.en, od := e.od,
                              rd := e.rd, wr := e.wr })
                          j =
                        cK (accV e) j) ∧
                  (∀ (j : Nat),
                      j <
                          (acc
                              { ag := e.ag, ix := e.ix, k := e.k, ob := e.ob, mu := e.mu, en := e.en, od := e.od,
                                rd := e.rd, wr := e.wr }).length →
                        cI
                            (acc
                              { ag := e.ag, ix := e.ix, k := e.k, ob := e.ob, mu := e.mu, en := e.en, od := e.od,
                                rd := e.rd, wr := e.wr })
                            j =
                          cI (accV e) j) ∧
                    (∀ (j : Nat),
                        j <
                            (acc
                                { ag := e.ag, ix := e.ix, k := e.k, ob := e.ob, mu := e.mu, en := e.en, od := e.od,
                                  rd := e.rd, wr := e.wr }).length →
                          cS
                              (acc
                                { ag := e.ag, ix := e.ix, k := e.k, ob := e.ob, mu := e.mu, en := e.en, od := e.od,
                                  rd := e.rd, wr := e.wr })
                              j =
                            cS (accV e) j) ∧
                      (∀ (j : Nat),
                          j <
                              (acc
                                  { ag := e.ag, ix := e.ix, k := e.k, ob := e.ob, mu := e.mu, en := e.en, od := e.od,
                                    rd := e.rd, wr := e.wr }).length →
                            cW
                                (acc
                                  { ag := e.ag, ix := e.ix, k := e.k, ob := e.ob, mu := e.mu, en := e.en, od := e.od,
                                    rd := e.rd, wr := e.wr })
                                j =
                              cW (accV e) j) ∧
                        True)) := by kernel_rfl
theorem v21 (e : Ev)  : fnVc (tabG cA []) Tryd.f21 [evSV e] [tbl] (arrIs 39 (accV e).length (colsA (accV e))) := by
  rw [v21_eq]
  simp only [app, nth, List.cons_append, List.nil_append, List.append_nil, implies_true, true_and, and_true, if_true]
  refine ⟨fun h => ?_, fun h => ?_⟩
  · have hv : validE e = false := by simpa using h
    simp [accV, hv]
  · have hv : validE e = true := by simpa using h
    simp [accV, hv]
end Go.Proofs.YtbhopcgbdofcjaaDoor
