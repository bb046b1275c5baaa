/-
  A part of the proof (Cl11).
-/
import Derived.Test.YthdmdlipifpbhaaClSt
namespace Go.Proofs.Ythdmdlipifpbhaa
open Go Go.Proofs.Ythdmdlipifpbhaa.Sx
set_option maxRecDepth 100000
set_option linter.unusedSimpArgs false
set_option linter.unusedVariables false
def cs6 (ag fr : List Int) (L : List (List Tk)) (e : Int) : Calling := [(9, fLv), (14, fC2 (fun a _ => L40 a) fun a b => .b (sameL a b)), (25, nSt ag fr L e), (26, nSt ag fr L e)]
theorem mcSS (ag fr : List Int) (L : List (List Tk)) (e : Int) : ∀ p ∈ cs6 ag fr L e, CallOk Try.prog [] p.1 p.2 := mOne c9 (mOne c14 (mOne (okSt c25) (mOne (okSt c26) mNil)))
theorem st_rows {ag fr : List Int} {L : List (List Tk)} {e : Int} (hs : stampsR ag fr = (L, e)) : ∀ i, i < L.length → L.length ≤ 512 ∧ (nthC L i).length ≤ 512 := by
  intro i hi
  unfold stampsR at hs
  cases h1 : decide (ag.length = fr.length)
  · rw [h1, cond_false] at hs
    simp only [Prod.mk.injEq] at hs
    rw [← hs.1] at hi
    simp at hi
  cases h2 : decide (ag.length ≤ 512)
  · rw [h1, h2, cond_true, cond_false] at hs
    simp only [Prod.mk.injEq] at hs
    rw [← hs.1] at hi
    simp at hi
  cases h3 : frOk fr
  · rw [h1, h2, h3, cond_true, cond_true, cond_false] at hs
    simp only [Prod.mk.injEq] at hs
    rw [← hs.1] at hi
    simp at hi
  rw [h1, h2, h3, cond_true, cond_true, cond_true] at hs
  simp only [Prod.mk.injEq] at hs
  obtain ⟨rfl, _⟩ := hs
  have h1 := of_decide_eq_true h1
  have h2 := of_decide_eq_true h2
  rw [stL_len] at hi
  obtain ⟨g, _⟩ := st_good (ag := ag) (allN_iff.1 h3) ag.length (by omega) (by omega)
  have := (g i hi).len
  rw [stL_len]
  omega
theorem v6_eq (ag fr : List Int) (L : List (List Tk)) (e : Int) : (fnVc (tab (cs6 ag fr L e) [(0, .of (lFr fr 7)), (2, .of (lIx L.length 10))]) Try.f6 [.sl 0 ag.length, .sl 1 fr.length] [intArr ag, intArr fr] (plainIs .tt)) = (((decide ((↑ag.length : Int) > (600 : Int)) || decide ((↑fr.length : Int) > (600 : Int))) = true → true = true) ∧
 ((decide ((↑ag.length : Int) > (600 : Int)) || decide ((↑fr.length : Int) > (600 : Int))) = false →
 ag.length = ag.length ∧
 fr.length = fr.length ∧
 mkI ag.length (inF ag) = ag ∧
 mkI fr.length (inF fr) = fr ∧
 ag.length ≤ (1099511627776 : Nat) ∧
 fr.length ≤ (1099511627776 : Nat) ∧
 stampsR ag fr = (L, e) ∧
 ((decide ((↑ag.length : Int) > (60 : Int)) && decide ((↑ag.length : Int) ≤ (512 : Int)) &&
 (↑ag.length : Int) == (↑fr.length : Int)) =
 true →
 ∃ (x : PUnit),
 (∃ (x : Nat),
 (x ≤ fr.length ∧ ∀ (i' : Nat), i' < x → okFr fr i' = true) ∧
 ((0 : Int) = (↑x : Int) ∧ True) ∧ True) ∧
 ∀ (x_1 : Nat),
 (x_1 ≤ fr.length ∧ ∀ (i' : Nat), i' < x_1 → okFr fr i' = true) →
 (decide ((↑x_1 : Int) < (↑fr.length : Int)) = true →
 ((0 : Int) ≤ (↑x_1 : Int) ∧ (↑x_1 : Int) < (↑fr.length : Int)) ∧
 x_1 < fr.length ∧
 (decide (inF fr x_1 < (-1 : Int)) = false →
 (0 : Int) ≤ (↑x_1 : Int) ∧ (↑x_1 : Int) < (↑fr.length : Int)) ∧
 (decide (inF fr x_1 < (-1 : Int)) = false → x_1 < fr.length) ∧
 ((decide (inF fr x_1 < (-1 : Int)) || decide (inF fr x_1 ≥ (↑x_1 : Int))) =
 true →
 (e == (1 : Int) || false) = true) ∧
 ((decide (inF fr x_1 < (-1 : Int)) || decide (inF fr x_1 ≥ (↑x_1 : Int))) =
 false →
 ∃ (x_2 : Nat),
 (x_2 ≤ fr.length ∧ ∀ (i' : Nat), i' < x_2 → okFr fr i' = true) ∧
 ((PLoop.of (lFr fr (7 : Nat))).ann x).mu x_2 <
 ((PLoop.of (lFr fr (7 : Nat))).ann x).mu x_1 ∧
 (ag.length = ag.length ∧
 fr.length = fr.length ∧
 L.length = L.length ∧
 e = e ∧
 IntKind.i64.wrap ((↑x_1 : Int) + (1 : Int)) =
 (↑x_2 : Int) ∧
 ag.length = ag.length ∧
 (↑ag.length : Int) = (↑ag.length : Int) ∧
 decide ((↑ag.length : Int) > (600 : Int)) =
 decide ((↑ag.length : Int) > (600 : Int)) ∧
 decide ((↑ag.length : Int) > (600 : Int)) =
 decide ((↑ag.length : Int) > (600 : Int)) ∧
 false = false ∧
 (L.length = L.length ∧ e = e) ∧
 ag.length = ag.length ∧
 fr.length = fr.length ∧
 (L.length = L.length ∧ e = e) ∧
 L.length = L.length ∧
 e = e ∧
 ag.length = ag.length ∧
 (↑ag.length : Int) =
 (↑ag.length : Int) ∧
 decide
 ((↑ag.length : Int) >
 (60 : Int)) =
 decide
 ((↑ag.length : Int) >
 (60 : Int)) ∧
 decide
 ((↑ag.length : Int) >
 (60 : Int)) =
 decide
 ((↑ag.length : Int) >
 (60 : Int)) ∧
 (decide
 ((↑ag.length :
 Int) >
 (60 : Int)) &&
 decide
 ((↑ag.length :
 Int) ≤
 (512 : Int))) =
 (decide
 ((↑ag.length :
 Int) >
 (60 : Int)) &&
 decide
 ((↑ag.length :
 Int) ≤
 (512 : Int))) ∧
 (decide
 ((↑ag.length :
 Int) >
 (60 : Int)) &&
 decide
 ((↑ag.length :
 Int) ≤
 (512 :
 Int))) =
 (decide
 ((↑ag.length :
 Int) >
 (60 : Int)) &&
 decide
 ((↑ag.length :
 Int) ≤
 (512 :
 Int))) ∧
 true = true ∧ True) ∧
 (ag.length = ag.length ∧
 (∀ (j : Nat), j < ag.length → inF ag j = inF ag j) ∧ True) ∧
 (fr.length = fr.length ∧
 (∀ (j : Nat), j < fr.length → inF fr j = inF fr j) ∧ True) ∧
 (L.length = L.length ∧
 ((∀ (j : Nat),
 j < L.length →
 (nthC L j).length = (nthC L j).length) ∧
 (∀ (j : Nat),
 j < L.length →
 ∀ (i : Nat),
 i < (nthC L j).length →
 agF (nthC L j) i = agF (nthC L j) i) ∧
 (∀ (j : Nat),
 j < L.length →
 ∀ (i : Nat),
 i < (nthC L j).length →
 ctF (nthC L j) i = ctF (nthC L j) i) ∧
 True) ∧
 True) ∧
 True)) ∧
 (decide ((↑x_1 : Int) < (↑fr.length : Int)) = false →
 (e == (0 : Int) && (↑L.length : Int) == (↑ag.length : Int) || false) = true)) ∧
 ((decide ((↑ag.length : Int) > (60 : Int)) && decide ((↑ag.length : Int) ≤ (512 : Int)) &&
 (↑ag.length : Int) == (↑fr.length : Int)) =
 false →
 ag.length = ag.length ∧
 fr.length = fr.length ∧
 mkI ag.length (inF ag) = ag ∧
 mkI fr.length (inF fr) = fr ∧
 ag.length ≤ (1099511627776 : Nat) ∧
 fr.length ≤ (1099511627776 : Nat) ∧
 stampsR ag fr = (L, e) ∧
 ((e != e || (↑L.length : Int) != (↑L.length : Int)) = true → false = true) ∧
 ((e != e || (↑L.length : Int) != (↑L.length : Int)) = false →
 ∃ (x : PUnit),
 (∃ (x : Nat), x ≤ L.length ∧ ((0 : Int) = (↑x : Int) ∧ True) ∧ True) ∧
 ∀ (x_1 : Nat),
 x_1 ≤ L.length →
 (decide ((↑x_1 : Int) < (↑L.length : Int)) = true →
 ((0 : Int) ≤ (↑x_1 : Int) ∧ (↑x_1 : Int) < (↑L.length : Int)) ∧
 x_1 < L.length ∧
 ((0 : Int) ≤ (↑x_1 : Int) ∧ (↑x_1 : Int) < (↑L.length : Int)) ∧
 x_1 < L.length ∧
 (nthC L x_1).length = (nthC L x_1).length ∧
 (nthC L x_1).length = (nthC L x_1).length ∧
 (mkL (nthC L x_1).length (agF (nthC L x_1))
 (ctF (nthC L x_1))).length ≤
 (1099511627776 : Nat) ∧
 ((!sameL
 (mkL (nthC L x_1).length (agF (nthC L x_1))
 (ctF (nthC L x_1)))
 (mkL (nthC L x_1).length (agF (nthC L x_1))
 (ctF (nthC L x_1)))) =
 true →
 false = true) ∧
 ((!sameL
 (mkL (nthC L x_1).length (agF (nthC L x_1))
 (ctF (nthC L x_1)))
 (mkL (nthC L x_1).length (agF (nthC L x_1))
 (ctF (nthC L x_1)))) =
 false →
 ∃ (x_2 : Nat),
 x_2 ≤ L.length ∧
 ((PLoop.of (lIx L.length (10 : Nat))).ann
 x).mu
 x_2 <
 ((PLoop.of (lIx L.length (10 : Nat))).ann
 x).mu
 x_1 ∧
 (ag.length = ag.length ∧
 fr.length = fr.length ∧
 L.length = L.length ∧
 e = e ∧
 L.length = L.length ∧
 e = e ∧
 IntKind.i64.wrap
 ((↑x_1 : Int) +
 (1 : Int)) =
 (↑x_2 : Int) ∧
 ag.length = ag.length ∧
 (↑ag.length : Int) =
 (↑ag.length : Int) ∧
 decide
 ((↑ag.length :
 Int) >
 (600 : Int)) =
 decide
 ((↑ag.length :
 Int) >
 (600 : Int)) ∧
 decide
 ((↑ag.length :
 Int) >
 (600 : Int)) =
 decide
 ((↑ag.length :
 Int) >
 (600 : Int)) ∧
 false = false ∧
 (L.length =
 L.length ∧
 e = e) ∧
 ag.length =
 ag.length ∧
 fr.length =
 fr.length ∧
 (L.length =
 L.length ∧
 e = e) ∧
 L.length =
 L.length ∧
 e = e ∧
 ag.length =
 ag.length ∧
 (↑ag.length :
 Int) =
 (↑ag.length :
 Int) ∧
 decide
 ((↑ag.length :
 Int) >
 (60 :
 Int)) =
 decide
 ((↑ag.length :
 Int) >
 (60 :
 Int)) ∧
 decide
 ((↑ag.length :
 Int) >
 (60 :
 Int)) =
 decide
 ((↑ag.length :
 Int) >
 (60 :
 Int)) ∧
 (decide
 ((↑ag.length :
 Int) >
 (60 :
 Int)) &&
 decide
 ((↑ag.length :
 Int) ≤
 (512 :
 Int))) =
 (decide
 ((↑ag.length :
 Int) >
 (60 :
 Int)) &&
 decide
 ((↑ag.length :
 Int) ≤
 (512 :
 Int))) ∧
 (decide
 ((↑ag.length :
 Int) >
 (60 :
 Int)) &&
 decide
 ((↑ag.length :
 Int) ≤
 (512 :
 Int))) =
 (decide
 ((↑ag.length :
 Int) >
 (60 :
 Int)) &&
 decide
 ((↑ag.length :
 Int) ≤
 (512 :
 Int))) ∧
 false =
 false ∧
 (L.length =
 L.length ∧
 e =
 e) ∧
 ag.length =
 ag.length ∧
 fr.length =
 fr.length ∧
 (L.length =
 L.length ∧
 e =
 e) ∧
 L.length =
 L.length ∧
 e =
 e ∧
 e =
 e ∧
 e =
 e ∧
 (e !=
 e) =
 (e !=
 e) ∧
 (e !=
 e) =
 (e !=
 e) ∧
 false =
 false ∧
 True) ∧
 (ag.length = ag.length ∧
 (∀ (j : Nat),
 j < ag.length →
 inF ag j = inF ag j) ∧
 True) ∧
 (fr.length = fr.length ∧
 (∀ (j : Nat),
 j < fr.length →
 inF fr j = inF fr j) ∧
 True) ∧
 (L.length = L.length ∧
 ((∀ (j : Nat),
 j < L.length →
 (nthC L j).length =
 (nthC L j).length) ∧
 (∀ (j : Nat),
 j < L.length →
 ∀ (i : Nat),
 i <
 (nthC L
 j).length →
 agF (nthC L j) i =
 agF (nthC L j)
 i) ∧
 (∀ (j : Nat),
 j < L.length →
 ∀ (i : Nat),
 i <
 (nthC L
 j).length →
 ctF (nthC L j) i =
 ctF (nthC L j)
 i) ∧
 True) ∧
 True) ∧
 (L.length = L.length ∧
 ((∀ (j : Nat),
 j < L.length →
 (nthC L j).length =
 (nthC L j).length) ∧
 (∀ (j : Nat),
 j < L.length →
 ∀ (i : Nat),
 i <
 (nthC L
 j).length →
 agF (nthC L j) i =
 agF (nthC L j)
 i) ∧
 (∀ (j : Nat),
 j < L.length →
 ∀ (i : Nat),
 i <
 (nthC L
 j).length →
 ctF (nthC L j)
 i =
 ctF (nthC L j)
 i) ∧
 True) ∧
 True) ∧
 True)) ∧
 (decide ((↑x_1 : Int) < (↑L.length : Int)) = false → true = true))))) := by kernel_rfl
theorem v6 (ag fr : List Int) (L : List (List Tk)) (e : Int) (hs : stampsR ag fr = (L, e)) : fnVc (tab (cs6 ag fr L e) [(0, .of (lFr fr 7)), (2, .of (lIx L.length 10))]) Try.f6 [.sl 0 ag.length, .sl 1 fr.length] [intArr ag, intArr fr] (plainIs .tt) := by
  rw [v6_eq]
  simp only [mkL_self, mkI_self, eq_self, true_and, and_true, implies_true, imp_self, hs]
  intro hd
  simp only [Bool.or_eq_false_iff, decide_eq_false_iff_not] at hd
  have hA : ag.length ≤ 1099511627776 := by omega
  have hB : fr.length ≤ 1099511627776 := by omega
  have hL := st_rows hs
  refine ⟨hA, hB, fun hc => ?_, fun _ => ⟨hA, hB, fun h => by simp at h, fun _ => ⟨⟨⟩, ⟨0, Nat.zero_le _, rfl⟩, fun i hi hlt => ?_⟩⟩⟩
  · have h1 : ag.length = fr.length := by simp at hc; omega
    have h2 : ag.length ≤ 512 := by simp at hc; omega
    refine ⟨⟨⟩, ⟨0, ⟨Nat.zero_le _, fun i hi => by omega⟩, rfl⟩, fun y hy => ⟨fun hlt => ?_, fun hlt => ?_⟩⟩
    · have hlt : y < fr.length := by simpa using hlt
      refine ⟨⟨by omega, by omega⟩, hlt, (fun _ => ⟨by omega, by omega⟩), (fun _ => hlt), fun hb => ?_, fun hb => ⟨y + 1, ⟨by omega, lt_step (p := okFr fr) hy.2 (by simp only [okFr, hb]; rfl)⟩, mu_of (by simp only [lFr]; omega), wrS hlt hB⟩⟩
      have hno : frOk fr = false := allN_no hlt (by simp only [okFr, hb]; rfl)
      have e1 : stampsR ag fr = ([], 1) := by
        unfold stampsR
        rw [decide_eq_true h1, decide_eq_true h2, hno]
        rfl
      rw [e1] at hs
      simp only [Prod.mk.injEq] at hs
      rw [← hs.2]
      rfl
    · have hlt : ¬ y < fr.length := by simpa using hlt
      have hfr : ∀ i, i < fr.length → okFr fr i = true := fun i hi => hy.2 i (by omega)
      have e1 : stampsR ag fr = (stL ag fr ag.length, 0) := by
        unfold stampsR
        rw [decide_eq_true h1, decide_eq_true h2, show frOk fr = true from allN_iff.2 hfr]
        rfl
      rw [e1] at hs
      simp only [Prod.mk.injEq] at hs
      rw [← hs.2, ← hs.1, stL_len]
      simp
  · have hlt : i < L.length := by simpa using hlt
    obtain ⟨hl5, hn⟩ := hL i hlt
    refine ⟨⟨by omega, by omega⟩, hlt, ⟨by omega, by omega⟩, hlt, by omega, fun h => by simp [same_iff.2] at h, fun _ => ⟨i + 1, by omega, mu_of (by simp only [lIx]; omega), wrS (n := L.length) hlt (by omega)⟩⟩
end Go.Proofs.Ythdmdlipifpbhaa
