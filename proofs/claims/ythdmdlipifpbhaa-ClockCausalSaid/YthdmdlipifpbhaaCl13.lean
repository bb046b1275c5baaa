/-
  A part of the proof (Cl13).
-/
import Derived.Test.YthdmdlipifpbhaaCl11
import Derived.Test.YthdmdlipifpbhaaCl12
namespace Go.Proofs.Ythdmdlipifpbhaa
open Go Go.Proofs.Ythdmdlipifpbhaa.Sx
set_option maxRecDepth 100000
set_option linter.unusedSimpArgs false
set_option linter.unusedVariables false
def cs8 (ag fr : List Int) (L : List (List Tk)) (e : Int) : Calling := [(9, fLv), (21, fC2 (fun a b => L40 a ∧ L40 b) fun a b => .b (lessL a b)), (25, nSt ag fr L e), (27, nRch ag fr)]
theorem mcCa (ag fr : List Int) (L : List (List Tk)) (e : Int) : ∀ p ∈ cs8 ag fr L e, CallOk Try.prog [] p.1 p.2 := mOne c9 (mOne c21 (mOne (okSt c25) (mOne (c27 ag fr) mNil)))
theorem v8_eq (ag fr : List Int) (L : List (List Tk)) (e : Int) : (fnVc (tab (cs8 ag fr L e) [(0, .of (lFr fr 7)), (2, .of (lIx L.length 8)), (4, .of (lIx L.length 10))]) Try.f8 [.sl 0 ag.length, .sl 1 fr.length] [intArr ag, intArr fr] (plainIs .tt)) = (((decide ((↑ag.length : Int) > (30 : Int)) || (↑fr.length : Int) != (↑ag.length : Int)) = true → true = true) ∧
 ((decide ((↑ag.length : Int) > (30 : Int)) || (↑fr.length : Int) != (↑ag.length : Int)) = false →
 ag.length = ag.length ∧
 fr.length = fr.length ∧
 mkI ag.length (inF ag) = ag ∧
 mkI fr.length (inF fr) = fr ∧
 ag.length ≤ (1099511627776 : Nat) ∧
 fr.length ≤ (1099511627776 : Nat) ∧
 stampsR ag fr = (L, e) ∧
 ∃ (x : PUnit),
 (∃ (x : Nat),
 (x ≤ fr.length ∧ ∀ (i' : Nat), i' < x → okFr fr i' = true) ∧
 ((0 : Int) = (↑x : Int) ∧ True) ∧ True) ∧
 ∀ (x_1 : Nat),
 (x_1 ≤ fr.length ∧ ∀ (i' : Nat), i' < x_1 → okFr fr i' = true) →
 (decide ((↑x_1 : Int) < (↑fr.length : Int)) = true →
 ((0 : Int) ≤ (↑x_1 : Int) ∧ (↑x_1 : Int) < (↑fr.length : Int)) ∧
 x_1 < fr.length ∧
 (decide (inF fr x_1 < (-1 : Int)) = false →
 (0 : Int) ≤ (↑x_1 : Int) ∧ (↑x_1 : Int) < (↑fr.length : Int)) ∧
 (decide (inF fr x_1 < (-1 : Int)) = false → x_1 < fr.length) ∧
 ((decide (inF fr x_1 < (-1 : Int)) || decide (inF fr x_1 ≥ (↑x_1 : Int))) = true →
 (e == (1 : Int) && (↑L.length : Int) == (0 : Int) || false) = true) ∧
 ((decide (inF fr x_1 < (-1 : Int)) || decide (inF fr x_1 ≥ (↑x_1 : Int))) =
 false →
 ∃ (x_2 : Nat),
 (x_2 ≤ fr.length ∧ ∀ (i' : Nat), i' < x_2 → okFr fr i' = true) ∧
 ((PLoop.of (lFr fr (7 : Nat))).ann x).mu x_2 <
 ((PLoop.of (lFr fr (7 : Nat))).ann x).mu x_1 ∧
 (ag.length = ag.length ∧
 fr.length = fr.length ∧
 L.length = L.length ∧
 e = e ∧
 IntKind.i64.wrap ((↑x_1 : Int) + (1 : Int)) = (↑x_2 : Int) ∧
 ag.length = ag.length ∧
 (↑ag.length : Int) = (↑ag.length : Int) ∧
 decide ((↑ag.length : Int) > (30 : Int)) =
 decide ((↑ag.length : Int) > (30 : Int)) ∧
 decide ((↑ag.length : Int) > (30 : Int)) =
 decide ((↑ag.length : Int) > (30 : Int)) ∧
 false = false ∧
 (L.length = L.length ∧ e = e) ∧
 ag.length = ag.length ∧
 fr.length = fr.length ∧
 (L.length = L.length ∧ e = e) ∧
 L.length = L.length ∧ e = e ∧ True) ∧
 (ag.length = ag.length ∧
 (∀ (j : Nat), j < ag.length → inF ag j = inF ag j) ∧ True) ∧
 (fr.length = fr.length ∧
 (∀ (j : Nat), j < fr.length → inF fr j = inF fr j) ∧ True) ∧
 (L.length = L.length ∧
 ((∀ (j : Nat),
 j < L.length → (nthC L j).length = (nthC L j).length) ∧
 (∀ (j : Nat),
 j < L.length →
 ∀ (i : Nat),
 i < (nthC L j).length →
 agF (nthC L j) i = agF (nthC L j) i) ∧
 (∀ (j : Nat),
 j < L.length →
 ∀ (i : Nat),
 i < (nthC L j).length →
 ctF (nthC L j) i = ctF (nthC L j) i) ∧
 True) ∧
 True) ∧
 True)) ∧
 (decide ((↑x_1 : Int) < (↑fr.length : Int)) = false →
 ((e != (0 : Int) || (↑L.length : Int) != (↑ag.length : Int)) = true → false = true) ∧
 ((e != (0 : Int) || (↑L.length : Int) != (↑ag.length : Int)) = false →
 ∃ (x : PUnit),
 (∃ (x : Nat), x ≤ L.length ∧ ((0 : Int) = (↑x : Int) ∧ True) ∧ True) ∧
 ∀ (x_2 : Nat),
 x_2 ≤ L.length →
 (decide ((↑x_2 : Int) < (↑L.length : Int)) = true →
 ag.length = ag.length ∧
 fr.length = fr.length ∧
 mkI ag.length (inF ag) = ag ∧
 mkI fr.length (inF fr) = fr ∧
 ag.length ≤ (1099511627776 : Nat) ∧
 ag.length = fr.length ∧
 (0 : Int) ≤ (↑x_2 : Int) ∧
 (↑x_2 : Int) ≤ (↑ag.length : Int) ∧
 ∃ (x_3 : PUnit),
 (∃ (x : Nat),
 x ≤ L.length ∧
 ((0 : Int) = (↑x : Int) ∧ True) ∧ True) ∧
 ∀ (x_4 : Nat),
 x_4 ≤ L.length →
 (decide ((↑x_4 : Int) < (↑L.length : Int)) =
 true →
 ((0 : Int) ≤ (↑x_2 : Int) ∧
 (↑x_2 : Int) < (↑L.length : Int)) ∧
 x_2 < L.length ∧
 ((0 : Int) ≤ (↑x_4 : Int) ∧
 (↑x_4 : Int) < (↑L.length : Int)) ∧
 x_4 < L.length ∧
 (nthC L x_2).length =
 (nthC L x_2).length ∧
 (nthC L x_4).length =
 (nthC L x_4).length ∧
 ((mkL (nthC L x_2).length
 (agF (nthC L x_2))
 (ctF
 (nthC L
 x_2))).length ≤
 (1099511627776 : Nat) ∧
 (mkL (nthC L x_4).length
 (agF (nthC L x_4))
 (ctF
 (nthC L
 x_4))).length ≤
 (1099511627776 : Nat)) ∧
 ((0 : Int) ≤ (↑x_4 : Int) ∧
 (↑x_4 : Int) <
 (↑ag.length : Int)) ∧
 x_4 < ag.length ∧
 ((!lessL
 (mkL
 (nthC L
 x_2).length
 (agF
 (nthC L
 x_2))
 (ctF
 (nthC L
 x_2)))
 (mkL
 (nthC L
 x_4).length
 (agF
 (nthC L
 x_4))
 (ctF
 (nthC L
 x_4))) ==
 rF ag fr x_2
 (ag.length -
 x_2)
 x_4) =
 true →
 false = true) ∧
 ((!lessL
 (mkL
 (nthC L
 x_2).length
 (agF
 (nthC L
 x_2))
 (ctF
 (nthC L
 x_2)))
 (mkL
 (nthC L
 x_4).length
 (agF
 (nthC L
 x_4))
 (ctF
 (nthC L
 x_4))) ==
 rF ag fr x_2
 (ag.length -
 x_2)
 x_4) =
 false →
 ∃ (x : Nat),
 x ≤ L.length ∧
 ((PLoop.of
 (lIx
 L.length
 (10 :
 Nat))).ann
 x_3).mu
 x <
 ((PLoop.of
 (lIx
 L.length
 (10 :
 Nat))).ann
 x_3).mu
 x_4 ∧
 (ag.length =
 ag.length ∧
 fr.length =
 fr.length ∧
 L.length =
 L.length ∧
 e = e ∧
 (↑x_1 :
 Int) =
 (↑x_1 :
 Int) ∧
 (↑x_2 :
 Int) =
 (↑x_2 :
 Int) ∧
 ag.length =
 ag.length ∧
 IntKind.i64.wrap
 ((↑x_4 :
 Int) +
 (1 :
 Int)) =
 (↑x :
 Int) ∧
 ag.length =
 ag.length ∧
 (↑ag.length :
 Int) =
 (↑ag.length :
 Int) ∧
 decide
 ((↑ag.length :
 Int) >
 (30 :
 Int)) =
 decide
 ((↑ag.length :
 Int) >
 (30 :
 Int)) ∧
 decide
 ((↑ag.length :
 Int) >
 (30 :
 Int)) =
 decide
 ((↑ag.length :
 Int) >
 (30 :
 Int)) ∧
 false =
 false ∧
 (L.length =
 L.length ∧
 e =
 e) ∧
 ag.length =
 ag.length ∧
 fr.length =
 fr.length ∧
 (L.length =
 L.length ∧
 e =
 e) ∧
 L.length =
 L.length ∧
 e =
 e ∧
 (↑x_1 :
 Int) =
 (↑x_1 :
 Int) ∧
 fr.length =
 fr.length ∧
 (↑fr.length :
 Int) =
 (↑fr.length :
 Int) ∧
 false =
 false ∧
 e =
 e ∧
 (e !=
 (0 :
 Int)) =
 (e !=
 (0 :
 Int)) ∧
 (e !=
 (0 :
 Int)) =
 (e !=
 (0 :
 Int)) ∧
 false =
 false ∧
 (↑x_2 :
 Int) =
 (↑x_2 :
 Int) ∧
 L.length =
 L.length ∧
 (↑L.length :
 Int) =
 (↑L.length :
 Int) ∧
 true =
 true ∧
 ag.length =
 ag.length ∧
 fr.length =
 fr.length ∧
 (↑x_2 :
 Int) =
 (↑x_2 :
 Int) ∧
 ag.length =
 ag.length ∧
 True) ∧
 (ag.length =
 ag.length ∧
 (∀
 (j :
 Nat),
 j <
 ag.length →
 inF ag
 j =
 inF
 ag
 j) ∧
 True) ∧
 (fr.length =
 fr.length ∧
 (∀
 (j :
 Nat),
 j <
 fr.length →
 inF
 fr
 j =
 inF
 fr
 j) ∧
 True) ∧
 (L.length =
 L.length ∧
 ((∀
 (j :
 Nat),
 j <
 L.length →
 (nthC
 L
 j).length =
 (nthC
 L
 j).length) ∧
 (∀
 (j :
 Nat),
 j <
 L.length →
 ∀
 (i :
 Nat),
 i <
 (nthC
 L
 j).length →
 agF
 (nthC
 L
 j)
 i =
 agF
 (nthC
 L
 j)
 i) ∧
 (∀
 (j :
 Nat),
 j <
 L.length →
 ∀
 (i :
 Nat),
 i <
 (nthC
 L
 j).length →
 ctF
 (nthC
 L
 j)
 i =
 ctF
 (nthC
 L
 j)
 i) ∧
 True) ∧
 True) ∧
 (ag.length =
 ag.length ∧
 (∀
 (j :
 Nat),
 j <
 ag.length →
 rF
 ag
 fr
 x_2
 (ag.length -
 x_2)
 j =
 rF
 ag
 fr
 x_2
 (ag.length -
 x_2)
 j) ∧
 True) ∧
 True)) ∧
 (decide ((↑x_4 : Int) < (↑L.length : Int)) =
 false →
 ∃ (x_5 : Nat),
 x_5 ≤ L.length ∧
 ((PLoop.of (lIx L.length (8 : Nat))).ann
 x).mu
 x_5 <
 ((PLoop.of
 (lIx L.length
 (8 : Nat))).ann
 x).mu
 x_2 ∧
 (ag.length = ag.length ∧
 fr.length = fr.length ∧
 L.length = L.length ∧
 e = e ∧
 (↑x_1 : Int) = (↑x_1 : Int) ∧
 IntKind.i64.wrap
 ((↑x_2 : Int) +
 (1 : Int)) =
 (↑x_5 : Int) ∧
 ag.length = ag.length ∧
 (↑ag.length : Int) =
 (↑ag.length : Int) ∧
 decide
 ((↑ag.length :
 Int) >
 (30 : Int)) =
 decide
 ((↑ag.length :
 Int) >
 (30 : Int)) ∧
 decide
 ((↑ag.length :
 Int) >
 (30 :
 Int)) =
 decide
 ((↑ag.length :
 Int) >
 (30 :
 Int)) ∧
 false = false ∧
 (L.length =
 L.length ∧
 e = e) ∧
 ag.length =
 ag.length ∧
 fr.length =
 fr.length ∧
 (L.length =
 L.length ∧
 e =
 e) ∧
 L.length =
 L.length ∧
 e =
 e ∧
 (↑x_1 :
 Int) =
 (↑x_1 :
 Int) ∧
 fr.length =
 fr.length ∧
 (↑fr.length :
 Int) =
 (↑fr.length :
 Int) ∧
 false =
 false ∧
 e =
 e ∧
 (e !=
 (0 :
 Int)) =
 (e !=
 (0 :
 Int)) ∧
 (e !=
 (0 :
 Int)) =
 (e !=
 (0 :
 Int)) ∧
 false =
 false ∧
 True) ∧
 (ag.length = ag.length ∧
 (∀ (j : Nat),
 j < ag.length →
 inF ag j = inF ag j) ∧
 True) ∧
 (fr.length = fr.length ∧
 (∀ (j : Nat),
 j < fr.length →
 inF fr j = inF fr j) ∧
 True) ∧
 (L.length = L.length ∧
 ((∀ (j : Nat),
 j < L.length →
 (nthC L j).length =
 (nthC L j).length) ∧
 (∀ (j : Nat),
 j < L.length →
 ∀ (i : Nat),
 i <
 (nthC L
 j).length →
 agF (nthC L j)
 i =
 agF (nthC L j)
 i) ∧
 (∀ (j : Nat),
 j < L.length →
 ∀ (i : Nat),
 i <
 (nthC L
 j).length →
 ctF (nthC L j)
 i =
 ctF
 (nthC L j)
 i) ∧
 True) ∧
 True) ∧
 True)) ∧
 (decide ((↑x_2 : Int) < (↑L.length : Int)) = false → true = true))))) := by kernel_rfl
theorem v8 (ag fr : List Int) (L : List (List Tk)) (e : Int) (hs : stampsR ag fr = (L, e)) : fnVc (tab (cs8 ag fr L e) [(0, .of (lFr fr 7)), (2, .of (lIx L.length 8)), (4, .of (lIx L.length 10))]) Try.f8 [.sl 0 ag.length, .sl 1 fr.length] [intArr ag, intArr fr] (plainIs .tt) := by
  rw [v8_eq]
  simp only [mkL_self, mkI_self, eq_self, true_and, and_true, implies_true, imp_self, hs]
  intro hd
  have hd1 : ag.length ≤ 30 := by have := of_decide_eq_false (Bool.or_eq_false_iff.1 hd).1; omega
  have h1 : ag.length = fr.length := by have := (Bool.or_eq_false_iff.1 hd).2; simp at this; omega
  have hA : ag.length ≤ 1099511627776 := by omega
  have hB : fr.length ≤ 1099511627776 := by omega
  have h2 : ag.length ≤ 512 := by omega
  refine ⟨hA, hB, ⟨⟩, ⟨0, ⟨Nat.zero_le _, fun i hi => by omega⟩, rfl⟩, fun y hy => ⟨fun hlt => ?_, fun hlt => ?_⟩⟩
  · have hlt : y < fr.length := by simpa using hlt
    refine ⟨⟨by omega, by omega⟩, hlt, (fun _ => ⟨by omega, by omega⟩), (fun _ => hlt), fun hb => ?_, fun hb => ⟨y + 1, ⟨by omega, lt_step (p := okFr fr) hy.2 (by simp only [okFr, hb]; rfl)⟩, mu_of (by simp only [lFr]; omega), wrS hlt hB⟩⟩
    have hno : frOk fr = false := allN_no hlt (by simp only [okFr, hb]; rfl)
    have e1 : stampsR ag fr = ([], 1) := by
      unfold stampsR
      rw [decide_eq_true h1, decide_eq_true h2, hno]
      rfl
    rw [e1] at hs
    simp only [Prod.mk.injEq] at hs
    rw [← hs.2, ← hs.1]
    rfl
  · have hlt : ¬ y < fr.length := by simpa using hlt
    have hfr : ∀ i, i < fr.length → okFr fr i = true := fun i hi => hy.2 i (by omega)
    have e1 : stampsR ag fr = (stL ag fr ag.length, 0) := by
      unfold stampsR
      rw [decide_eq_true h1, decide_eq_true h2, show frOk fr = true from allN_iff.2 hfr]
      rfl
    rw [e1] at hs
    simp only [Prod.mk.injEq] at hs
    have hLl : L.length = fr.length := by rw [← hs.1, stL_len, h1]
    have hrow : ∀ i, i < fr.length → (nthC L i).length ≤ 1099511627776 := fun i hi => by
      obtain ⟨g, _⟩ := st_good (ag := ag) hfr fr.length (Nat.le_refl _) (by omega)
      have := (g i hi).len
      rw [← hs.1, h1]
      omega
    have hca : ∀ i j, i < fr.length → j < fr.length → lessL (nthC L i) (nthC L j) = rF ag fr i (ag.length - i) j := fun i j hi hj => by
      rw [← hs.1, h1]
      exact causal hfr (by omega) hi hj
    refine ⟨fun h => ?_, fun _ => ⟨⟨⟩, ⟨0, Nat.zero_le _, rfl⟩, fun i hi hl => ?_⟩⟩
    · rw [← hs.2, hLl, h1] at h
      simp at h
    · have hl : i < L.length := by simpa using hl
      refine ⟨hA, h1, by omega, by omega, ⟨⟩, ⟨0, Nat.zero_le _, rfl⟩, fun j hj => ⟨fun hl2 => ?_, fun hl2 => ⟨i + 1, by omega, mu_of (by simp only [lIx]; omega), wrS (n := L.length) hl (by omega)⟩⟩⟩
      have hl2 : j < L.length := by simpa using hl2
      refine ⟨⟨by omega, by omega⟩, hl, ⟨by omega, by omega⟩, hl2, ⟨hrow i (by omega), hrow j (by omega)⟩, ⟨by omega, by omega⟩, by omega, fun h => ?_, fun _ => ⟨j + 1, by omega, mu_of (by simp only [lIx]; omega), wrS (n := L.length) hl2 (by omega)⟩⟩
      rw [hca i j (by omega) (by omega)] at h
      simp at h
end Go.Proofs.Ythdmdlipifpbhaa
