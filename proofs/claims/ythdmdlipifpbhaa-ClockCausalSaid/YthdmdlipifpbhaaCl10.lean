/-
  A part of the proof (Cl10).
-/
import Derived.Test.YthdmdlipifpbhaaClRs
namespace Go.Proofs.Ythdmdlipifpbhaa
open Go Go.Proofs.Ythdmdlipifpbhaa.Sx
set_option maxRecDepth 100000
set_option linter.unusedSimpArgs false
set_option linter.unusedVariables false

theorem lastK_eq (ag : List Int) (L : List (List Tk)) (i : Nat) : ∀ k, lastK ag L i k = bif isS (lastF ag k (inF ag i)) then nthC L (val0 (lastF ag k (inF ag i))).toNat else [] := by
  intro k
  induction k with
  | zero => rfl
  | succ k ih =>
    simp only [lastK, lastF]
    cases h : (inF ag k == inF ag i)
    · have h' : (inF ag i == inF ag k) = false := by simp at h ⊢; omega
      rw [h', cond_false, cond_false, ih]
    · have h' : (inF ag i == inF ag k) = true := by simp at h ⊢; omega
      rw [h', cond_true, cond_true]
      simp [isS, val0]
theorem lastK_base (ag : List Int) (L : List (List Tk)) (i : Nat) : lastK ag L i i = baseC ag L i := lastK_eq ag L i i
theorem Good.vc {ag : List Int} {n : Nat} {c : List Tk} (h : Good ag n c) (hn : n ≤ 512) : VC c := vc_of h.vd fun z => by have := h.ct z; omega
theorem ra_good {ag : List Int} {n : Nat} {c : List Tk} (h : Good ag n c) (hn : n ≤ 512) (a : Int) : raL c a = advL c a := by
  have h1 := valid_iff.2 (h.vc hn)
  have h2 : (cntL c a == 2147483647) = false := by have := h.ct a; simp; omega
  rw [← adv_eq]
  simp only [advanceL, h1, h2, Bool.not_false, Bool.and_self, cond_true]
theorem rj_good {ag : List Int} {n : Nat} {a b : List Tk} (ha : Good ag n a) (hb : Good ag n b) (hn : n ≤ 512) : rjL a b = joinL a b := by
  rw [← jn_eq]
  simp only [jnL, valid_iff.2 (ha.vc hn), valid_iff.2 (hb.vc hn), Bool.and_self, cond_true]
theorem v26_eq (ag fr : List Int) : (fnVc (tab (cRs ag fr) [(0, .of (lFr fr 6)), (2, .of (lRo ag fr)), (4, lRi ag fr)]) Try.f26 [.sl 0 ag.length, .sl 1 fr.length] [intArr ag, intArr fr] (resIs (.tup [.sl 0 (stampsR ag fr).1.length, .i .i64 (stampsR ag fr).2]) 23 (stampsR ag fr).1.length (rowsC (stampsR ag fr).1))) = ((((↑ag.length : Int) != (↑fr.length : Int)) = true →
 (0 : Nat) = (stampsR ag fr).fst.length ∧
 ((stampsR ag fr).fst.length = (0 : Nat) ∧ True) ∧
 (0 : Nat) = (stampsR ag fr).fst.length ∧ (1 : Int) = (stampsR ag fr).snd ∧ True) ∧
 (((↑ag.length : Int) != (↑fr.length : Int)) = false →
 (decide ((↑ag.length : Int) > (512 : Int)) = true →
 (0 : Nat) = (stampsR ag fr).fst.length ∧
 ((stampsR ag fr).fst.length = (0 : Nat) ∧ True) ∧
 (0 : Nat) = (stampsR ag fr).fst.length ∧ (4 : Int) = (stampsR ag fr).snd ∧ True) ∧
 (decide ((↑ag.length : Int) > (512 : Int)) = false →
 ∃ (x : PUnit),
 (∃ (x : Nat),
 (x ≤ fr.length ∧ ∀ (i' : Nat), i' < x → okFr fr i' = true) ∧ ((0 : Int) = (↑x : Int) ∧ True) ∧ True) ∧
 ∀ (x_1 : Nat),
 (x_1 ≤ fr.length ∧ ∀ (i' : Nat), i' < x_1 → okFr fr i' = true) →
 (decide ((↑x_1 : Int) < (↑fr.length : Int)) = true →
 ((0 : Int) ≤ (↑x_1 : Int) ∧ (↑x_1 : Int) < (↑fr.length : Int)) ∧
 x_1 < fr.length ∧
 (decide (inF fr x_1 < (-1 : Int)) = false →
 (0 : Int) ≤ (↑x_1 : Int) ∧ (↑x_1 : Int) < (↑fr.length : Int)) ∧
 (decide (inF fr x_1 < (-1 : Int)) = false → x_1 < fr.length) ∧
 ((decide (inF fr x_1 < (-1 : Int)) || decide (inF fr x_1 ≥ (↑x_1 : Int))) = true →
 (0 : Nat) = (stampsR ag fr).fst.length ∧
 ((stampsR ag fr).fst.length = (0 : Nat) ∧ True) ∧
 (0 : Nat) = (stampsR ag fr).fst.length ∧ (1 : Int) = (stampsR ag fr).snd ∧ True) ∧
 ((decide (inF fr x_1 < (-1 : Int)) || decide (inF fr x_1 ≥ (↑x_1 : Int))) = false →
 ∃ (x_2 : Nat),
 (x_2 ≤ fr.length ∧ ∀ (i' : Nat), i' < x_2 → okFr fr i' = true) ∧
 ((PLoop.of (lFr fr (6 : Nat))).ann x).mu x_2 <
 ((PLoop.of (lFr fr (6 : Nat))).ann x).mu x_1 ∧
 (ag.length = ag.length ∧
 fr.length = fr.length ∧
 IntKind.i64.wrap ((↑x_1 : Int) + (1 : Int)) = (↑x_2 : Int) ∧
 ag.length = ag.length ∧
 (↑ag.length : Int) = (↑ag.length : Int) ∧
 fr.length = fr.length ∧
 (↑fr.length : Int) = (↑fr.length : Int) ∧
 false = false ∧
 ag.length = ag.length ∧
 (↑ag.length : Int) = (↑ag.length : Int) ∧
 false = false ∧ True) ∧
 (ag.length = ag.length ∧
 (∀ (j : Nat), j < ag.length → inF ag j = inF ag j) ∧ True) ∧
 (fr.length = fr.length ∧
 (∀ (j : Nat), j < fr.length → inF fr j = inF fr j) ∧ True) ∧
 ((0 : Nat) = (0 : Nat) ∧ True ∧ True) ∧ True)) ∧
 (decide ((↑x_1 : Int) < (↑fr.length : Int)) = false →
 ∃ (x : PUnit),
 (∃ (x : Nat),
 x ≤ ag.length ∧
 ((0 : Nat) = (stL ag fr x).length ∧ (0 : Int) = (↑x : Int) ∧ True) ∧
 ((0 : Nat) = (stL ag fr x).length ∧ (stL ag fr x).length = (0 : Nat) ∧ True) ∧ True) ∧
 ∀ (x_2 : Nat),
 x_2 ≤ ag.length →
 (decide ((↑x_2 : Int) < (↑ag.length : Int)) = true →
 ∃ (x_3 : Nat),
 (∃ (x : Nat),
 x ≤ x_3 ∧
 ((0 : Nat) = (lastK ag (stL ag fr x_3) x_3 x).length ∧
 (0 : Int) = (↑x : Int) ∧ True) ∧
 ((0 : Nat) = (lastK ag (stL ag fr x_3) x_3 x).length ∧
 (lastK ag (stL ag fr x_3) x_3 x).length = (0 : Nat) ∧
 (lastK ag (stL ag fr x_3) x_3 x).length = (0 : Nat) ∧ True) ∧
 True) ∧
 ∀ (x_4 : Nat),
 x_4 ≤ x_3 →
 (decide ((↑x_4 : Int) < (↑x_2 : Int)) = true →
 ((0 : Int) ≤ (↑x_4 : Int) ∧ (↑x_4 : Int) < (↑ag.length : Int)) ∧
 x_4 < ag.length ∧
 ((0 : Int) ≤ (↑x_2 : Int) ∧ (↑x_2 : Int) < (↑ag.length : Int)) ∧
 x_2 < ag.length ∧
 ((inF ag x_4 == inF ag x_2) = true →
 ((0 : Int) ≤ (↑x_4 : Int) ∧
 (↑x_4 : Int) < (↑(stL ag fr x_2).length : Int)) ∧
 x_4 < (stL ag fr x_2).length ∧
 ∃ (x : Nat),
 x ≤ x_3 ∧
 ((lRi ag fr).ann x_3).mu x <
 ((lRi ag fr).ann x_3).mu x_4 ∧
 (ag.length = ag.length ∧
 fr.length = fr.length ∧
 (↑x_1 : Int) = (↑x_1 : Int) ∧
 (stL ag fr x_2).length =
 (stL ag fr x_2).length ∧
 (↑x_2 : Int) = (↑x_2 : Int) ∧
 (nthC (stL ag fr x_2) x_4).length =
 (lastK ag (stL ag fr x_3) x_3
 x).length ∧
 IntKind.i64.wrap
 ((↑x_4 : Int) + (1 : Int)) =
 (↑x : Int) ∧
 ag.length = ag.length ∧
 (↑ag.length : Int) =
 (↑ag.length : Int) ∧
 fr.length = fr.length ∧
 (↑fr.length : Int) =
 (↑fr.length : Int) ∧
 false = false ∧
 ag.length = ag.length ∧
 (↑ag.length : Int) =
 (↑ag.length : Int) ∧
 false = false ∧
 (↑x_1 : Int) =
 (↑x_1 : Int) ∧
 fr.length =
 fr.length ∧
 (↑fr.length :
 Int) =
 (↑fr.length :
 Int) ∧
 false = false ∧
 (↑x_2 : Int) =
 (↑x_2 :
 Int) ∧
 ag.length =
 ag.length ∧
 (↑ag.length :
 Int) =
 (↑ag.length :
 Int) ∧
 true =
 true ∧
 True) ∧
 (ag.length = ag.length ∧
 (∀ (j : Nat),
 j < ag.length → inF ag j = inF ag j) ∧
 True) ∧
 (fr.length = fr.length ∧
 (∀ (j : Nat),
 j < fr.length → inF fr j = inF fr j) ∧
 True) ∧
 ((0 : Nat) = (0 : Nat) ∧ True ∧ True) ∧
 ((stL ag fr x_2).length =
 (stL ag fr x_2).length ∧
 ((∀ (j : Nat),
 j < (stL ag fr x_2).length →
 (nthC (stL ag fr x_2) j).length =
 (nthC (stL ag fr x_2)
 j).length) ∧
 (∀ (j : Nat),
 j < (stL ag fr x_2).length →
 ∀ (i : Nat),
 i <
 (nthC (stL ag fr x_2)
 j).length →
 agF (nthC (stL ag fr x_2) j)
 i =
 agF
 (nthC (stL ag fr x_2) j)
 i) ∧
 (∀ (j : Nat),
 j < (stL ag fr x_2).length →
 ∀ (i : Nat),
 i <
 (nthC (stL ag fr x_2)
 j).length →
 ctF
 (nthC (stL ag fr x_2)
 j)
 i =
 ctF
 (nthC (stL ag fr x_2)
 j)
 i) ∧
 True) ∧
 True) ∧
 ((nthC (stL ag fr x_2) x_4).length =
 (lastK ag (stL ag fr x_3) x_3
 x).length ∧
 (∀ (j : Nat),
 j <
 (lastK ag (stL ag fr x_3) x_3
 x).length →
 agF (nthC (stL ag fr x_2) x_4) j =
 agF
 (lastK ag (stL ag fr x_3) x_3
 x)
 j) ∧
 (∀ (j : Nat),
 j <
 (lastK ag (stL ag fr x_3) x_3
 x).length →
 ctF (nthC (stL ag fr x_2) x_4)
 j =
 ctF
 (lastK ag (stL ag fr x_3)
 x_3 x)
 j) ∧
 True) ∧
 True) ∧
 ((inF ag x_4 == inF ag x_2) = false →
 ∃ (x : Nat),
 x ≤ x_3 ∧
 ((lRi ag fr).ann x_3).mu x < ((lRi ag fr).ann x_3).mu x_4 ∧
 (ag.length = ag.length ∧
 fr.length = fr.length ∧
 (↑x_1 : Int) = (↑x_1 : Int) ∧
 (stL ag fr x_2).length = (stL ag fr x_2).length ∧
 (↑x_2 : Int) = (↑x_2 : Int) ∧
 (lastK ag (stL ag fr x_3) x_3 x_4).length =
 (lastK ag (stL ag fr x_3) x_3 x).length ∧
 IntKind.i64.wrap
 ((↑x_4 : Int) + (1 : Int)) =
 (↑x : Int) ∧
 ag.length = ag.length ∧
 (↑ag.length : Int) =
 (↑ag.length : Int) ∧
 fr.length = fr.length ∧
 (↑fr.length : Int) =
 (↑fr.length : Int) ∧
 false = false ∧
 ag.length = ag.length ∧
 (↑ag.length : Int) =
 (↑ag.length : Int) ∧
 false = false ∧
 (↑x_1 : Int) =
 (↑x_1 : Int) ∧
 fr.length = fr.length ∧
 (↑fr.length : Int) =
 (↑fr.length :
 Int) ∧
 false = false ∧
 (↑x_2 : Int) =
 (↑x_2 : Int) ∧
 ag.length =
 ag.length ∧
 (↑ag.length :
 Int) =
 (↑ag.length :
 Int) ∧
 true =
 true ∧
 True) ∧
 (ag.length = ag.length ∧
 (∀ (j : Nat), j < ag.length → inF ag j = inF ag j) ∧
 True) ∧
 (fr.length = fr.length ∧
 (∀ (j : Nat),
 j < fr.length → inF fr j = inF fr j) ∧
 True) ∧
 ((0 : Nat) = (0 : Nat) ∧ True ∧ True) ∧
 ((stL ag fr x_2).length = (stL ag fr x_2).length ∧
 ((∀ (j : Nat),
 j < (stL ag fr x_2).length →
 (nthC (stL ag fr x_2) j).length =
 (nthC (stL ag fr x_2) j).length) ∧
 (∀ (j : Nat),
 j < (stL ag fr x_2).length →
 ∀ (i : Nat),
 i <
 (nthC (stL ag fr x_2)
 j).length →
 agF (nthC (stL ag fr x_2) j) i =
 agF (nthC (stL ag fr x_2) j)
 i) ∧
 (∀ (j : Nat),
 j < (stL ag fr x_2).length →
 ∀ (i : Nat),
 i <
 (nthC (stL ag fr x_2)
 j).length →
 ctF (nthC (stL ag fr x_2) j)
 i =
 ctF (nthC (stL ag fr x_2) j)
 i) ∧
 True) ∧
 True) ∧
 ((lastK ag (stL ag fr x_3) x_3 x_4).length =
 (lastK ag (stL ag fr x_3) x_3 x).length ∧
 (∀ (j : Nat),
 j <
 (lastK ag (stL ag fr x_3) x_3
 x).length →
 agF (lastK ag (stL ag fr x_3) x_3 x_4)
 j =
 agF (lastK ag (stL ag fr x_3) x_3 x)
 j) ∧
 (∀ (j : Nat),
 j <
 (lastK ag (stL ag fr x_3) x_3
 x).length →
 ctF
 (lastK ag (stL ag fr x_3) x_3
 x_4)
 j =
 ctF
 (lastK ag (stL ag fr x_3) x_3 x)
 j) ∧
 True) ∧
 True)) ∧
 (decide ((↑x_4 : Int) < (↑x_2 : Int)) = false →
 ((0 : Int) ≤ (↑x_2 : Int) ∧ (↑x_2 : Int) < (↑fr.length : Int)) ∧
 x_2 < fr.length ∧
 (decide (inF fr x_2 ≥ (0 : Int)) = true →
 ((0 : Int) ≤ (↑x_2 : Int) ∧ (↑x_2 : Int) < (↑fr.length : Int)) ∧
 x_2 < fr.length ∧
 ((0 : Int) ≤ inF fr x_2 ∧
 inF fr x_2 < (↑(stL ag fr x_2).length : Int)) ∧
 (inF fr x_2).toNat < (stL ag fr x_2).length ∧
 (lastK ag (stL ag fr x_3) x_3 x_4).length =
 (lastK ag (stL ag fr x_3) x_3 x_4).length ∧
 (nthC (stL ag fr x_2) (inF fr x_2).toNat).length =
 (nthC (stL ag fr x_2) (inF fr x_2).toNat).length ∧
 ((mkL (lastK ag (stL ag fr x_3) x_3 x_4).length
 (agF (lastK ag (stL ag fr x_3) x_3 x_4))
 (ctF
 (lastK ag (stL ag fr x_3) x_3
 x_4))).length ≤
 (1099511627776 : Nat) ∧
 (mkL
 (nthC (stL ag fr x_2)
 (inF fr x_2).toNat).length
 (agF
 (nthC (stL ag fr x_2) (inF fr x_2).toNat))
 (ctF
 (nthC (stL ag fr x_2)
 (inF fr x_2).toNat))).length ≤
 (1099511627776 : Nat)) ∧
 rjL
 (mkL (lastK ag (stL ag fr x_3) x_3 x_4).length
 (agF (lastK ag (stL ag fr x_3) x_3 x_4))
 (ctF (lastK ag (stL ag fr x_3) x_3 x_4)))
 (mkL
 (nthC (stL ag fr x_2)
 (inF fr x_2).toNat).length
 (agF
 (nthC (stL ag fr x_2) (inF fr x_2).toNat))
 (ctF
 (nthC (stL ag fr x_2)
 (inF fr x_2).toNat))) =
 nxtC ag fr (stL ag fr x_2).length ∧
 ((0 : Int) ≤ (↑x_2 : Int) ∧
 (↑x_2 : Int) < (↑ag.length : Int)) ∧
 x_2 < ag.length ∧
 (nxtC ag fr (stL ag fr x_2).length).length =
 (nxtC ag fr (stL ag fr x_2).length).length ∧
 (mkL
 (nxtC ag fr
 (stL ag fr x_2).length).length
 (agF
 (nxtC ag fr (stL ag fr x_2).length))
 (ctF
 (nxtC ag fr
 (stL ag fr x_2).length))).length ≤
 (1099511627776 : Nat) ∧
 raL
 (mkL
 (nxtC ag fr
 (stL ag fr x_2).length).length
 (agF
 (nxtC ag fr
 (stL ag fr x_2).length))
 (ctF
 (nxtC ag fr
 (stL ag fr x_2).length)))
 (inF ag x_2) =
 newC ag fr (stL ag fr x_2).length ∧
 (newC ag fr
 (stL ag fr x_2).length).length =
 (newC ag fr
 (stL ag fr x_2).length).length ∧
 (stL ag fr x_2).length =
 (stL ag fr x_2).length ∧
 (1 : Nat) = (1 : Nat) ∧
 (0 : Nat) < (1 : Nat) ∧
 ((stL ag fr x_2).length +
 (1 : Nat)) *
 (24 : Nat) ≤
 (140737488355328 : Nat) ∧
 (stL ag fr x_2).length +
 (1 : Nat) ≤
 (9223372036854775807 :
 Nat) ∧
 ∃ (x_5 : Nat),
 x_5 ≤ ag.length ∧
 ((PLoop.of
 (lRo ag
 fr)).ann
 x).mu
 x_5 <
 ((PLoop.of
 (lRo ag
 fr)).ann
 x).mu
 x_2 ∧
 (ag.length = ag.length ∧
 fr.length =
 fr.length ∧
 (↑x_1 : Int) =
 (↑x_1 : Int) ∧
 (stL ag fr
 x_2).length +
 (1 :
 Nat) =
 (stL ag fr
 x_5).length ∧
 IntKind.i64.wrap
 ((↑x_2 :
 Int) +
 (1 :
 Int)) =
 (↑x_5 :
 Int) ∧
 ag.length =
 ag.length ∧
 (↑ag.length :
 Int) =
 (↑ag.length :
 Int) ∧
 fr.length =
 fr.length ∧
 (↑fr.length :
 Int) =
 (↑fr.length :
 Int) ∧
 false =
 false ∧
 ag.length =
 ag.length ∧
 (↑ag.length :
 Int) =
 (↑ag.length :
 Int) ∧
 false =
 false ∧
 (↑x_1 :
 Int) =
 (↑x_1 :
 Int) ∧
 fr.length =
 fr.length ∧
 (↑fr.length :
 Int) =
 (↑fr.length :
 Int) ∧
 false =
 false ∧
 True) ∧
 (ag.length =
 ag.length ∧
 (∀ (j : Nat),
 j <
 ag.length →
 inF ag j =
 inF ag
 j) ∧
 True) ∧
 (fr.length =
 fr.length ∧
 (∀ (j : Nat),
 j <
 fr.length →
 inF fr j =
 inF fr
 j) ∧
 True) ∧
 ((0 : Nat) =
 (0 : Nat) ∧
 True ∧ True) ∧
 ((stL ag fr
 x_2).length +
 (1 :
 Nat) =
 (stL ag fr
 x_5).length ∧
 ((∀
 (j :
 Nat),
 j <
 (stL
 ag
 fr
 x_5).length →
 (bif
 j.blt
 (stL
 ag
 fr
 x_2).length then
 (nthC
 (stL
 ag
 fr
 x_2)
 j).length
 else
 (newC
 ag
 fr
 (stL
 ag
 fr
 x_2).length).length) =
 (nthC
 (stL
 ag
 fr
 x_5)
 j).length) ∧
 (∀
 (j :
 Nat),
 j <
 (stL
 ag
 fr
 x_5).length →
 ∀
 (i :
 Nat),
 i <
 (nthC
 (stL
 ag
 fr
 x_5)
 j).length →
 (bif
 j.blt
 (stL
 ag
 fr
 x_2).length then
 agF
 (nthC
 (stL
 ag
 fr
 x_2)
 j)
 else
 agF
 (newC
 ag
 fr
 (stL
 ag
 fr
 x_2).length))
 i =
 agF
 (nthC
 (stL
 ag
 fr
 x_5)
 j)
 i) ∧
 (∀
 (j :
 Nat),
 j <
 (stL
 ag
 fr
 x_5).length →
 ∀
 (i :
 Nat),
 i <
 (nthC
 (stL
 ag
 fr
 x_5)
 j).length →
 (bif
 j.blt
 (stL
 ag
 fr
 x_2).length then
 ctF
 (nthC
 (stL
 ag
 fr
 x_2)
 j)
 else
 ctF
 (newC
 ag
 fr
 (stL
 ag
 fr
 x_2).length))
 i =
 ctF
 (nthC
 (stL
 ag
 fr
 x_5)
 j)
 i) ∧
 True) ∧
 True) ∧
 True) ∧
 (decide (inF fr x_2 ≥ (0 : Int)) = false →
 ((0 : Int) ≤ (↑x_2 : Int) ∧ (↑x_2 : Int) < (↑ag.length : Int)) ∧
 x_2 < ag.length ∧
 (lastK ag (stL ag fr x_3) x_3 x_4).length =
 (lastK ag (stL ag fr x_3) x_3 x_4).length ∧
 (mkL (lastK ag (stL ag fr x_3) x_3 x_4).length
 (agF (lastK ag (stL ag fr x_3) x_3 x_4))
 (ctF (lastK ag (stL ag fr x_3) x_3 x_4))).length ≤
 (1099511627776 : Nat) ∧
 raL
 (mkL (lastK ag (stL ag fr x_3) x_3 x_4).length
 (agF (lastK ag (stL ag fr x_3) x_3 x_4))
 (ctF (lastK ag (stL ag fr x_3) x_3 x_4)))
 (inF ag x_2) =
 newC ag fr (stL ag fr x_2).length ∧
 (newC ag fr (stL ag fr x_2).length).length =
 (newC ag fr (stL ag fr x_2).length).length ∧
 (stL ag fr x_2).length = (stL ag fr x_2).length ∧
 (1 : Nat) = (1 : Nat) ∧
 (0 : Nat) < (1 : Nat) ∧
 ((stL ag fr x_2).length + (1 : Nat)) *
 (24 : Nat) ≤
 (140737488355328 : Nat) ∧
 (stL ag fr x_2).length + (1 : Nat) ≤
 (9223372036854775807 : Nat) ∧
 ∃ (x_5 : Nat),
 x_5 ≤ ag.length ∧
 ((PLoop.of (lRo ag fr)).ann x).mu x_5 <
 ((PLoop.of (lRo ag fr)).ann x).mu
 x_2 ∧
 (ag.length = ag.length ∧
 fr.length = fr.length ∧
 (↑x_1 : Int) = (↑x_1 : Int) ∧
 (stL ag fr x_2).length +
 (1 : Nat) =
 (stL ag fr x_5).length ∧
 IntKind.i64.wrap
 ((↑x_2 : Int) +
 (1 : Int)) =
 (↑x_5 : Int) ∧
 ag.length = ag.length ∧
 (↑ag.length : Int) =
 (↑ag.length : Int) ∧
 fr.length = fr.length ∧
 (↑fr.length : Int) =
 (↑fr.length :
 Int) ∧
 false = false ∧
 ag.length =
 ag.length ∧
 (↑ag.length :
 Int) =
 (↑ag.length :
 Int) ∧
 false =
 false ∧
 (↑x_1 :
 Int) =
 (↑x_1 :
 Int) ∧
 fr.length =
 fr.length ∧
 (↑fr.length :
 Int) =
 (↑fr.length :
 Int) ∧
 false =
 false ∧
 True) ∧
 (ag.length = ag.length ∧
 (∀ (j : Nat),
 j < ag.length →
 inF ag j = inF ag j) ∧
 True) ∧
 (fr.length = fr.length ∧
 (∀ (j : Nat),
 j < fr.length →
 inF fr j = inF fr j) ∧
 True) ∧
 ((0 : Nat) = (0 : Nat) ∧
 True ∧ True) ∧
 ((stL ag fr x_2).length +
 (1 : Nat) =
 (stL ag fr x_5).length ∧
 ((∀ (j : Nat),
 j <
 (stL ag fr
 x_5).length →
 (bif
 j.blt
 (stL ag fr
 x_2).length then
 (nthC
 (stL ag fr
 x_2)
 j).length
 else
 (newC ag fr
 (stL ag fr
 x_2).length).length) =
 (nthC
 (stL ag fr
 x_5)
 j).length) ∧
 (∀ (j : Nat),
 j <
 (stL ag fr
 x_5).length →
 ∀ (i : Nat),
 i <
 (nthC
 (stL ag
 fr
 x_5)
 j).length →
 (bif
 j.blt
 (stL
 ag
 fr
 x_2).length then
 agF
 (nthC
 (stL
 ag
 fr
 x_2)
 j)
 else
 agF
 (newC
 ag
 fr
 (stL
 ag
 fr
 x_2).length))
 i =
 agF
 (nthC
 (stL ag
 fr
 x_5)
 j)
 i) ∧
 (∀ (j : Nat),
 j <
 (stL ag fr
 x_5).length →
 ∀ (i : Nat),
 i <
 (nthC
 (stL
 ag
 fr
 x_5)
 j).length →
 (bif
 j.blt
 (stL
 ag
 fr
 x_2).length then
 ctF
 (nthC
 (stL
 ag
 fr
 x_2)
 j)
 else
 ctF
 (newC
 ag
 fr
 (stL
 ag
 fr
 x_2).length))
 i =
 ctF
 (nthC
 (stL
 ag
 fr
 x_5)
 j)
 i) ∧
 True) ∧
 True) ∧
 True))) ∧
 (decide ((↑x_2 : Int) < (↑ag.length : Int)) = false →
 (stL ag fr x_2).length = (stampsR ag fr).fst.length ∧
 (((∀ (j : Nat),
 j < (stampsR ag fr).fst.length →
 (nthC (stL ag fr x_2) j).length = (nthC (stampsR ag fr).fst j).length) ∧
 (∀ (j : Nat),
 j < (stampsR ag fr).fst.length →
 ∀ (i : Nat),
 i < (nthC (stampsR ag fr).fst j).length →
 agF (nthC (stL ag fr x_2) j) i = agF (nthC (stampsR ag fr).fst j) i) ∧
 (∀ (j : Nat),
 j < (stampsR ag fr).fst.length →
 ∀ (i : Nat),
 i < (nthC (stampsR ag fr).fst j).length →
 ctF (nthC (stL ag fr x_2) j) i =
 ctF (nthC (stampsR ag fr).fst j) i) ∧
 True) ∧
 True) ∧
 (stL ag fr x_2).length = (stampsR ag fr).fst.length ∧
 (0 : Int) = (stampsR ag fr).snd ∧ True))))) := by kernel_rfl
theorem v26 (ag fr : List Int) (hA : ag.length ≤ 1099511627776) (hB : fr.length ≤ 1099511627776) : fnVc (tab (cRs ag fr) [(0, .of (lFr fr 6)), (2, .of (lRo ag fr)), (4, lRi ag fr)]) Try.f26 [.sl 0 ag.length, .sl 1 fr.length] [intArr ag, intArr fr] (resIs (.tup [.sl 0 (stampsR ag fr).1.length, .i .i64 (stampsR ag fr).2]) 23 (stampsR ag fr).1.length (rowsC (stampsR ag fr).1)) := by
  rw [v26_eq]
  simp only [mkL_self, stL_len, eq_self, true_and, and_true, implies_true, imp_self]
  refine ⟨fun h => ?_, fun h => ⟨fun h2 => ?_, fun h2 => ?_⟩⟩
  · have h : ¬ ag.length = fr.length := by
      intro e
      rw [e] at h
      simp at h
    have e : stampsR ag fr = ([], 1) := by simp [stampsR, h]
    simp [e]
  · have h : ag.length = fr.length := by
      have := h
      simp at this
      omega
    have h2 : ¬ ag.length ≤ 512 := by simp at h2; omega
    have e : stampsR ag fr = ([], 4) := by
      unfold stampsR
      rw [decide_eq_true h, decide_eq_false h2]
      rfl
    simp [e]
  · have h : ag.length = fr.length := by
      have := h
      simp at this
      omega
    have h2 : ag.length ≤ 512 := by simp at h2; omega
    refine ⟨⟨⟩, ⟨0, ⟨by omega, fun i hi => by omega⟩, rfl⟩, fun y hy => ⟨fun hlt => ?_, fun hlt => ?_⟩⟩
    · have hlt : y < fr.length := by simpa using hlt
      refine ⟨⟨by omega, by omega⟩, hlt, (fun _ => ⟨by omega, by omega⟩), (fun _ => hlt), fun hb => ?_, fun hb => ⟨y + 1, ⟨by omega, lt_step (p := okFr fr) hy.2 (by simp only [okFr, hb]; rfl)⟩, mu_of (by simp only [lFr]; omega), wrS hlt hB⟩⟩
      have hno : frOk fr = false := allN_no hlt (by simp only [okFr, hb]; rfl)
      have e : stampsR ag fr = ([], 1) := by
        unfold stampsR
        rw [decide_eq_true h, decide_eq_true h2, hno]
        rfl
      simp [e]
    · have hlt : ¬ y < fr.length := by simpa using hlt
      have hfr : ∀ i, i < fr.length → okFr fr i = true := fun i hi => hy.2 i (by omega)
      have e : stampsR ag fr = (stL ag fr ag.length, 0) := by
        unfold stampsR
        rw [decide_eq_true h, decide_eq_true h2, show frOk fr = true from allN_iff.2 hfr]
        rfl
      refine ⟨⟨⟩, ⟨0, by omega, ⟨rfl, rfl⟩, rfl, rfl⟩, fun x hx => ⟨fun hlt => ?_, fun hlt => ?_⟩⟩
      · have hlt : x < ag.length := by simpa using hlt
        have hwx : IntKind.i64.wrap ((x : Int) + 1) = ((x + 1 : Nat) : Int) := wrS hlt hA
        obtain ⟨g1, g2⟩ := st_good (ag := ag) hfr x (by omega) (by omega)
        have g2 := g2 (by omega)
        have hst : stL ag fr x ++ [newC ag fr x] = stL ag fr (x + 1) := rfl
        have hfx := hfr x (by omega)
        simp only [okFr, Bool.not_eq_true', Bool.or_eq_false_iff, decide_eq_false_iff_not] at hfx
        have hnl : (nxtC ag fr x).length ≤ 1099511627776 := by have := g2.len; omega
        have bx : (0 : Int) ≤ (x : Int) ∧ (x : Int) < (fr.length : Int) := by omega
        have ba : (0 : Int) ≤ (x : Int) ∧ (x : Int) < (ag.length : Int) := by omega
        have hxf : x < fr.length := by omega
        have hra : raL (nxtC ag fr x) (inF ag x) = newC ag fr x := ra_good g2 (by omega) _
        have gb : Good ag x (baseC ag (stL ag fr x) x) := by
          unfold baseC
          cases e : isS (lastF ag x (inF ag x))
          · exact good_nil ag _
          · have := last_lt (isS_some e)
            exact g1 _ (by omega)
        refine ⟨x, ⟨0, Nat.zero_le _, ⟨rfl, rfl⟩, rfl, rfl, rfl⟩, fun k hk => ⟨fun hl => ?_, fun hl => ?_⟩⟩
        · have hl : k < x := by simpa using hl
          have hwk : IntKind.i64.wrap ((k : Int) + 1) = ((k + 1 : Nat) : Int) := wrS (n := ag.length) (by omega) hA
          refine ⟨⟨by omega, by omega⟩, by omega, ba, hlt, fun he => ?_, fun he => ?_⟩
          · have e1 : lastK ag (stL ag fr x) x (k + 1) = nthC (stL ag fr x) k := by simp only [lastK, he, cond_true]
            refine ⟨⟨by omega, by omega⟩, hl, k + 1, by omega, by simp only [lRi]; omega, ?_⟩
            simp only [e1, eq_self, true_and, and_true, implies_true]
            exact hwk
          · have e1 : lastK ag (stL ag fr x) x (k + 1) = lastK ag (stL ag fr x) x k := by simp only [lastK, he, cond_false]
            refine ⟨k + 1, by omega, by simp only [lRi]; omega, ?_⟩
            simp only [e1, eq_self, true_and, and_true, implies_true]
            exact hwk
        · have hl : ¬ k < x := by simpa using hl
          obtain rfl : k = x := by omega
          rw [lastK_base]
          refine ⟨bx, hxf, fun hf => ?_, fun hf => ?_⟩
          · have hf0 : inF fr k ≥ 0 := by simpa using hf
            have hfl : (inF fr k).toNat < k := by omega
            have hbl := gb.len
            have hrl := (g1 _ hfl).len
            have ej : rjL (baseC ag (stL ag fr k) k) (nthC (stL ag fr k) (inF fr k).toNat) = nxtC ag fr k := by
              rw [rj_good gb (g1 _ hfl) (by omega)]
              simp only [nxtC, nextC, hf, cond_true]
            refine ⟨bx, hxf, ⟨by omega, by omega⟩, hfl, ⟨by omega, by omega⟩, ej, ba, hlt, hnl, hra, by omega, by omega, by omega, ?_⟩
            refine ⟨k + 1, by omega, mu_of (by simp only [lRo]; omega), ?_⟩
            have r1 := (rows_eq (c := newC ag fr k) (stL_len ag fr k) Tk.ag).1
            have r2 := (rows_eq (c := newC ag fr k) (stL_len ag fr k) Tk.ag).2 agF
            have r3 := (rows_eq (c := newC ag fr k) (stL_len ag fr k) Tk.ag).2 ctF
            rw [hst] at r1 r2 r3
            rw [stL_len] at r1 r2 r3
            exact ⟨⟨rfl, hwx⟩, rfl, r1, r2, r3⟩
          · have ej : baseC ag (stL ag fr k) k = nxtC ag fr k := by
              simp only [nxtC, nextC, hf, cond_false]
            have hbl := gb.len
            refine ⟨ba, hlt, by omega, by rw [ej]; exact hra, by omega, by omega, by omega, ?_⟩
            refine ⟨k + 1, by omega, mu_of (by simp only [lRo]; omega), ?_⟩
            have r1 := (rows_eq (c := newC ag fr k) (stL_len ag fr k) Tk.ag).1
            have r2 := (rows_eq (c := newC ag fr k) (stL_len ag fr k) Tk.ag).2 agF
            have r3 := (rows_eq (c := newC ag fr k) (stL_len ag fr k) Tk.ag).2 ctF
            rw [hst] at r1 r2 r3
            rw [stL_len] at r1 r2 r3
            exact ⟨⟨rfl, hwx⟩, rfl, r1, r2, r3⟩
      · have hlt : ¬ x < ag.length := by simpa using hlt
        obtain rfl : x = ag.length := by omega
        rw [e]
        simp [stL_len]
theorem fo26 : fnOk Try.prog 26 := ⟨Try.f26, Try.func26, by kernel_rfl, by kernel_rfl⟩
theorem c26 : CallOk Try.prog [] 26 rSt := by
  refine callOk_nil Try.func26 fo26 fun m vs ar h hp => ?_
  unfold rSt at h
  split at h
  · rename_i x y
    split at h
    · rename_i r n n' l q k k' b hx hy
      simp only [Option.some.injEq] at h
      subst h
      have hn : n = n' := hp _ (by simp)
      have hk : k = k' := hp _ (by simp)
      have p1 : LI l := hp _ (by simp)
      have p2 : LI b := hp _ (by simp)
      exact ⟨_, tabOk (loops := [(0, .of (lFr b 6)), (2, .of (lRo l b)), (4, lRi l b)]) (mcRs l b), two r q, [intArr l, intArr b], [.sl 0 l.length, .sl 1 b.length], fun ρ xs h => h.conv2 (fun v hv => ckI_den hx hn rfl hv) (fun _ h => h.conv2 (fun v hv => ckI_den hy hk rfl hv) (fun _ h => h.nilc)), rfl, rfl, knI hx hn hy hk, fun g i hi => absurd hi (by simp [tab, assoc]), .inr ⟨.tup [.sl 0 _, .i .i64 _], 23, _, _, rfl, by simp [rowsC], rfl, rfl, v26 l b p1 p2⟩⟩
    · cases h
  · cases h
end Go.Proofs.Ythdmdlipifpbhaa
