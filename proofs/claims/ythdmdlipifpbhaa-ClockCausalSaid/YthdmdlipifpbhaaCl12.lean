/-
  A part of the proof (Cl12).
-/
import Derived.Test.YthdmdlipifpbhaaClRch
namespace Go.Proofs.Ythdmdlipifpbhaa
open Go Go.Proofs.Ythdmdlipifpbhaa.Sx
set_option maxRecDepth 100000
set_option linter.unusedSimpArgs false
set_option linter.unusedVariables false

theorem beq_ne {x y : Nat} (h : x ≠ y) : Nat.beq x y = false := Bool.eq_false_iff.2 fun e => h (Nat.eq_of_beq_eq_true e)
theorem wrU {n i : Nat} (h : i < n) (hn : n ≤ 1099511627776) : IntKind.i64.wrap ((i : Int) + 1) = ((i + 1 : Nat) : Int) := wrS h hn
theorem v27_eq (ag fr : List Int) (i : Nat) : (fnVc (tab [] [(0, .of (lRa1 ag fr i)), (2, lRa2 ag fr i)]) Try.f27 [.sl 0 ag.length, .sl 1 fr.length, .i .i64 (i : Int)] [intArr ag, intArr fr] (resIs (.sl 0 ag.length) 4 ag.length [.bool (rF ag fr i (ag.length - i))])) = ((0 : Int) ≤ (↑ag.length : Int) ∧
 (↑ag.length : Int) = (↑ag.length : Int) ∧
 (↑(1 : Nat) : Int) * (↑ag.length : Int) ≤ (281474976710656 : Int) ∧
 (↑ag.length : Int) ≤ (9223372036854775807 : Int) ∧
 ∃ (x : PUnit),
 (∃ (x : Nat),
 i + x ≤ ag.length ∧
 ((↑i : Int) = (↑(i + x) : Int) ∧ True) ∧
 (ag.length = ag.length ∧ (∀ (j : Nat), j < ag.length → false = rF ag fr i x j) ∧ True) ∧ True) ∧
 ∀ (x_1 : Nat),
 i + x_1 ≤ ag.length →
 (decide ((↑(i + x_1) : Int) < (↑ag.length : Int)) = true →
 ((0 : Int) ≤ (↑(i + x_1) : Int) ∧ (↑(i + x_1) : Int) < (↑ag.length : Int)) ∧
 i + x_1 < ag.length ∧
 ∃ (x_2 : Nat),
 (∃ (x : Nat),
 x ≤ x_2 ∧
 ((↑i : Int) = (↑(i + x) : Int) ∧ True) ∧
 (ag.length = ag.length ∧
 (∀ (j : Nat),
 j < ag.length →
 (bif j.beq (i + x_1) then (↑(i + x_1) : Int) == (↑i : Int)
 else rF ag fr i x_1 j) =
 rMid ag fr i x_2 x j) ∧
 True) ∧
 True) ∧
 ∀ (x_3 : Nat),
 x_3 ≤ x_2 →
 (decide ((↑(i + x_3) : Int) < (↑(i + x_1) : Int)) = true →
 ((0 : Int) ≤ (↑(i + x_3) : Int) ∧ (↑(i + x_3) : Int) < (↑ag.length : Int)) ∧
 i + x_3 < ag.length ∧
 (rMid ag fr i x_2 x_3 (i + x_3) = true →
 (0 : Int) ≤ (↑(i + x_3) : Int) ∧ (↑(i + x_3) : Int) < (↑ag.length : Int)) ∧
 (rMid ag fr i x_2 x_3 (i + x_3) = true → i + x_3 < ag.length) ∧
 (rMid ag fr i x_2 x_3 (i + x_3) = true →
 (0 : Int) ≤ (↑(i + x_1) : Int) ∧
 (↑(i + x_1) : Int) < (↑ag.length : Int)) ∧
 (rMid ag fr i x_2 x_3 (i + x_3) = true → i + x_1 < ag.length) ∧
 ((inF ag (i + x_3) == inF ag (i + x_1)) = false →
 rMid ag fr i x_2 x_3 (i + x_3) = true →
 (0 : Int) ≤ (↑(i + x_1) : Int) ∧
 (↑(i + x_1) : Int) < (↑fr.length : Int)) ∧
 ((inF ag (i + x_3) == inF ag (i + x_1)) = false →
 rMid ag fr i x_2 x_3 (i + x_3) = true → i + x_1 < fr.length) ∧
 ((rMid ag fr i x_2 x_3 (i + x_3) &&
 (inF ag (i + x_3) == inF ag (i + x_1) ||
 inF fr (i + x_1) == (↑(i + x_3) : Int))) =
 true →
 ((0 : Int) ≤ (↑(i + x_1) : Int) ∧
 (↑(i + x_1) : Int) < (↑ag.length : Int)) ∧
 i + x_1 < ag.length ∧
 ∃ (x : Nat),
 x ≤ x_2 ∧
 ((lRa2 ag fr i).ann x_2).mu x <
 ((lRa2 ag fr i).ann x_2).mu x_3 ∧
 (ag.length = ag.length ∧
 fr.length = fr.length ∧
 (↑i : Int) = (↑i : Int) ∧
 (0 : Nat) = (0 : Nat) ∧
 ag.length = ag.length ∧
 (↑(i + x_1) : Int) = (↑(i + x_1) : Int) ∧
 IntKind.i64.wrap
 ((↑(i + x_3) : Int) + (1 : Int)) =
 (↑(i + x) : Int) ∧
 ag.length = ag.length ∧
 (↑ag.length : Int) =
 (↑ag.length : Int) ∧
 ag.length = ag.length ∧
 (↑i : Int) = (↑i : Int) ∧
 (↑(i + x_1) : Int) =
 (↑(i + x_1) : Int) ∧
 ag.length = ag.length ∧
 (↑ag.length : Int) =
 (↑ag.length : Int) ∧
 true = true ∧
 ag.length =
 ag.length ∧
 (↑(i + x_1) : Int) =
 (↑(i + x_1) :
 Int) ∧
 (↑(i + x_1) :
 Int) =
 (↑(i + x_1) :
 Int) ∧
 (↑i : Int) =
 (↑i : Int) ∧
 ((↑(i + x_1) :
 Int) ==
 (↑i :
 Int)) =
 ((↑(i +
 x_1) :
 Int) ==
 (↑i :
 Int)) ∧
 i + x_1 =
 i +
 x_1 ∧
 (↑i :
 Int) =
 (↑i :
 Int) ∧
 True) ∧
 (ag.length = ag.length ∧
 (∀ (j : Nat),
 j < ag.length → inF ag j = inF ag j) ∧
 True) ∧
 (fr.length = fr.length ∧
 (∀ (j : Nat),
 j < fr.length → inF fr j = inF fr j) ∧
 True) ∧
 ((0 : Nat) = (0 : Nat) ∧ True ∧ True) ∧
 (ag.length = ag.length ∧
 (∀ (j : Nat),
 j < ag.length →
 (bif j.beq (i + x_1) then true
 else rMid ag fr i x_2 x_3 j) =
 rMid ag fr i x_2 x j) ∧
 True) ∧
 True) ∧
 ((rMid ag fr i x_2 x_3 (i + x_3) &&
 (inF ag (i + x_3) == inF ag (i + x_1) ||
 inF fr (i + x_1) == (↑(i + x_3) : Int))) =
 false →
 ∃ (x : Nat),
 x ≤ x_2 ∧
 ((lRa2 ag fr i).ann x_2).mu x <
 ((lRa2 ag fr i).ann x_2).mu x_3 ∧
 (ag.length = ag.length ∧
 fr.length = fr.length ∧
 (↑i : Int) = (↑i : Int) ∧
 (0 : Nat) = (0 : Nat) ∧
 ag.length = ag.length ∧
 (↑(i + x_1) : Int) = (↑(i + x_1) : Int) ∧
 IntKind.i64.wrap
 ((↑(i + x_3) : Int) + (1 : Int)) =
 (↑(i + x) : Int) ∧
 ag.length = ag.length ∧
 (↑ag.length : Int) =
 (↑ag.length : Int) ∧
 ag.length = ag.length ∧
 (↑i : Int) = (↑i : Int) ∧
 (↑(i + x_1) : Int) =
 (↑(i + x_1) : Int) ∧
 ag.length = ag.length ∧
 (↑ag.length : Int) =
 (↑ag.length : Int) ∧
 true = true ∧
 ag.length = ag.length ∧
 (↑(i + x_1) : Int) =
 (↑(i + x_1) : Int) ∧
 (↑(i + x_1) : Int) =
 (↑(i + x_1) :
 Int) ∧
 (↑i : Int) =
 (↑i : Int) ∧
 ((↑(i + x_1) :
 Int) ==
 (↑i :
 Int)) =
 ((↑(i + x_1) :
 Int) ==
 (↑i :
 Int)) ∧
 i + x_1 =
 i + x_1 ∧
 (↑i : Int) =
 (↑i :
 Int) ∧
 True) ∧
 (ag.length = ag.length ∧
 (∀ (j : Nat), j < ag.length → inF ag j = inF ag j) ∧
 True) ∧
 (fr.length = fr.length ∧
 (∀ (j : Nat),
 j < fr.length → inF fr j = inF fr j) ∧
 True) ∧
 ((0 : Nat) = (0 : Nat) ∧ True ∧ True) ∧
 (ag.length = ag.length ∧
 (∀ (j : Nat),
 j < ag.length →
 rMid ag fr i x_2 x_3 j =
 rMid ag fr i x_2 x j) ∧
 True) ∧
 True)) ∧
 (decide ((↑(i + x_3) : Int) < (↑(i + x_1) : Int)) = false →
 ∃ (x_4 : Nat),
 i + x_4 ≤ ag.length ∧
 ((PLoop.of (lRa1 ag fr i)).ann x).mu x_4 <
 ((PLoop.of (lRa1 ag fr i)).ann x).mu x_1 ∧
 (ag.length = ag.length ∧
 fr.length = fr.length ∧
 (↑i : Int) = (↑i : Int) ∧
 (0 : Nat) = (0 : Nat) ∧
 ag.length = ag.length ∧
 IntKind.i64.wrap ((↑(i + x_1) : Int) + (1 : Int)) =
 (↑(i + x_4) : Int) ∧
 ag.length = ag.length ∧
 (↑ag.length : Int) = (↑ag.length : Int) ∧
 ag.length = ag.length ∧ (↑i : Int) = (↑i : Int) ∧ True) ∧
 (ag.length = ag.length ∧
 (∀ (j : Nat), j < ag.length → inF ag j = inF ag j) ∧ True) ∧
 (fr.length = fr.length ∧
 (∀ (j : Nat), j < fr.length → inF fr j = inF fr j) ∧ True) ∧
 ((0 : Nat) = (0 : Nat) ∧ True ∧ True) ∧
 (ag.length = ag.length ∧
 (∀ (j : Nat),
 j < ag.length → rMid ag fr i x_2 x_3 j = rF ag fr i x_4 j) ∧
 True) ∧
 True)) ∧
 (decide ((↑(i + x_1) : Int) < (↑ag.length : Int)) = false →
 ag.length = ag.length ∧
 ((∀ (j : Nat), j < ag.length → rF ag fr i x_1 j = rF ag fr i (ag.length - i) j) ∧ True) ∧
 ag.length = ag.length)) := by kernel_rfl
theorem v27 (ag fr : List Int) (i : Nat) (hl : ag.length = fr.length) (hi : i ≤ ag.length) (hA : ag.length ≤ 1099511627776) : fnVc (tab [] [(0, .of (lRa1 ag fr i)), (2, lRa2 ag fr i)]) Try.f27 [.sl 0 ag.length, .sl 1 fr.length, .i .i64 (i : Int)] [intArr ag, intArr fr] (resIs (.sl 0 ag.length) 4 ag.length [.bool (rF ag fr i (ag.length - i))]) := by
  rw [v27_eq]
  simp only [mkL_self, mkI_self, eq_self, true_and, and_true, implies_true, imp_self]
  refine ⟨by omega, by omega, by omega, ⟨⟩, ⟨0, by omega, by simp, fun _ _ => rfl⟩, fun t ht => ⟨fun hc => ?_, fun hc => ?_⟩⟩
  · have hc : i + t < ag.length := by have := of_decide_eq_true hc; omega
    refine ⟨⟨by omega, by omega⟩, hc, t, ⟨0, by omega, by simp, fun j hj => ?_⟩, fun s hs => ⟨fun hd => ?_, fun hd => ?_⟩⟩
    · simp only [rMid, rIn]
      by_cases e : j = i + t
      · subst e
        rw [Nat.beq_refl, cond_true, cond_true]
        by_cases e2 : t = 0
        · subst e2; simp
        · rw [beq_ne (by omega)]
          simp
          omega
      · rw [beq_ne e, cond_false, cond_false]
    · have hd : s < t := by have := of_decide_eq_true hd; omega
      have hm : rMid ag fr i t s (i + s) = rF ag fr i t (i + s) := by simp only [rMid]; rw [beq_ne (by omega), cond_false]
      have hstep : ∀ b, (rF ag fr i t (i + s) && (inF ag (i + s) == inF ag (i + t) || inF fr (i + t) == ((i + s : Nat) : Int))) = b → rIn ag fr i (rF ag fr i t) (i + t) (s + 1) = (rIn ag fr i (rF ag fr i t) (i + t) s || b) := fun b hb => by simp only [rIn, hb]
      have hw : IntKind.i64.wrap (((i + s : Nat) : Int) + 1) = ((i + (s + 1) : Nat) : Int) := wrU (n := ag.length) (by omega) hA
      rw [hm]
      refine ⟨⟨by omega, by omega⟩, by omega, (fun _ => ⟨by omega, by omega⟩), (fun _ => by omega), (fun _ => ⟨by omega, by omega⟩), (fun _ => hc), (fun _ _ => ⟨by omega, by omega⟩), (fun _ _ => by omega), fun he => ?_, fun he => ?_⟩
      · refine ⟨⟨by omega, by omega⟩, hc, s + 1, by omega, by simp only [lRa2]; omega, hw, fun j hj => ?_⟩
        simp only [rMid, hstep _ he, Bool.or_true]
        by_cases e : j = i + t
        · subst e
          rw [Nat.beq_refl, cond_true, cond_true]
        · rw [beq_ne e, cond_false, cond_false, cond_false]
      · refine ⟨s + 1, by omega, by simp only [lRa2]; omega, hw, fun j hj => ?_⟩
        simp only [rMid, hstep _ he, Bool.or_false]
    · have hd : ¬ s < t := by have := of_decide_eq_false hd; omega
      obtain rfl : s = t := by omega
      refine ⟨s + 1, by omega, mu_of (by simp only [lRa1]; omega), wrU (n := ag.length) hc hA, fun j hj => rfl⟩
  · have hc : ¬ i + t < ag.length := by have := of_decide_eq_false hc; omega
    obtain rfl : t = ag.length - i := by omega
    exact fun _ _ => rfl
theorem fo27 : fnOk Try.prog 27 := ⟨Try.f27, Try.func27, by kernel_rfl, by kernel_rfl⟩
def nRch (ag fr : List Int) : List MBlk → List SV → Option AR := fun m vs => match vs with
  | [x, y, .i .i64 i] => match ckI m x, ckI m y with
    | some (_, n, n', a), some (_, k, k', b) => some ⟨[n = n', k = k', a = ag, b = fr, LI ag, ag.length = fr.length, 0 ≤ i, i ≤ (ag.length : Int)], .sl m.length ag.length, [.oarr 4 ag.length [.bool (rF ag fr i.toNat (ag.length - i.toNat))]]⟩
    | _, _ => none
  | _ => none
theorem c27 (ag fr : List Int) : CallOk Try.prog [] 27 (nRch ag fr) := by
  refine callOk_nil Try.func27 fo27 fun m vs ar h hp => ?_
  unfold nRch at h
  split at h
  · rename_i x y i
    split at h
    · rename_i r n n' l q k k' b hx hy
      simp only [Option.some.injEq] at h
      subst h
      have hn : n = n' := hp _ (by simp)
      have hk : k = k' := hp _ (by simp)
      have e1 : l = ag := hp _ (by simp)
      have e2 : b = fr := hp _ (by simp)
      subst e1 e2
      have p1 : LI l := hp _ (by simp)
      have p2 : l.length = b.length := hp _ (by simp)
      have p3 : 0 ≤ i := hp _ (by simp)
      have p4 : i ≤ (l.length : Int) := hp _ (by simp)
      obtain ⟨j, rfl⟩ : ∃ j : Nat, i = j := ⟨i.toNat, by omega⟩
      exact ⟨_, tabOk (loops := [(0, .of (lRa1 l b j)), (2, lRa2 l b j)]) mNil, two r q, [intArr l, intArr b], [.sl 0 l.length, .sl 1 b.length, .i .i64 (j : Int)], fun ρ xs h => h.conv2 (fun v hv => ckI_den hx hn rfl hv) (fun _ h => h.conv2 (fun v hv => ckI_den hy hk rfl hv) (fun _ h => h.conv2 (fun v hv => hv.iAs) (fun _ h => h.nilc))), rfl, rfl, knI hx hn hy hk, fun g i hi => absurd hi (by simp [tab, assoc]), .inr ⟨.sl 0 _, 4, _, _, rfl, by simp, rfl, rfl, v27 l b j p2 (by omega) p1⟩⟩
    · cases h
  · cases h
end Go.Proofs.Ythdmdlipifpbhaa
