/-
  A part of the proof (Cl8).
-/
import Derived.Test.YthdmdlipifpbhaaClNm2
namespace Go.Proofs.Ythdmdlipifpbhaa
open Go Go.Proofs.Ythdmdlipifpbhaa.Sx
set_option maxRecDepth 100000
set_option linter.unusedSimpArgs false
set_option linter.unusedVariables false
def kRa : Nat × (List MBlk → List SV → Option AR) := (16, rC1i (fun l _ => L40 l) raL)
def nm5 (a b : List Tk) : List (List Tk) := [a, b, jnL a b, rjL a b, meetL a b, rmL a b]
def nm7 (a b c up dn u2 d2 : List Tk) : List (List Tk) := [a, b, c, up, dn, u2, d2]
def cs5 (nm : List (List Tk)) : Calling := [(9, fLv), (17, mR2 nm (fun a b => L40 a ∧ L40 b) jnL), (18, mR2 nm (fun a b => L40 a ∧ L40 b) rjL), (19, mR2 nm (fun a b => L40 a ∧ L40 b) meetL), (20, mR2 nm (fun a b => L40 a ∧ L40 b) rmL), (21, nC2 nm (fun a b => L40 a ∧ L40 b) fun a b => .b (lessL a b)), (22, nC2 nm (fun a b => L40 a ∧ L40 b) fun a b => .b (rlL a b)), (23, nC2 nm (fun a b => L40 a ∧ L40 b) fun a b => .b (concL a b)), (24, nC2 nm (fun a b => L40 a ∧ L40 b) fun a b => .b (rcL a b)), (14, nC2 nm (fun a _ => L40 a) fun a b => .b (sameL a b)), (12, nC1 nm L40 fun l => .b (validL l)), (13, nC1 nm L40 fun l => .b (validL l))]
theorem mcR (nm : List (List Tk)) : ∀ p ∈ cs5 nm, CallOk Try.prog [] p.1 p.2 := mOne c9 (mOne (okMR2 c17) (mOne (okMR2 c18) (mOne (okMR2 c19) (mOne (okMR2 c20) (mOne (okNC2 c21) (mOne (okNC2 c22) (mOne (okNC2 c23) (mOne (okNC2 c24) (mOne (okNC2 c14) (mOne (okNC1 c12) (mOne (okNC1 c13) mNil)))))))))))
theorem mcA : ∀ p ∈ [(9, fLv), kAdv, kRa, kSame], CallOk Try.prog [] p.1 p.2 := mOne c9 (mOne c15 (mOne c16 (mOne c14 mNil)))
theorem raL_len (l : List Tk) (a : Int) : (raL l a).length ≤ l.length + 1 := by
  unfold raL
  cases validL l && !(cntL l a == 2147483647)
  · simp
  · simp only [cond_true, mkL_len]; exact agsL_len l (oneT a)
theorem rjL_len (a b : List Tk) : (rjL a b).length ≤ a.length + b.length := by
  unfold rjL
  cases validL a && validL b
  · simp
  · simp only [cond_true, mkL_len]; exact agsL_len a b
theorem rmL_len (a b : List Tk) : (rmL a b).length ≤ a.length + b.length := by
  unfold rmL
  cases validL a && validL b
  · simp
  · exact Nat.le_trans (rmO_len a b _ _) (agsL_len a b)
theorem same_refl (a : List Tk) : sameL a a = true := same_iff.2 rfl
theorem v4_eq (l : List Tk) (a : Int) : (fnVc (tab [(9, fLv), kAdv, kRa, kSame] []) Try.f4 [.sl 0 l.length, .i .i64 a] [clkArr l] (plainIs .tt)) = ((decide ((↑l.length : Int) > (40 : Int)) = true → true = true) ∧
 (decide ((↑l.length : Int) > (40 : Int)) = false →
 l.length = l.length ∧
 (mkL l.length (agF l) (ctF l)).length ≤ (1099511627776 : Nat) ∧
 l.length = l.length ∧
 (mkL l.length (agF l) (ctF l)).length ≤ (1099511627776 : Nat) ∧
 (advanceL (mkL l.length (agF l) (ctF l)) a).length = (advanceL (mkL l.length (agF l) (ctF l)) a).length ∧
 (raL (mkL l.length (agF l) (ctF l)) a).length = (raL (mkL l.length (agF l) (ctF l)) a).length ∧
 (mkL (advanceL (mkL l.length (agF l) (ctF l)) a).length
 (agF (advanceL (mkL l.length (agF l) (ctF l)) a))
 (ctF (advanceL (mkL l.length (agF l) (ctF l)) a))).length ≤
 (1099511627776 : Nat) ∧
 (sameL
 (mkL (advanceL (mkL l.length (agF l) (ctF l)) a).length
 (agF (advanceL (mkL l.length (agF l) (ctF l)) a))
 (ctF (advanceL (mkL l.length (agF l) (ctF l)) a)))
 (mkL (raL (mkL l.length (agF l) (ctF l)) a).length (agF (raL (mkL l.length (agF l) (ctF l)) a))
 (ctF (raL (mkL l.length (agF l) (ctF l)) a))) ||
 false) =
 true)) := by kernel_rfl
theorem v4 (l : List Tk) (a : Int)  : fnVc (tab [(9, fLv), kAdv, kRa, kSame] []) Try.f4 [.sl 0 l.length, .i .i64 a] [clkArr l] (plainIs .tt) := by
  rw [v4_eq]
  refine ⟨fun _ => rfl, fun h => ?_⟩
  have hA : l.length ≤ 40 := by have := of_decide_eq_false h; omega
  have h1 : (raL l a).length ≤ 1099511627776 := Nat.le_trans (raL_len l a) (by omega)
  have h2 : l.length ≤ 1099511627776 := by omega
  simp only [mkL_self, adv_eq, same_refl, h1, h2, Bool.true_or, and_self]
theorem v5_eq (a b : List Tk) : (fnVc (tab (cs5 (nm5 a b)) []) Try.f5 [.sl 0 a.length, .sl 1 b.length] [clkArr a, clkArr b] (plainIs .tt)) = (((decide ((↑a.length : Int) > (40 : Int)) || decide ((↑b.length : Int) > (40 : Int))) = true → true = true) ∧
 ((decide ((↑a.length : Int) > (40 : Int)) || decide ((↑b.length : Int) > (40 : Int))) = false →
 a.length = a.length ∧
 b.length = b.length ∧
 mkL a.length (agF a) (ctF a) = a ∧
 mkL b.length (agF b) (ctF b) = b ∧
 (a.length ≤ (1099511627776 : Nat) ∧ b.length ≤ (1099511627776 : Nat)) ∧
 jnL a b = jnL a b ∧
 a.length = a.length ∧
 b.length = b.length ∧
 mkL a.length (agF a) (ctF a) = a ∧
 mkL b.length (agF b) (ctF b) = b ∧
 (a.length ≤ (1099511627776 : Nat) ∧ b.length ≤ (1099511627776 : Nat)) ∧
 rjL a b = rjL a b ∧
 (jnL a b).length = (jnL a b).length ∧
 (rjL a b).length = (rjL a b).length ∧
 mkL (jnL a b).length (agF (jnL a b)) (ctF (jnL a b)) = jnL a b ∧
 mkL (rjL a b).length (agF (rjL a b)) (ctF (rjL a b)) = rjL a b ∧
 (jnL a b).length ≤ (1099511627776 : Nat) ∧
 (sameL (jnL a b) (rjL a b) = true → a.length = a.length) ∧
 (sameL (jnL a b) (rjL a b) = true → b.length = b.length) ∧
 (sameL (jnL a b) (rjL a b) = true → mkL a.length (agF a) (ctF a) = a) ∧
 (sameL (jnL a b) (rjL a b) = true → mkL b.length (agF b) (ctF b) = b) ∧
 (sameL (jnL a b) (rjL a b) = true →
 a.length ≤ (1099511627776 : Nat) ∧ b.length ≤ (1099511627776 : Nat)) ∧
 (sameL (jnL a b) (rjL a b) = true → meetL a b = meetL a b) ∧
 (sameL (jnL a b) (rjL a b) = true → a.length = a.length) ∧
 (sameL (jnL a b) (rjL a b) = true → b.length = b.length) ∧
 (sameL (jnL a b) (rjL a b) = true →
 mkL a.length (agF a) (ctF a) = a) ∧
 (sameL (jnL a b) (rjL a b) = true →
 mkL b.length (agF b) (ctF b) = b) ∧
 (sameL (jnL a b) (rjL a b) = true →
 a.length ≤ (1099511627776 : Nat) ∧
 b.length ≤ (1099511627776 : Nat)) ∧
 (sameL (jnL a b) (rjL a b) = true → rmL a b = rmL a b) ∧
 (sameL (jnL a b) (rjL a b) = true →
 (meetL a b).length = (meetL a b).length) ∧
 (sameL (jnL a b) (rjL a b) = true →
 (rmL a b).length = (rmL a b).length) ∧
 (sameL (jnL a b) (rjL a b) = true →
 mkL (meetL a b).length (agF (meetL a b))
 (ctF (meetL a b)) =
 meetL a b) ∧
 (sameL (jnL a b) (rjL a b) = true →
 mkL (rmL a b).length (agF (rmL a b))
 (ctF (rmL a b)) =
 rmL a b) ∧
 (sameL (jnL a b) (rjL a b) = true →
 (meetL a b).length ≤ (1099511627776 : Nat)) ∧
 ((sameL (jnL a b) (rjL a b) &&
 sameL (meetL a b) (rmL a b)) =
 true →
 a.length = a.length) ∧
 ((sameL (jnL a b) (rjL a b) &&
 sameL (meetL a b) (rmL a b)) =
 true →
 b.length = b.length) ∧
 ((sameL (jnL a b) (rjL a b) &&
 sameL (meetL a b) (rmL a b)) =
 true →
 mkL a.length (agF a) (ctF a) = a) ∧
 ((sameL (jnL a b) (rjL a b) &&
 sameL (meetL a b) (rmL a b)) =
 true →
 mkL b.length (agF b) (ctF b) = b) ∧
 ((sameL (jnL a b) (rjL a b) &&
 sameL (meetL a b) (rmL a b)) =
 true →
 a.length ≤ (1099511627776 : Nat) ∧
 b.length ≤
 (1099511627776 : Nat)) ∧
 ((sameL (jnL a b) (rjL a b) &&
 sameL (meetL a b) (rmL a b)) =
 true →
 a.length = a.length) ∧
 ((sameL (jnL a b) (rjL a b) &&
 sameL (meetL a b)
 (rmL a b)) =
 true →
 b.length = b.length) ∧
 ((sameL (jnL a b) (rjL a b) &&
 sameL (meetL a b)
 (rmL a b)) =
 true →
 mkL a.length (agF a) (ctF a) =
 a) ∧
 ((sameL (jnL a b) (rjL a b) &&
 sameL (meetL a b)
 (rmL a b)) =
 true →
 mkL b.length (agF b)
 (ctF b) =
 b) ∧
 ((sameL (jnL a b) (rjL a b) &&
 sameL (meetL a b)
 (rmL a b)) =
 true →
 a.length ≤
 (1099511627776 :
 Nat) ∧
 b.length ≤
 (1099511627776 :
 Nat)) ∧
 ((sameL (jnL a b)
 (rjL a b) &&
 sameL (meetL a b)
 (rmL a b) &&
 lessL a b ==
 rlL a b) =
 true →
 a.length = a.length) ∧
 ((sameL (jnL a b)
 (rjL a b) &&
 sameL
 (meetL a b)
 (rmL a b) &&
 lessL a b ==
 rlL a b) =
 true →
 b.length = b.length) ∧
 ((sameL (jnL a b)
 (rjL a b) &&
 sameL
 (meetL a b)
 (rmL a b) &&
 lessL a b ==
 rlL a b) =
 true →
 mkL a.length (agF a)
 (ctF a) =
 a) ∧
 ((sameL (jnL a b)
 (rjL a
 b) &&
 sameL
 (meetL a
 b)
 (rmL a
 b) &&
 lessL a b ==
 rlL a b) =
 true →
 mkL b.length
 (agF b)
 (ctF b) =
 b) ∧
 ((sameL (jnL a b)
 (rjL a
 b) &&
 sameL
 (meetL a
 b)
 (rmL a
 b) &&
 lessL a b ==
 rlL a b) =
 true →
 a.length ≤
 (1099511627776 :
 Nat) ∧
 b.length ≤
 (1099511627776 :
 Nat)) ∧
 ((sameL (jnL a b)
 (rjL a
 b) &&
 sameL
 (meetL
 a b)
 (rmL a
 b) &&
 lessL a
 b ==
 rlL a
 b) =
 true →
 a.length =
 a.length) ∧
 ((sameL
 (jnL
 a
 b)
 (rjL
 a
 b) &&
 sameL
 (meetL
 a
 b)
 (rmL
 a
 b) &&
 lessL a
 b ==
 rlL a
 b) =
 true →
 b.length =
 b.length) ∧
 ((sameL
 (jnL
 a
 b)
 (rjL
 a
 b) &&
 sameL
 (meetL
 a
 b)
 (rmL
 a
 b) &&
 lessL
 a
 b ==
 rlL
 a
 b) =
 true →
 mkL
 a.length
 (agF
 a)
 (ctF
 a) =
 a) ∧
 ((sameL
 (jnL
 a
 b)
 (rjL
 a
 b) &&
 sameL
 (meetL
 a
 b)
 (rmL
 a
 b) &&
 lessL
 a
 b ==
 rlL
 a
 b) =
 true →
 mkL
 b.length
 (agF
 b)
 (ctF
 b) =
 b) ∧
 ((sameL
 (jnL
 a
 b)
 (rjL
 a
 b) &&
 sameL
 (meetL
 a
 b)
 (rmL
 a
 b) &&
 lessL
 a
 b ==
 rlL
 a
 b) =
 true →
 a.length ≤
 (1099511627776 :
 Nat) ∧
 b.length ≤
 (1099511627776 :
 Nat)) ∧
 (sameL
 (jnL
 a
 b)
 (rjL
 a
 b) &&
 sameL
 (meetL
 a
 b)
 (rmL
 a
 b) &&
 lessL
 a
 b ==
 rlL
 a
 b &&
 concL
 a
 b ==
 rcL
 a
 b ||
 false) =
 true)) := by kernel_rfl
theorem v5 (a b : List Tk)  : fnVc (tab (cs5 (nm5 a b)) []) Try.f5 [.sl 0 a.length, .sl 1 b.length] [clkArr a, clkArr b] (plainIs .tt) := by
  rw [v5_eq]
  refine ⟨fun _ => rfl, fun h => ?_⟩
  obtain ⟨ha, hb⟩ := Bool.or_eq_false_iff.1 h
  have hA : a.length ≤ 40 := by have := of_decide_eq_false ha; omega
  have hB : b.length ≤ 40 := by have := of_decide_eq_false hb; omega
  have h1 : (rjL a b).length ≤ 1099511627776 := Nat.le_trans (rjL_len a b) (by omega)
  have h2 : (rmL a b).length ≤ 1099511627776 := Nat.le_trans (rmL_len a b) (by omega)
  have h3 : a.length ≤ 1099511627776 := by omega
  have h4 : b.length ≤ 1099511627776 := by omega
  simp only [mkL_self, jn_eq, meet_eq, less_eq, conc_eq, same_refl, h1, h2, h3, h4, Bool.true_or, Bool.or_false, Bool.and_self, Bool.true_and, beq_self_eq_true, and_self, implies_true]
end Go.Proofs.Ythdmdlipifpbhaa
