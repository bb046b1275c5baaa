/-
  For every input the law ClockGets (modelchecklaw03) returns true, and the input reads behind the call as it did before: Valid and Get of a clock of at most 40 ticks answer as the reference does.
  Conditions: none.
-/
import Derived.Test.YthdmdlipifpbhaaClLaw2
namespace Go.Proofs.Ythdmdlipifpbhaa
open Go Go.Proofs.Ythdmdlipifpbhaa.Sx Go.ChangeShapes Go.WideShapes Go.ChangeAt Go.RowKit
set_option maxRecDepth 100000
set_option linter.unusedSimpArgs false
set_option linter.unusedVariables false
def lGets (l : List Tk) : LAnn := { X := Nat, inv := fun i => i ≤ l.length, slots := fun i => [(5, .i .i64 i)], mem := fun _ => [], mu := fun i => l.length - i }
theorem v3_eq (l : List Tk) (a : Int) : (fnVc (tab [(9, fLv), kGet, kGet', kV, kV'] [(0, .of (lGets l))]) Try.f3 [.sl 0 l.length, .i .i64 a] [clkArr l] (plainIs .tt)) = ((decide ((↑l.length : Int) > 40) = true → true = true) ∧
 (decide ((↑l.length : Int) > 40) = false →
 ∃ (x : PUnit),
 (∃ (x : Nat), x ≤ l.length ∧ (0 = (↑x : Int) ∧ True) ∧ True) ∧
 ∀ (x_1 : Nat),
 x_1 ≤ l.length →
 (decide ((↑x_1 : Int) < (↑l.length : Int)) = true →
 (0 ≤ (↑x_1 : Int) ∧ (↑x_1 : Int) < (↑l.length : Int)) ∧
 x_1 < l.length ∧
 l.length = l.length ∧
 (mkL l.length (agF l) (ctF l)).length ≤ 1099511627776 ∧
 (0 ≤ (↑x_1 : Int) ∧ (↑x_1 : Int) < (↑l.length : Int)) ∧
 x_1 < l.length ∧
 l.length = l.length ∧
 (mkL l.length (agF l) (ctF l)).length ≤ 1099511627776 ∧
 ((getL (mkL l.length (agF l) (ctF l)) (agF l x_1) !=
 getL (mkL l.length (agF l) (ctF l)) (agF l x_1)) =
 true →
 false = true) ∧
 ((getL (mkL l.length (agF l) (ctF l)) (agF l x_1) !=
 getL (mkL l.length (agF l) (ctF l)) (agF l x_1)) =
 false →
 ∃ (x_2 : Nat),
 x_2 ≤ l.length ∧
 ((PLoop.of (lGets l)).ann x).mu x_2 < ((PLoop.of (lGets l)).ann x).mu x_1 ∧
 (l.length = l.length ∧
 a = a ∧
 IntKind.i64.wrap ((↑x_1 : Int) + 1) = (↑x_2 : Int) ∧
 l.length = l.length ∧
 (↑l.length : Int) = (↑l.length : Int) ∧ false = false ∧ True) ∧
 (l.length = l.length ∧
 (∀ (j : Nat), j < l.length → agF l j = agF l j) ∧
 (∀ (j : Nat), j < l.length → ctF l j = ctF l j) ∧ True) ∧
 True)) ∧
 (decide ((↑x_1 : Int) < (↑l.length : Int)) = false →
 l.length = l.length ∧
 (mkL l.length (agF l) (ctF l)).length ≤ 1099511627776 ∧
 l.length = l.length ∧
 (mkL l.length (agF l) (ctF l)).length ≤ 1099511627776 ∧
 ((validL (mkL l.length (agF l) (ctF l)) == validL (mkL l.length (agF l) (ctF l))) = true →
 l.length = l.length) ∧
 ((validL (mkL l.length (agF l) (ctF l)) == validL (mkL l.length (agF l) (ctF l))) = true →
 (mkL l.length (agF l) (ctF l)).length ≤ 1099511627776) ∧
 ((validL (mkL l.length (agF l) (ctF l)) == validL (mkL l.length (agF l) (ctF l))) = true →
 l.length = l.length) ∧
 ((validL (mkL l.length (agF l) (ctF l)) == validL (mkL l.length (agF l) (ctF l))) = true →
 (mkL l.length (agF l) (ctF l)).length ≤ 1099511627776) ∧
 (validL (mkL l.length (agF l) (ctF l)) == validL (mkL l.length (agF l) (ctF l)) &&
 getL (mkL l.length (agF l) (ctF l)) a == getL (mkL l.length (agF l) (ctF l)) a ||
 false) =
 true))) := by kernel_rfl
theorem v3 (l : List Tk) (a : Int)  : fnVc (tab [(9, fLv), kGet, kGet', kV, kV'] [(0, .of (lGets l))]) Try.f3 [.sl 0 l.length, .i .i64 a] [clkArr l] (plainIs .tt) := by
  rw [v3_eq]
  refine ⟨fun _ => rfl, fun hl => ?_⟩
  have hl' : l.length ≤ 40 := by have := of_decide_eq_false hl; omega
  refine ⟨⟨⟩, ⟨0, Nat.zero_le _, ⟨rfl, trivial⟩, trivial⟩, fun i hi => ⟨fun hc => ?_, fun _ => ?_⟩⟩
  · have hc' : i < l.length := by simpa using hc
    simp only [mkL_self, bne_self_eq_false, Bool.false_eq_true, false_implies, true_and, forall_const]
    refine ⟨⟨by omega, by omega⟩, hc', by omega, ⟨by omega, by omega⟩, hc', by omega, i + 1, by omega, ?_, ?_, ?_⟩
    · simp only [PLoop.of, lGets]; omega
    · exact ⟨wrS (n := l.length) (by omega) (by omega), trivial⟩
    · simp
  · simp only [mkL_self]
    simp
    omega
theorem mcG : ∀ p ∈ [(9, fLv), kGet, kGet', kV, kV'], CallOk Try.prog [] p.1 p.2 := mOne c9 (mOne c10 (mOne c11 (mOne c12 (mOne c13 mNil))))
namespace ClockGets
theorem contract (H : Type) (enc : TypeId × Value → H) (W : World) (base : Nat) (args : Array Value) (ds gs : List (DataW H)) (before : List MemPlace)
    (hval : ∀ (j : Nat) t v, Try.f3.params[j]? = some t → args[j]? = some v → Value.okWide Try.prog W .any base t v)
    (hW : DataW.Whole enc Try.prog Try.f3.params.toList Rows.clockGetsSpec.vars false W args.toList ds gs before) :
    Calls Try.prog 3 args W fun e W' => ∃ v, e = .returned v ∧ Rows.clockGetsSpec.post enc Try.prog Try.f3 false true false false W args v W' := by
  have hW' := hW
  obtain ⟨p, q, hA, hV, hb, hfz, hnd⟩ := hW
  rw [Try.params3] at hA hval
  obtain ⟨v0, vs0, d0, ds0, p0, q0, hargs, rfl, rfl, h0, r0⟩ := trodAll_cons hA
  obtain ⟨v1, vs1, d1, ds1, p1, q1, rfl, rfl, rfl, h1, r1⟩ := trodAll_cons r0
  obtain ⟨rfl, rfl, rfl⟩ := trodAll_nil r1
  obtain rfl : args = #[v0, v1] := by cases args; simp_all
  obtain ⟨rfl, rfl⟩ := trodVars_none hV
  obtain ⟨l0, y0, z0⟩ := open_clk (hval 0 _ _ rfl rfl) h0
  obtain ⟨n1, rfl, rfl, rfl, k1⟩ := open_int (k := .i64) (by kernel_rfl) (hval 1 _ _ rfl rfl) h1
  let ys : List (Option Addr × Nat) := [y0]
  let E : Nat → Option (Option Addr × Nat) := fun i => ys[i]?
  have hbr : ∀ i k, ([clkArr l0] : List MBlk)[i]? = some k → BR (argEnv W E) W i k := fun i k hk => by
    match i, hk with
    | 0, hk => simp only [List.getElem?_cons_succ, List.getElem?_cons_zero, Option.some.injEq] at hk; subst hk; exact (z0 E 0 rfl).1
    | i + 1, hk => simp at hk
  have hden : DenL (argEnv W E) [.sl 0 l0.length, .i .i64 n1] [v0, .int .i64 n1] := DenL.cons (z0 E 0 rfl).2 (DenL.cons (.i _ _) (DenL.nil _))
  refine (law_goN ys (T := tab [(9, fLv), kGet, kGet', kV, kV'] [(0, .of (lGets l0))]) (tabOk (loops := [(0, .of (lGets l0))]) mcG) rfl Try.func3 rfl rfl hbr hden (v3 l0 n1)).mono fun e W' ⟨he, hbl⟩ => ⟨_, he, ?_⟩
  exact post_law laidOut' (by kernel_rfl) (tb := 4) (by kernel_rfl) (by kernel_rfl) rfl rfl hW' hbl

theorem reads (os : Os) {H : Type} (enc : TypeId × Value → H) : ∃ places, DataW.whole enc Try.prog ((w0 os).forCall (fun _ _ => 0) ⟨#[], #[.slice none 0 0, .int .i64 0], []⟩).memory Try.f3.params.toList Rows.clockGetsSpec.vars false (#[.slice none 0 0, .int .i64 0] : Array Value).toList 8 = some ([.nil, .lit (.int .i64 0)], [], places) :=
  ⟨[], by kernel_rfl⟩
theorem lifted (os : Os) (started : os.Started) (H : Type) (enc : TypeId × Value → H) (F : Stop.Interp) :
    ReturnsInHanded {} Try.checked os 3 .any ((OpenSpec.ofChange Rows.clockGetsSpec).preRow enc Try.prog Try.f3 Rows.clockGetsRow.domain false Rows.clockGetsRow.laid) (((OpenSpec.ofChange Rows.clockGetsSpec).at F).post enc Try.prog Try.f3 false true false false) := by
  obtain ⟨places, hx⟩ := reads os enc
  refine returnsInHanded_of_row (C := Try.checked) (s := OpenSpec.ofChange Rows.clockGetsSpec) own' started (by kernel_rfl) Try.func3
    (witness_row_at (enc := enc) (C := Try.checked) false (w0 os) #[.slice none 0 0, .int .i64 0] rfl (by kernel_rfl) (by kernel_rfl) (by kernel_rfl)
      (OpenSpec.preRow_of_cond 8 hx (by kernel_rfl) (fun k hk => by cases hk) (by kernel_rfl) ⟨[], rfl, List.nodup_nil, fun _ _ h => by cases h⟩)) ?_
  intro W base args ds gs before hval hW _ _ _ hL _ _
  exact contract H enc W base args ds gs before hval hW
theorem said : Rows.ClockGetsSaid :=
  OpenClaim.holds_of_cond 3 Try.f3 rfl rfl rfl rfl rfl rfl rfl ⟨rfl, rfl, rfl, rfl, rfl⟩ rfl rfl rfl rfl rfl (by kernel_rfl) Try.func3 (by kernel_rfl)
    (of_decide_eq_true (by kernel_rfl)) (by unfold Func.isWrapper; first | (rw [if_pos (by decide +kernel)]; kernel_rfl) | (rw [if_neg (by decide +kernel)]; exact ⟨rfl, rfl⟩))
    (fun os started H enc _ F => by rw [OpenClaim.pre_eq_preRow]; exact lifted os started H enc F)
end ClockGets
end Go.Proofs.Ythdmdlipifpbhaa
