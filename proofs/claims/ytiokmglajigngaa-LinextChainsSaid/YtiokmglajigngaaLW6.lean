/-
  For every input the law LinextChains (modelchecklaw05) returns true, and the input reads behind the call as it did before: for two chains of at most 32 elements Downsets is the product of the lengths plus one and Count is a binomial coefficient.
  Conditions: none.
-/
import Derived.Test.YtiokmglajigngaaLLaw
import Derived.Test.YtiokmglajigngaaLM33
namespace Go.Proofs.Ytiokmglajigngaa
open Go Go.Proofs.Ytiokmglajigngaa.Sx Go.ChangeShapes Go.WideShapes Go.ChangeAt Go.RowKit
set_option maxRecDepth 100000
set_option linter.unusedSimpArgs false
set_option linter.unusedVariables false
namespace LinextChains
theorem contract (H : Type) (enc : TypeId × Value → H) (W : World) (base : Nat) (args : Array Value) (ds gs : List (DataW H)) (before : List MemPlace)
    (hval : ∀ (j : Nat) t v, Try.f6.params[j]? = some t → args[j]? = some v → Value.okWide Try.prog W .any base t v)
    (hW : DataW.Whole enc Try.prog Try.f6.params.toList Rows.linextChainsSpec.vars false W args.toList ds gs before) :
    Calls Try.prog 6 args W fun e W' => ∃ v, e = .returned v ∧ Rows.linextChainsSpec.post enc Try.prog Try.f6 false true false false W args v W' := by
  have hW' := hW
  obtain ⟨p, q, hA, hV, hb, hfz, hnd⟩ := hW
  rw [Try.params6] at hA hval
  obtain ⟨v0, vs0, d0, ds0, p0, q0, hargs, rfl, rfl, h0, r0⟩ := trodAll_cons hA
  obtain ⟨v1, vs1, d1, ds1, p1, q1, rfl, rfl, rfl, h1, r1⟩ := trodAll_cons r0
  obtain ⟨rfl, rfl, rfl⟩ := trodAll_nil r1
  obtain rfl : args = #[v0, v1] := by cases args; simp_all
  obtain ⟨rfl, rfl⟩ := trodVars_none hV
  obtain ⟨n0, rfl, rfl, rfl, k0⟩ := open_int (k := .u8) (by kernel_rfl) (hval 0 _ _ rfl rfl) h0
  obtain ⟨n1, rfl, rfl, rfl, k1⟩ := open_int (k := .u8) (by kernel_rfl) (hval 1 _ _ rfl rfl) h1
  let ys : List (Option Addr × Nat) := []
  let E : Nat → Option (Option Addr × Nat) := fun i => ys[i]?
  have hbr : ∀ i k, ([] : List MBlk)[i]? = some k → BR (argEnv W E) W i k := fun i k hk => by
    match i, hk with

    | i + 0, hk => simp at hk
  have hden : DenL (argEnv W E) [.i .u8 n0, .i .u8 n1] [.int .u8 n0, .int .u8 n1] := DenL.cons (.i _ _) (DenL.cons (.i _ _) (DenL.nil _))
  refine (law_goN ys (T := tabT [kCnt [none, some (.ps (triP (n0 % 33).toNat (n1 % 33).toNat ((n0 % 33).toNat + (n1 % 33).toNat)))], kDws [none, some (.ps (triP (n0 % 33).toNat (n1 % 33).toNat ((n0 % 33).toNat + (n1 % 33).toNat)))], kAwk [], kCho []] [] [(0, .of (lTr (n0 % 33).toNat (n1 % 33).toNat ((n0 % 33).toNat + (n1 % 33).toNat) 8 1 0))] [(3, fun _ _ => [.fresh 0 1 40 2])] [] []) (tabTOk (mOne (n24 _) (mOne (n22 _) (mOne (n13 _) (mOne (n26 _) mNil)))) (fun p hp => by cases hp)) rfl rfl Try.func6 rfl rfl hbr hden (v6 n0 n1 (u8_rng k0) (u8_rng k1))).mono fun e W' ⟨he, hbl⟩ => ⟨_, he, ?_⟩
  exact post_law laidOut' (by kernel_rfl) (tb := 4) (by kernel_rfl) (by kernel_rfl) rfl rfl hW' hbl

theorem reads (os : Os) {H : Type} (enc : TypeId × Value → H) : ∃ places, DataW.whole enc Try.prog ((w0 os).forCall (fun _ _ => 0) ⟨#[], #[.int .u8 0, .int .u8 0], []⟩).memory Try.f6.params.toList Rows.linextChainsSpec.vars false (#[.int .u8 0, .int .u8 0] : Array Value).toList 8 = some ([.lit (.int .u8 0), .lit (.int .u8 0)], [], places) :=
  ⟨[], by kernel_rfl⟩
theorem lifted (os : Os) (started : os.Started) (H : Type) (enc : TypeId × Value → H) (F : Stop.Interp) :
    ReturnsInHanded {} Try.checked os 6 .any ((OpenSpec.ofChange Rows.linextChainsSpec).preRow enc Try.prog Try.f6 Rows.linextChainsRow.domain false Rows.linextChainsRow.laid) (((OpenSpec.ofChange Rows.linextChainsSpec).at F).post enc Try.prog Try.f6 false true false false) := by
  obtain ⟨places, hx⟩ := reads os enc
  refine returnsInHanded_of_row (C := Try.checked) (s := OpenSpec.ofChange Rows.linextChainsSpec) own' started (by kernel_rfl) Try.func6
    (witness_row_at (enc := enc) (C := Try.checked) false (w0 os) #[.int .u8 0, .int .u8 0] rfl (by kernel_rfl) (by kernel_rfl) (by kernel_rfl)
      (OpenSpec.preRow_of_cond 8 hx (by kernel_rfl) (fun k hk => by cases hk) (by kernel_rfl) ⟨[], rfl, List.nodup_nil, fun _ _ h => by cases h⟩)) ?_
  intro W base args ds gs before hval hW _ _ _ hL _ _
  exact contract H enc W base args ds gs before hval hW
theorem said : Rows.LinextChainsSaid :=
  OpenClaim.holds_of_cond 6 Try.f6 rfl rfl rfl rfl rfl rfl rfl ⟨rfl, rfl, rfl, rfl, rfl⟩ rfl rfl rfl rfl rfl (by kernel_rfl) Try.func6 (by kernel_rfl)
    (of_decide_eq_true (by kernel_rfl)) (by unfold Func.isWrapper; first | (rw [if_pos (by decide +kernel)]; kernel_rfl) | (rw [if_neg (by decide +kernel)]; exact ⟨rfl, rfl⟩))
    (fun os started H enc _ F => by rw [OpenClaim.pre_eq_preRow]; exact lifted os started H enc F)
end LinextChains
end Go.Proofs.Ytiokmglajigngaa
