/-
  For every input the law LinextTriples (modelchecklaw05) returns true, and the input reads behind the call as it did before: for three chains of at most 21 elements Downsets is the product of the lengths plus one, and Count is the product of two binomial coefficients, or ErrLimit where that exceeds the greatest number.
  Conditions: none.
-/
import Derived.Test.YtiokmglajigngaaLLaw
import Derived.Test.YtiokmglajigngaaLM33
namespace Go.Proofs.Ytiokmglajigngaa
open Go Go.Proofs.Ytiokmglajigngaa.Sx Go.ChangeShapes Go.WideShapes Go.ChangeAt Go.RowKit
set_option maxRecDepth 100000
set_option linter.unusedSimpArgs false
set_option linter.unusedVariables false
namespace LinextTriples
theorem contract (H : Type) (enc : TypeId × Value → H) (W : World) (base : Nat) (args : Array Value) (ds gs : List (DataW H)) (before : List MemPlace)
    (hval : ∀ (j : Nat) t v, Try.f7.params[j]? = some t → args[j]? = some v → Value.okWide Try.prog W .any base t v)
    (hW : DataW.Whole enc Try.prog Try.f7.params.toList Rows.linextTriplesSpec.vars false W args.toList ds gs before) :
    Calls Try.prog 7 args W fun e W' => ∃ v, e = .returned v ∧ Rows.linextTriplesSpec.post enc Try.prog Try.f7 false true false false W args v W' := by
  have hW' := hW
  obtain ⟨p, q, hA, hV, hb, hfz, hnd⟩ := hW
  rw [Try.params7] at hA hval
  obtain ⟨v0, vs0, d0, ds0, p0, q0, hargs, rfl, rfl, h0, r0⟩ := trodAll_cons hA
  obtain ⟨v1, vs1, d1, ds1, p1, q1, rfl, rfl, rfl, h1, r1⟩ := trodAll_cons r0
  obtain ⟨v2, vs2, d2, ds2, p2, q2, rfl, rfl, rfl, h2, r2⟩ := trodAll_cons r1
  obtain ⟨rfl, rfl, rfl⟩ := trodAll_nil r2
  obtain rfl : args = #[v0, v1, v2] := by cases args; simp_all
  obtain ⟨rfl, rfl⟩ := trodVars_none hV
  obtain ⟨n0, rfl, rfl, rfl, k0⟩ := open_int (k := .u8) (by kernel_rfl) (hval 0 _ _ rfl rfl) h0
  obtain ⟨n1, rfl, rfl, rfl, k1⟩ := open_int (k := .u8) (by kernel_rfl) (hval 1 _ _ rfl rfl) h1
  obtain ⟨n2, rfl, rfl, rfl, k2⟩ := open_int (k := .u8) (by kernel_rfl) (hval 2 _ _ rfl rfl) h2
  let ys : List (Option Addr × Nat) := []
  let E : Nat → Option (Option Addr × Nat) := fun i => ys[i]?
  have hbr : ∀ i k, ([] : List MBlk)[i]? = some k → BR (argEnv W E) W i k := fun i k hk => by
    match i, hk with

    | i + 0, hk => simp at hk
  have hden : DenL (argEnv W E) [.i .u8 n0, .i .u8 n1, .i .u8 n2] [.int .u8 n0, .int .u8 n1, .int .u8 n2] := DenL.cons (.i _ _) (DenL.cons (.i _ _) (DenL.cons (.i _ _) (DenL.nil _)))
  refine (law_goN ys (T := tabT [kCnt [none, some (.ps (triP (n0 % 22).toNat (n1 % 22).toNat ((n0 % 22).toNat + (n1 % 22).toNat + (n2 % 22).toNat)))], kDws [none, some (.ps (triP (n0 % 22).toNat (n1 % 22).toNat ((n0 % 22).toNat + (n1 % 22).toNat + (n2 % 22).toNat)))], kAwk [], kCho []] [] [(0, .of (lTr (n0 % 22).toNat (n1 % 22).toNat ((n0 % 22).toNat + (n1 % 22).toNat + (n2 % 22).toNat) 11 1 0))] [(3, fun _ _ => [.fresh 0 1 40 2])] [] []) (tabTOk (mOne (n24 _) (mOne (n22 _) (mOne (n13 _) (mOne (n26 _) mNil)))) (fun p hp => by cases hp)) rfl rfl Try.func7 rfl rfl hbr hden (v7 n0 n1 n2 (u8_rng k0) (u8_rng k1) (u8_rng k2))).mono fun e W' ⟨he, hbl⟩ => ⟨_, he, ?_⟩
  exact post_law laidOut' (by kernel_rfl) (tb := 4) (by kernel_rfl) (by kernel_rfl) rfl rfl hW' hbl

theorem reads (os : Os) {H : Type} (enc : TypeId × Value → H) : ∃ places, DataW.whole enc Try.prog ((w0 os).forCall (fun _ _ => 0) ⟨#[], #[.int .u8 0, .int .u8 0, .int .u8 0], []⟩).memory Try.f7.params.toList Rows.linextTriplesSpec.vars false (#[.int .u8 0, .int .u8 0, .int .u8 0] : Array Value).toList 8 = some ([.lit (.int .u8 0), .lit (.int .u8 0), .lit (.int .u8 0)], [], places) :=
  ⟨[], by kernel_rfl⟩
theorem lifted (os : Os) (started : os.Started) (H : Type) (enc : TypeId × Value → H) (F : Stop.Interp) :
    ReturnsInHanded {} Try.checked os 7 .any ((OpenSpec.ofChange Rows.linextTriplesSpec).preRow enc Try.prog Try.f7 Rows.linextTriplesRow.domain false Rows.linextTriplesRow.laid) (((OpenSpec.ofChange Rows.linextTriplesSpec).at F).post enc Try.prog Try.f7 false true false false) := by
  obtain ⟨places, hx⟩ := reads os enc
  refine returnsInHanded_of_row (C := Try.checked) (s := OpenSpec.ofChange Rows.linextTriplesSpec) own' started (by kernel_rfl) Try.func7
    (witness_row_at (enc := enc) (C := Try.checked) false (w0 os) #[.int .u8 0, .int .u8 0, .int .u8 0] rfl (by kernel_rfl) (by kernel_rfl) (by kernel_rfl)
      (OpenSpec.preRow_of_cond 8 hx (by kernel_rfl) (fun k hk => by cases hk) (by kernel_rfl) ⟨[], rfl, List.nodup_nil, fun _ _ h => by cases h⟩)) ?_
  intro W base args ds gs before hval hW _ _ _ hL _ _
  exact contract H enc W base args ds gs before hval hW
theorem said : Rows.LinextTriplesSaid :=
  OpenClaim.holds_of_cond 7 Try.f7 rfl rfl rfl rfl rfl rfl rfl ⟨rfl, rfl, rfl, rfl, rfl⟩ rfl rfl rfl rfl rfl (by kernel_rfl) Try.func7 (by kernel_rfl)
    (of_decide_eq_true (by kernel_rfl)) (by unfold Func.isWrapper; first | (rw [if_pos (by decide +kernel)]; kernel_rfl) | (rw [if_neg (by decide +kernel)]; exact ⟨rfl, rfl⟩))
    (fun os started H enc _ F => by rw [OpenClaim.pre_eq_preRow]; exact lifted os started H enc F)
end LinextTriples
end Go.Proofs.Ytiokmglajigngaa
